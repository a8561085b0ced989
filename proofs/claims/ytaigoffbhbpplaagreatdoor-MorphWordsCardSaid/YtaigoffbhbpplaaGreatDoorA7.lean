import Derived.Test.YtaigoffbhbpplaaGreatDoorA6
/-
  Part 7 of the tool: an abstract machine over the model, proved sound, and what it says of the functions that the law reaches. Condition: none but those that each theorem names.
-/
set_option linter.unusedVariables false
set_option linter.unusedSimpArgs false
set_option maxRecDepth 100000
set_option maxHeartbeats 4000000
namespace Go.Am
open Go.RowKit
section
attribute [local congr] al br aJ ao aH aA aq ah aj aC aD
variable{E:aX}(M:bR bN E)
theorem Y0{H H0:List AObj}{e q:Int}{x:ak}{n0:Nat}(hx0:x.ok n0){p:Nat}(hc:b4 H0 H)(k:List Fra):∀ (n i:Nat) (He:List AObj),i+n=(x.forms.l).length →
  M.go ff H0 (.c jl :: .lp ⟨(some [1,2,3,9,10]),[],false⟩ jl He :: .blk 0 :: .c (.lv [1,2,3])::k) (kv [(1,.int .i64 e),(2,.int .i64 q),(3,.ptr p 0),(9,.slice x.forms.tag 2 (x.forms.l.map bo.row)),(10,.int .i64 i)]) H =
   orE (bS (RZ q) i (x.forms.l.drop i)) (H.take H0.length) (M.go ff H0 k (kv [(1,.int .i64 e),(2,.int .i64 q),(3,.ptr p 0)]) H)
 |0,i,He,h=>by
  have e:i=(x.forms.l).length:=by omega
  subst e;rw [ag M jl.eq_1];simp (maxSteps:=3000000) (maxDischargeDepth:=6) +contextual -implicitDefEqProofs only [amC M,↓amD,Nat.reduceBEq,Nat.reduceAdd,env,ab,du,Nat.lt_irrefl,List.drop_length]
 |n+1,i,He,h=>by
  have hi:i<(x.forms.l).length:=by omega
  have hx:(x.forms.l)[i]?=some (x.forms.l)[i]:=ZC hi;have hd:((x.forms.l).drop i)=(x.forms.l)[i]::(x.forms.l).drop (i+1):=ZD hi;have hm:(x.forms.l)[i]∈(x.forms.l):=ZJ hi;have ih:=fun He=>Y0 (H:=H) (H0:=H0) (e:=e) (q:=q) (x:=x) (n0:=n0) (hx0:=hx0) (p:=p) hc k n (i+1)  He (by omega)
  simp only [kv_cons,kv_nil] at ih;rw [ag M jl.eq_1];simp (maxSteps:=3000000) (maxDischargeDepth:=6) +contextual -implicitDefEqProofs only [amC M,↓amD,Nat.reduceBEq,Nat.reduceAdd,env,ab,du,hx,hd,hi,ih,aZ hi hx0.forms.len,aF hi,Bn,hc,RZ]
theorem XS{w:Str}(hw:w.length≤1000000){H H0:List AObj}(k:List Fra):∀ (n i:Nat) (o:Str) (He:List AObj),i+n=w.length→o.length≤i →
  M.go ff H0 (.c fB :: .lp ⟨(some [13,14,15]),[],false⟩ fB He :: .blk 2 :: .c (.lv [14])::k) (kv [(13,.str w),(14,.str o),(15,.int .i64 i)]) H=M.go ff H0 k (kv [(14,.str (o++s7 (w.drop i)))]) H
 |0,i,o,He,h,ho=>by
  have e:i=w.length:=by omega
  subst e;have e2:s7 []=[]:=rfl;rw [List.drop_length,e2,Z6];rw [ag M fB.eq_1];simp (maxSteps:=3000000) (maxDischargeDepth:=6) +contextual -implicitDefEqProofs only [amC M,↓amD,Nat.reduceBEq,Nat.reduceAdd,env,ab,du,Nat.lt_irrefl]
 |n+1,i,o,He,h,ho=>by
  have hi:i<w.length:=by omega
  have hx:w[i]?=some w[i]:=ZC hi;have hd:w.drop i=w[i]::w.drop (i+1):=ZD hi;have q2:=D5 (s:=w) (k:=.i64) (k':=.i64) (i:=i) (j:=i+1) (by omega) (by omega);rw [Z5,hd] at q2;simp only [List.take_succ_cons,List.take_zero] at q2
  have hb:∀ c:UInt8,((c.toNat:Int) == 43)=(c == 43):=fun c=>by
   rw [Bool.eq_iff_iff,beq_iff_eq,beq_iff_eq]
   refine ⟨fun h=>UInt8.toNat_inj.1 (by have:c.toNat=43:=by omega
                                        simpa using this),fun h=>by rw [h];rfl⟩
  rw [hd];generalize w[i]=c at hx q2;cases hc:c == 43 with
  |true=>
   have e2:s7 (c::w.drop (i+1))=s7 (w.drop (i+1)):=by simp [s7,hc]
   have ih:=fun He=>XS hw (H:=H) (H0:=H0) k n (i+1) o He (by omega) (by omega)
   simp only [kv_cons,kv_nil] at ih;rw [e2];rw [ag M fB.eq_1];simp (maxSteps:=3000000) (maxDischargeDepth:=6) +contextual -implicitDefEqProofs only [amC M,↓amD,Nat.reduceBEq,Nat.reduceAdd,env,ab,du,hi,hx,hb,hc,ih,aZ hi (show w.length≤aQ by simp only [aQ];omega)]
  |false=>
   have e2:o++s7 (c::w.drop (i+1))=(o++[c])++s7 (w.drop (i+1)):=by simp [s7,hc]
   have ih:=fun He=>XS hw (H:=H) (H0:=H0) k n (i+1) (o++[c]) He (by omega) (by simp;omega)
   simp only [kv_cons,kv_nil] at ih;rw [e2];rw [ag M fB.eq_1];simp (maxSteps:=3000000) (maxDischargeDepth:=6) +contextual -implicitDefEqProofs only [amC M,↓amD,Nat.reduceBEq,Nat.reduceAdd,env,ab,du,hi,hx,hb,hc,ih,q2,lg (s:=o) (t:=[c]) (by simp;omega),aZ hi (show w.length≤aQ by simp only [aQ];omega)]
theorem R0(hN:bu E)(hR:uB E)(hS:Cn E)(hF:ui E){l:Lex}(hl:l.ok 0)(hk:c7 l=0){e q:Int}{x:ak}{c:aG}{s:aL}(hA:At l e q x c s)(H:List AObj) :
  M.run qG [.agg l.row,.int .i64 e,.int .i64 q] H=some (.ret (.str (vH l x s q)),H):=by
 rw [aN M hF.truchmanref02_form rfl (c:=qO) rfl,qO];have hx0:=hl.entries.all x (ZG hA.ex);have h1:=fun k L He=>Y0 M (H:=H++(.cells l.row ae::L)) (H0:=H) (e:=e) (q:=q) hx0 (p:=H.length) (cut_app H _) k x.forms.l.length 0 He (by omega)
 simp only [kv_cons,kv_nil,Int.ofNat_zero,List.drop_zero,Fs] at h1;have hsl:=fun H=>KI M hR hF hl hk e q H
 simp only [hA.sl hk,Option.getD_some,Option.isSome_some] at hsl;have hst:=fun H=>PD M hN hR hS hF hl hk hA H
 cases hi:NX x.forms.l q with
 |some w=>
  have e1:vH l x s q=w:=by simp [vH,hi]
  rw [e1];simp only [hi] at h1;simp (maxSteps:=3000000) (maxDischargeDepth:=6) +contextual -implicitDefEqProofs only [amC M,↓amD,Nat.reduceBEq,Nat.reduceAdd,env,ab,du,amG,AV.cell,Nat.reduceMul,Nat.reduceLeDiff,h1,hsl,hA.ex,ef hA.e0 hA.el,bH,dg,mY]
 |none=>
  have e1:vH l x s q=Cp (qk l x s):=by simp [vH,hi]
  rw [e1];simp only [hi] at h1;cases hr:qk l x s with
  |none=>
   simp only [hr,BN,Option.getD_none,Option.isSome_none,List.map_nil] at hst;simp (maxSteps:=3000000) (maxDischargeDepth:=6) +contextual -implicitDefEqProofs only [amC M,↓amD,Nat.reduceBEq,Nat.reduceAdd,env,ab,du,amG,AV.cell,Nat.reduceMul,Nat.reduceLeDiff,h1,hsl,hst,hA.ex,ef hA.e0 hA.el,bH,dg,mY,Cp]
  |some r=>
   obtain ⟨r',u',g1,g2,g3⟩:=FU hk hA hr;subst g1;simp only [hr,BN,Option.getD_some,Option.isSome_some] at hst;have h2:=fun H0 H k He=>XS M (w:=u') (by omega) (H:=H) (H0:=H0) k u'.length 0 [] He (by omega) (ZO _)
   simp only [kv_cons,kv_nil,Int.ofNat_zero,List.drop_zero,List.nil_append] at h2;cases hd:decide ((24:Int)<((s7 u').length:Int)) with
   |true=>
    have e2:Cp (some (r'++[u']))=[]:=by simp only [Cp,L9,hd,sel]
    rw [e2];simp (maxSteps:=3000000) (maxDischargeDepth:=6) +contextual -implicitDefEqProofs only [amC M,↓amD,Nat.reduceBEq,Nat.reduceAdd,env,ab,du,amG,AV.cell,Nat.reduceMul,Nat.reduceLeDiff,h1,hsl,hst,h2,hd,D7 r' u' g3,D8,hA.ex,ef hA.e0 hA.el,bH,dg,mY,Ju]
   |false=>
    have e2:Cp (some (r'++[u']))=s7 u':=by simp only [Cp,L9,hd,sel]
    rw [e2];simp (maxSteps:=3000000) (maxDischargeDepth:=6) +contextual -implicitDefEqProofs only [amC M,↓amD,Nat.reduceBEq,Nat.reduceAdd,env,ab,du,amG,AV.cell,Nat.reduceMul,Nat.reduceLeDiff,h1,hsl,hst,h2,hd,D7 r' u' g3,D8,hA.ex,ef hA.e0 hA.el,bH,dg,mY,Ju]
end
section
attribute [local congr] al br aJ ao aH aA aq ah aj aC aD
variable{E:aX}(M:bR bN E)
theorem T8{l:Lex}(hk:c7 l=0){e:Int}(he:0≤e){x:ak}(hx:l.entries.l[e.toNat]?=some x){c:aG}(hc:vg l x c){i:Nat}{s:aL}(hs:c.slots.l[i]?=some s):At l e (i:Int) x c s:=by
 have hcm:c∈l.classes.l:=List.mem_of_find?_eq_some hc.cls;exact ⟨he,by omega,(List.getElem?_eq_some_iff.1 hx).1,hx,hc,hcm,by simpa using (List.getElem?_eq_some_iff.1 hs).1,by simpa using hs,TW (L5 hk hcm (List.mem_of_getElem? hs))⟩
def Da(l:Lex)(x:ak):Nat→List aL→List Str
 |_,[]=>[]
 |i,s::t=>vH l x s i::Da l x (i+1) t
theorem R1(hW:WdE M)(hE:mU E)(hF:ui E){l:Lex}(hl:l.ok 0){e:Int}(he:0≤e){x:ak}(hx:l.entries.l[e.toNat]?=some x){c:aG}(hc:vg l x c)(H:List AObj) :
  M.run nV [.agg l.row,.int .i64 e] H=some (.ret (.int .i64 c.slots.l.length),H):=by
 rw [aN M hF.morph_language_slots rfl (c:=oG) rfl,oG];have hcl:=fun H=>rn M hE hl hc.cls (H:=H) (Nat.zero_le _)
 have hw:=fun H T L=>DH hW (g:=fq) (first:=[]) (cap:=[]) (args:=[.agg l.row,.str x.cls]) (v:=.tuple [.agg c.row,.bool true]) hcl H T L
 simp (maxSteps:=3000000) (maxDischargeDepth:=6) +contextual -implicitDefEqProofs only [amC M,↓amD,Nat.reduceBEq,Nat.reduceAdd,env,ab,zL,amG,AV.cell,Nat.reduceMul,Nat.reduceLeDiff,hx,ef he (List.getElem?_eq_some_iff.1 hx).1,wE hW,hcl,hw,bH,dg,iN]
theorem IW(hR:uB E)(hF:ui E){l:Lex}(hl:l.ok 0){e:Int}(he:0≤e){x:ak}(hx:l.entries.l[e.toNat]?=some x){c:aG}(hc:vg l x c)(H:List AObj) :
  M.run pD [.agg l.row,.int .i64 e] H=some (.ret (.int .i64 c.slots.l.length),H):=by
 rw [aN M hF.truchmanref02_Slots rfl (c:=p8) rfl,p8];have hcl:=fun H=>w7 M hR hl x.cls H
 rcases oX (fun c:aG=>c.name == x.cls) l.classes.l 0 with ⟨h1,h2⟩ | ⟨j,c',h1,h2,h3⟩
 ·exact absurd (hc.cls.symm.trans h2) (by simp)
 obtain rfl:c=c':=Option.some.inj (hc.cls.symm.trans h3);rw [h1,Z4] at hcl;have hj:j<l.classes.l.length:=(ZB.1 h2).1;simp (maxSteps:=3000000) (maxDischargeDepth:=6) +contextual -implicitDefEqProofs only [amC M,↓amD,Nat.reduceBEq,Nat.reduceAdd,env,ab,AG,amG,AV.cell,Nat.reduceMul,Nat.reduceLeDiff,hx,ef he (List.getElem?_eq_some_iff.1 hx).1,h2,aF hj,hcl,bH,dg,iN]
theorem za{l:Lex}(hk:c7 l=0){x:ak}{c:aG}(hc:vg l x c):c.slots.l.length≤24:=by
 have hcm:c∈l.classes.l:=List.mem_of_find?_eq_some hc.cls;obtain ⟨k,hk2⟩:=ZV hcm;have h2:=(jr (uC hk).1).2 k c hk2;unfold w5 at h2;have h3:=(c8 (by decide) (c8 (by decide) (c8 (by decide) h2).2).2)
 have:=of_decide_eq_false (c8 (by decide) (c8 (by decide) (c8 (by decide) h2).2).2).1;omega
theorem sms{H H0:List AObj}{l:List Str}{ta tb:Tag}(hl:l.length≤aQ)(k:List Fra):∀ (n i:Nat) (He:List AObj),i+n=l.length →
  M.go eH H0 (.c dL :: .lp ⟨(some [0,1,5]),[],false⟩ dL He :: .blk 0 :: .c (.lv [])::k) (kv [(0,.slice ta 1 (l.map bJ)),(1,.slice tb 1 (l.map bJ)),(5,.int .i64 i)]) H =
   (M.go eH H0 k .leaf H)
 |0,i,He,h=>by
  have e:i=l.length:=by omega
  subst e;rw [ag M dL.eq_1];simp (maxSteps:=3000000) (maxDischargeDepth:=6) +contextual -implicitDefEqProofs only [amC M,↓amD,Nat.reduceBEq,Nat.reduceAdd,env,ab,kV,Nat.lt_irrefl,List.drop_length]
 |n+1,i,He,h=>by
  have hi:i<l.length:=by omega
  have hx:l[i]?=some l[i]:=ZC hi;have hd:(l.drop i)=l[i]::l.drop (i+1):=ZD hi;have hm:l[i]∈l:=ZJ hi;have ih:=fun He=>sms (H:=H) (H0:=H0) (l:=l) (ta:=ta) (tb:=tb) (hl:=hl) k n (i+1)  He (by omega)
  simp only [kv_cons,kv_nil] at ih;rw [ag M dL.eq_1];simp (maxSteps:=3000000) (maxDischargeDepth:=6) +contextual -implicitDefEqProofs only [amC M,↓amD,Nat.reduceBEq,Nat.reduceAdd,env,ab,kV,hx,hd,hi,ih,aF hi,Ju,beq_self_eq_true,aZ hi hl]
theorem GD(hF:ui E){l:List Str}{ta tb:Tag}(hl:l.length≤aQ)(H:List AObj):M.run eB [.slice ta 1 (l.map bJ),.slice tb 1 (l.map bJ)] H=some (.ret (.bool true),H):=by
 rw [aN M hF.truchmanlaw02_SameStrings rfl (c:=kU) rfl,kU];have h1:=fun k He=>sms M (H:=H) (H0:=H) (ta:=ta) (tb:=tb) hl k l.length 0 He (by omega)
 simp only [kv_cons,kv_nil,Int.ofNat_zero,List.drop_zero] at h1;simp (maxSteps:=3000000) (maxDischargeDepth:=6) +contextual -implicitDefEqProofs only [amC M,↓amD,Nat.reduceBEq,Nat.reduceAdd,env,ab,kV,h1,bne_self_eq_false,beq_self_eq_true]
theorem NY(l:Lex)(x:ak):∀ (t:List aL) (i:Nat),(Da l x i t).length=t.length
 |[],_=>rfl
 |s::t,i=>by rw [Da,ZP,NY l x t,ZP]
end
section
set_option linter.defProp false
structure dJ where
 e:Int
 q:Int
 w:Str
def dJ.row(x:dJ):List AV:=[.int .i64 x.e,.int .i64 x.q,.str x.w]
theorem Y1:(∀ x:dJ,rJ 3 (dJ.row x)=some (dJ.row x))∧(∀ x:dJ,cK none (dJ.row x) 0=some (.int .i64 x.e))∧(∀ x:dJ,cK none (dJ.row x) 1=some (.int .i64 x.q))∧(∀ x:dJ,cK none (dJ.row x) 2=some (.str x.w))∧(∀ x:dJ,(dJ.row x).length=3)∧(∀ x:dJ,(dJ.row x).all AV.cell=true)∧(∀ x:dJ,∀ c0 c1 c2:AV,aW [c0,c1,c2] 0 (dJ.row x)=dJ.row x)∧(∀ x:dJ,∀ y:dJ,aW (dJ.row y) 0 (dJ.row x)=dJ.row x)∧(∀ x:dJ,∀ (y:Int),aW (dJ.row x) 0 [.int .i64 y]=dJ.row { x with e:=y })∧(∀ x:dJ,∀ (y:Int),aW (dJ.row x) 1 [.int .i64 y]=dJ.row { x with q:=y })∧(∀ x:dJ,∀ (y:Str),aW (dJ.row x) 2 [.str y]=dJ.row { x with w:=y })∧(∀ x:dJ,(dJ.row x).map AV.strip=dJ.row x)∧(∀ x:dJ,(dJ.row x).take 3=dJ.row x)∧(∀ x:dJ,(dJ.row x).drop 3=[]):=
 by refine ⟨?_, ?_, ?_, ?_, ?_, ?_, ?_, ?_, ?_, ?_, ?_, ?_, ?_, ?_⟩<;>(intros;first | rfl | (simp only [dJ.row];rfl) | (simp only [dJ.row,pj];rfl))
structure dJ.ok (n:Nat) (x:dJ):Prop where
 e:I64 x.e
 q:I64 x.q
 w:x.w.length≤aQ
theorem dJ.ok.mono{n m:Nat}{x:dJ}(h:x.ok n)(hn:n≤m):x.ok m:=⟨h.e,h.q,h.w⟩
theorem dJ.ok.wk{n:Nat}{x:dJ}(h:x.ok n):WkL n x.row x.row:=⟨wk_int _ _ _,wk_int _ _ _,wk_str _ _,trivial⟩
structure FV where
 first:yw
 w:Str
def FV.row(x:FV):List AV:=yw.row x.first++[.str x.w]
structure FV.ok (n:Nat) (x:FV):Prop where
 first:x.first.ok n
 w:x.w.length≤aQ
theorem FV.ok.mono{n m:Nat}{x:FV}(h:x.ok n)(hn:n≤m):x.ok m:=⟨h.first.mono hn,h.w⟩
theorem FV.ok.wk{n:Nat}{x:FV}(h:x.ok n):WkL n x.row x.row:=HT (h.first.wk) ⟨wk_str _ _,trivial⟩
end
section
attribute [local congr] al br aJ ao aH aA aq ah aj aC aD
variable{E:aX}(M:bR bN E)
structure BuiE (E:aX):Prop where
theorem irr_len{l:Lex}{x:ak}{c:aG}(h:vg l x c){q:Int}{w:Str}(hi:NX x.forms.l q=some w):w.length≤24:=by
 simp only [NX,Option.map_eq_some_iff] at hi;obtain ⟨f,hf,rfl⟩:=hi;obtain ⟨k,hk⟩:=ZV (List.mem_of_find?_eq_some hf);have:=pw h.forms k f hk;rw [Z4] at this;unfold CG at this;have h3:=(c8 (by decide) (c8 (by decide) (c8 (by decide) this).2).2).1;cases hw:f.word == [] with
 |true=>rw [eq_of_beq hw];simp
 |false=>
  rw [hw] at h3;exact y9 (by simpa using h3)
theorem T9(o:Option (List Str)):(Cp o).length≤24:=by
 unfold Cp;split
 ·simp
 ·rename_i r
  cases hd:decide ((24:Int)<((s7 (r.getLastD [])).length:Int)) with
  |true=>simp [sel]
  |false=>have:=of_decide_eq_false hd;simp only [sel];omega
theorem VZ{l:Lex}{x:ak}{c:aG}(h:vg l x c)(s:aL)(q:Int):(vH l x s q).length≤24:=by
 unfold vH;split
 ·rename_i w hw;exact irr_len h hw
 ·exact T9 _
end
section
attribute [local congr] al br aJ ao aH aA aq ah aj aC aD
variable{E:aX}(M:bR bN E)
end
section
attribute [local congr] al br aJ ao aH aA aq ah aj aC aD
variable{E:aX}(M:bR bN E)
structure GenE (E:aX):Prop where
end
section
attribute [local congr] al br aJ ao aH aA aq ah aj aC aD
variable{E:aX}(M:bR bN E)
end
section
attribute [local congr] al br aJ ao aH aA aq ah aj aC aD
variable{E:aX}(M:bR bN E)
theorem Ma{l:Lex}(hk:c7 l=0):∀ x∈l.entries.l,∃ c,vg l x c:=fun x hx=>by
 obtain ⟨k,hk2⟩:=ZV hx;exact Fp hk hk2
theorem D9{l:Lex}(hk:c7 l=0):l.entries.l.length≤128:=by
 have:=(jr (uC hk).2.1).1;omega
end
section
attribute [local congr] al br aJ ao aH aA aq ah aj aC aD
variable{E:aX}(M:bR bN E)
structure V0 (E:aX):Prop where
 internal_stringslite_CutPrefix:E.fn mB=some mH
 strings_CutPrefix:E.fn Cb=some vN
 morph_language_shapes:E.fn np=some dG
theorem Ea{α:Type}{row:α→List AV}{sz:Nat}:∀ (m:List α),(∀ x∈m,(row x).length=sz∧(row x).all AV.cell=true)→nj sz (m.map row)=true
 |[],_=>rfl
 |x::m,h=>by
  have h1:=h x (by simp);have h2:=Ea m fun y hy=>h y (by simp [hy])
  simp only [nj,List.map_cons,List.all_cons,Bool.and_eq_true] at h2 ⊢;exact ⟨⟨by simpa using h1.1,h1.2⟩,h2⟩
theorem Al{α:Type}{row:α→List AV}:∀ (m:List α),(∀ x∈m,(row x).map AV.strip=row x)→(m.map row).map (·.map AV.strip)=m.map row
 |[],_=>rfl
 |x::m,h=>by
  simp only [List.map_cons];rw [h x (by simp),← List.map_cons];exact congrArg _ (Al m fun y hy=>h y (by simp [hy]))
theorem Ua{α:Type}{row:α→List AV}{l m:List α}{tg:Tag}{sz bytes:Nat}{e:TypeId}(H L:List AObj)(hm:∀ x∈m,(row x).length=sz∧(row x).all AV.cell=true)(hs:∀ x∈m,(row x).map AV.strip=row x)
  (hl:(l.length+m.length)*bytes≤140737488355328) (hl2:l.length+m.length≤4611686018427387904) :
  rap false (H++(.tok (l.length*sz) e::L)) e sz bytes false (.slice (.own H.length) sz (l.map row)) (.slice tg sz (m.map row))=some (.slice (.own H.length) sz ((l++m).map row),H++(.tok ((l++m).length*sz) e::L)):=by
 have hr:=Ea m hm;have h3:=Al m hs;simp only [rap,xE,uq,if_true,List.length_map,or_true,hl,hl2,hr,and_true,true_and];cases m with
 |nil=>simp
 |cons x m=>
  simp only [List.map_cons] at h3 ⊢;simp only [cI,List.getElem?_cons_zero,and_true,if_true,hp_set0,List.set_cons_zero,h3,List.map_append,List.map_cons,List.length_append,List.length_cons,List.length_map,Nat.add_mul]
theorem GR{α:Type}{row:α→List AV}{m:List α}{tg:Tag}{sz bytes:Nat}{e:TypeId}(H:List AObj)(h0:m≠[])(hm:∀ x∈m,(row x).length=sz∧(row x).all AV.cell=true)(hs:∀ x∈m,(row x).map AV.strip=row x)
  (hl:m.length*bytes≤140737488355328) (hl2:m.length≤4611686018427387904) :
  rap false H e sz bytes false (.slice .full sz []) (.slice tg sz (m.map row))=some (.slice (.own H.length) sz (m.map row),H++[.tok (m.length*sz) e]):=by
 have hr:=Ea m hm;have h3:=Al m hs;simp only [rap,xE,uq,if_true,List.length_map,List.length_nil,Nat.zero_add,true_or,or_true,hl,hl2,hr,and_true,true_and];cases m with
 |nil=>exact absurd rfl h0
 |cons x m=>
  simp only [List.map_cons] at h3 ⊢;simp only [or_true,if_true,List.length_cons,List.length_map,h3,List.nil_append] at hl hl2 hr ⊢
theorem V1(n:Nat)(x:dJ):WkL n (dJ.row x) (dJ.row x):=⟨wk_int _ _ _,wk_int _ _ _,wk_str _ _,trivial⟩
theorem GS{α:Type}{row:α→List AV}(h:∀ n x,WkL n (row x) (row x))(n:Nat)(l:List α):nQ n (l.map row):=by
 rw [rowsWk_map];exact fun x _=>h n x
end
section
attribute [local congr] al br aJ ao aH aA aq ah aj aC aD
variable{E:aX}(M:bR bN E)
def zb(l:Lex)(x:ak)(e:Nat):Nat→List aL→List dJ
 |_,[]=>[]
 |i,s::t=>sel (vH l x s i == []) (zb l x e (i+1) t) (⟨e,i,vH l x s i⟩::zb l x e (i+1) t)
def AN(l:Lex):Nat→List ak→List dJ
 |_,[]=>[]
 |e,x::t=>zb l x e 0 (match rV l x.cls with | some c=>c.slots.l | none=>[])++AN l (e+1) t
def BO(l:Lex):List dJ:=AN l 0 l.entries.l
theorem IX(l:Lex)(x:ak)(e:Nat):∀ (t:List aL) (i:Nat),(zb l x e i t).length≤t.length
 |[],_=>ZO _
 |s::t,i=>by
  have h1:=IX l x e t (i+1);rw [zb];cases (vH l x s i == [])<;>simp only [sel,List.length_cons]<;>omega
theorem NZ{l:Lex}(hk:c7 l=0):∀ (t:List ak) (e:Nat),(∀ x∈t,∃ c,vg l x c)→(AN l e t).length≤24*t.length
 |[],_,_=>ZO _
 |x::t,e,h=>by
  obtain ⟨c,hc⟩:=h x (by simp);have h1:=NZ hk t (e+1) fun y hy=>h y (List.mem_cons_of_mem _ hy)
  have h2:=IX l x e c.slots.l 0;have h3:=za hk hc;rw [AN,hc.cls,ZH,ZP];simp only;omega
theorem N0{l:Lex}(hk:c7 l=0):(BO l).length≤3072:=by
 have h1:=NZ hk l.entries.l 0 (Ma hk);have h2:=D9 hk;unfold BO;omega
theorem XT(hN:bu E)(hW:WdE M)(hE:mU E)(hS:SpE E)(hX:sM M)(hY:GC M)(hB:s6 E)(hF:ui E){l:Lex}(hl:l.ok 0)(hk:c7 l=0){e:Nat}{x:ak}(hx:l.entries.l[e]?=some x){c:aG}(hc:vg l x c){e2 N:Int}
  {H H0:List AObj}{p:Nat}{T:TypeId} (hp:H[p]?=some (.cells l.row T)) (k:List Fra):∀ (n i:Nat) (o:List dJ) (He:List AObj),i+n=c.slots.l.length→o.length+n≤10000→c.slots.l.length≤1000 →
  M.go dG H0 (.c dN :: .lp ⟨(some [1,3,4,10,11,16,17]),[(3,3,dx)],false⟩ dN He :: .blk 2 :: .c (.lv [1,3,10,11])::k) (kv [(1,.ptr p 0),(3,.slice (.own H.length) 3 (o.map dJ.row)),(4,.int .i64 e),(10,.int .i64 N),(11,.int .i64 e2),(16,.int .i64 c.slots.l.length),(17,.int .i64 i)]) (H++[.tok (o.length*3) dx]) =
   M.go dG H0 k (kv [(1,.ptr p 0),(3,.slice (.own H.length) 3 ((o++zb l x e i (c.slots.l.drop i)).map dJ.row)),(10,.int .i64 N),(11,.int .i64 e2)]) (H++[.tok ((o++zb l x e i (c.slots.l.drop i)).length*3) dx])
 |0,i,o,He,h,ho,hcl=>by
  have e:i=c.slots.l.length:=by omega
  subst e;rw [List.drop_length,zb,Z6];rw [ag M dN.eq_1];simp (maxSteps:=3000000) (maxDischargeDepth:=6) +contextual -implicitDefEqProofs only [amC M,↓amD,Nat.reduceBEq,Nat.reduceAdd,env,ab,eU,Nat.lt_irrefl]
 |n+1,i,o,He,h,ho,hcl=>by
  have hi:i<c.slots.l.length:=by omega
  have hs:c.slots.l[i]?=some c.slots.l[i]:=ZC hi;have hd:c.slots.l.drop i=c.slots.l[i]::c.slots.l.drop (i+1):=ZD hi;have hf:=fun H=>T7 M hN hW hE hS hX hY hB hF hl hk (T8 hk (e:=(e:Int)) (by omega) (by simpa using hx) hc hs) H
  have hp':=fun L=>bZ (L:=L) hp
  have hws:=aZ hi (show c.slots.l.length≤aQ by simp only [aQ];omega);rw [hd,zb];generalize vH l x c.slots.l[i] i=w at hf;cases hw:w == [] with
  |true=>
   have ih:=fun He=>XT hN hW hE hS hX hY hB hF hl hk hx hc (e2:=e2) (N:=N) (H0:=H0) hp k n (i+1) o He (by omega) (by omega) hcl
   simp only [kv_cons,kv_nil,sel] at ih ⊢;rw [ag M dN.eq_1];simp (maxSteps:=3000000) (maxDischargeDepth:=6) +contextual -implicitDefEqProofs only [amC M,↓amD,Nat.reduceBEq,Nat.reduceAdd,env,ab,eU,amG,AV.cell,Nat.reduceMul,Nat.reduceLeDiff,hi,hf,hw,bne,hp',ih,hws,bH]
  |false=>
   have ap:=HV (row:=dJ.row) (l:=o) (x:=⟨e,i,w⟩) (r:=dJ.row ⟨e,i,w⟩) (sz:=3) (bytes:=32) (e:=dx) H rfl rfl rfl (by omega) (by omega);have ih:=fun He=>XT hN hW hE hS hX hY hB hF hl hk hx hc (e2:=e2) (N:=N) (H0:=H0) hp k n (i+1) (o++[⟨e,i,w⟩]) He (by omega) (by simp;omega) hcl
   simp only [dJ.row] at ap;simp only [kv_cons,kv_nil,sel,List.append_assoc,List.cons_append,List.nil_append] at ih ⊢;rw [ag M dN.eq_1];simp (maxSteps:=3000000) (maxDischargeDepth:=6) +contextual -implicitDefEqProofs only [amC M,↓amD,Nat.reduceBEq,Nat.reduceAdd,env,ab,eU,amG,AV.cell,Nat.reduceMul,Nat.reduceLeDiff,hi,hf,hw,bne,hp',ap,ih,hws,bH]
theorem Y2(hN:bu E)(hW:WdE M)(hE:mU E)(hS:SpE E)(hX:sM M)(hY:GC M)(hB:s6 E)(hF:ui E){l:Lex}(hl:l.ok 0)(hk:c7 l=0)
  {H H0:List AObj}{p:Nat}{T:TypeId} (hp:H[p]?=some (.cells l.row T)) (k:List Fra):∀ (n i:Nat) (o:List dJ) (He:List AObj),i+n=l.entries.l.length→o.length+24*n≤9000 →
  M.go dG H0 (.c fO :: .lp ⟨(some [1,3,10,11]),[(3,3,dx)],false⟩ fO He :: .blk 0 :: .c (.lv [3])::k) (kv [(1,.ptr p 0),(3,.slice (.own H.length) 3 (o.map dJ.row)),(10,.int .i64 l.entries.l.length),(11,.int .i64 i)]) (H++[.tok (o.length*3) dx]) =
   M.go dG H0 k (kv [(3,.slice (.own H.length) 3 ((o++AN l i (l.entries.l.drop i)).map dJ.row))]) (H++[.tok ((o++AN l i (l.entries.l.drop i)).length*3) dx])
 |0,i,o,He,h,ho=>by
  have e:i=l.entries.l.length:=by omega
  subst e;rw [List.drop_length,AN,Z6];rw [ag M fO.eq_1];simp (maxSteps:=3000000) (maxDischargeDepth:=6) +contextual -implicitDefEqProofs only [amC M,↓amD,Nat.reduceBEq,Nat.reduceAdd,env,ab,eU,Nat.lt_irrefl]
 |n+1,i,o,He,h,ho=>by
  have hi:i<l.entries.l.length:=by omega
  have hx:l.entries.l[i]?=some l.entries.l[i]:=ZC hi;have hd:l.entries.l.drop i=l.entries.l[i]::l.entries.l.drop (i+1):=ZD hi;generalize l.entries.l[i]=x at hx hd;obtain ⟨c,hc⟩:=Fp hk hx;have hsl:=za hk hc;have hp':=fun L=>bZ (L:=L) hp
  have hss:=fun H=>R1 M hW hE hF hl (e:=(i:Int)) (by omega) (by simpa using hx) hc H
  have hws:=aZ hi hl.entries.len;rw [hd,AN,hc.cls];have hgl:=IX l x i c.slots.l 0;have ih:=fun He=>Y2 hN hW hE hS hX hY hB hF hl hk (H0:=H0) hp k n (i+1) (o++zb l x i 0 c.slots.l) He (by omega) (by simp only [List.length_append];omega)
  have hin:=fun k He=>XT M hN hW hE hS hX hY hB hF hl hk hx hc (e2:=(i:Int)) (N:=l.entries.l.length) (H0:=H0) hp k c.slots.l.length 0 o He (by omega) (by omega) (by omega)
  simp only [kv_cons,kv_nil,Int.ofNat_zero,List.drop_zero,List.append_assoc] at ih hin ⊢;rw [ag M fO.eq_1];simp (maxSteps:=3000000) (maxDischargeDepth:=6) +contextual -implicitDefEqProofs only [amC M,↓amD,Nat.reduceBEq,Nat.reduceAdd,env,ab,eU,amG,AV.cell,Nat.reduceMul,Nat.reduceLeDiff,hi,hp',hss,hin,ih,hws,bH]
theorem PJ(hN:bu E)(hW:WdE M)(hE:mU E)(hS:SpE E)(hX:sM M)(hY:GC M)(hB:s6 E)(hF:ui E)(hA:V0 E){l:Lex}(hl:l.ok 0)(hk:c7 l=0)(H:List AObj) :
  M.run np [.agg l.row] H=some (.ret (.slice .any 3 ((BO l).map dJ.row)),H):=by
 rw [aN M hA.morph_language_shapes rfl (c:=nD) rfl,nD];have hel:=D9 hk;have h1:=fun k He=>Y2 M hN hW hE hS hX hY hB hF hl hk (H:=H++[.cells l.row aP]) (H0:=H) (p:=H.length) (T:=aP) (by rw [cI];rfl) k l.entries.l.length 0 [] He (by omega) (by simp;omega)
 simp only [kv_cons,kv_nil,Int.ofNat_zero,List.drop_zero,List.length_append,List.length_cons,List.length_nil,Nat.zero_add,Nat.reduceAdd,List.append_assoc,List.cons_append,List.nil_append,List.map_nil,Nat.zero_mul] at h1;rw [BO];simp (maxSteps:=3000000) (maxDischargeDepth:=6) +contextual -implicitDefEqProofs only [amC M,↓amD,Nat.reduceBEq,Nat.reduceAdd,env,ab,eU,amG,AV.cell,Nat.reduceMul,Nat.reduceLeDiff,h1,bH,V1,implies_true,cut_app]
end
section
attribute [local congr] al br aJ ao aH aA aq ah aj aC aD
variable{E:aX}(M:bR bN E)
def PK(l:Lex)(h:dJ):Prop:=(∃ x c s,At l h.e h.q x c s)∧h.w.length≤24
end
section
attribute [local congr] al br aJ ao aH aA aq ah aj aC aD
variable{E:aX}(M:bR bN E)
theorem QC{l:Lex}(hk:c7 l=0){e:Nat}{x:ak}{c:aG}(hx:l.entries.l[e]?=some x)(hc:vg l x c):∀ (t:List aL) (i:Nat),(∀ (j:Nat) (s:aL),t[j]?=some s→c.slots.l[i+j]?=some s)→∀ h∈zb l x e i t,PK l h
 |[],_,_,h,hm=>by cases hm
 |s::t,i,ht,h,hm=>by
  have h0:=ht 0 s rfl;have hA:At l (e:Int) (i:Int) x c s:=T8 hk (by omega) (by simpa using hx) hc (by simpa using h0);have ih:=QC hk hx hc t (i+1) fun j s hj=>by have:=ht (j+1) s (by simpa using hj);rwa [show i+1+j=i+(j+1) by omega]
  rw [zb] at hm;cases hw:vH l x s i == [] with
  |true=>rw [hw] at hm;exact ih h hm
  |false=>
   rw [hw] at hm;rcases ZY.1 hm with rfl | hm
   ·exact ⟨⟨x,c,s,hA⟩,VZ hc s i⟩
   ·exact ih h hm
theorem QD{l:Lex}(hk:c7 l=0):∀ (t:List ak) (e:Nat),(∀ (j:Nat) (x:ak),t[j]?=some x→l.entries.l[e+j]?=some x)→∀ h∈AN l e t,PK l h
 |[],_,_,h,hm=>by cases hm
 |x::t,e,ht,h,hm=>by
  have h0:l.entries.l[e]?=some x:=ht 0 x rfl;obtain ⟨c,hc⟩:=Fp hk h0;have ih:=QD hk t (e+1) fun j s hj=>by have:=ht (j+1) s (by simpa using hj);rwa [show e+1+j=e+(j+1) by omega]
  rw [AN,hc.cls] at hm;rcases ZX.1 hm with hm | hm
  ·exact QC hk h0 hc c.slots.l 0 (fun j s hj=>by rwa [Z4]) h hm
  ·exact ih h hm
theorem V2{l:Lex}(hk:c7 l=0):∀ h∈BO l,PK l h:=QD hk l.entries.l 0 fun j x hj=>by rwa [Z4]
end
section
attribute [local congr] al br aJ ao aH aA aq ah aj aC aD
variable{E:aX}(M:bR bN E)
end
section
attribute [local congr] al br aJ ao aH aA aq ah aj aC aD
variable{E:aX}(M:bR bN E)
end
section
attribute [local congr] al br aJ ao aH aA aq ah aj aC aD
variable{E:aX}(M:bR bN E)
end
section
attribute [local congr] al br aJ ao aH aA aq ah aj aC aD
variable{E:aX}(M:bR bN E)
end
theorem IY{v:Str}{x:aV}{s:Str}(ht:x.to.all ml=true)(hs:s.all ml=true):∀ (n i:Nat) (w:Str),w.all ml=true→(y8 v x s n i w).all ml=true
 |0,i,w,hw=>by rw [y8];exact hw
 |n+1,i,w,hw=>by
  rw [y8];cases hc:s[i]? with
  |none=>exact hw
  |some c=>
   have hcs:ml c=true:=ZT.1 hs c (ZG hc);cases NP v x s i with
   |true=>exact IY ht hs n _ _ (by rw [List.all_append,hw,ht];rfl)
   |false=>exact IY ht hs n _ _ (by rw [List.all_append,hw];simp [hcs])
theorem KK{v:Str}:∀ (l:List aV) (o:List Str) (u:Str) (r:List Str),(∀ x∈l,x.to.all ml=true)→(∀ s∈o,s.all ml=true)→u.all ml=true→uk v o u l=some r→∀ s∈r,s.all ml=true
 |[],o,u,r,hl,ho,hu,h=>by
  rw [uk] at h;obtain rfl:=Option.some.inj h;exact ho
 |x::l,o,u,r,hl,ho,hu,h=>by
  rw [uk] at h;have h2:(rX v x u).all ml=true:=IY (hl x (by simp)) hu _ _ _ rfl;cases hd:decide (((rX v x u).length:Int)≤512) with
  |false=>rw [hd] at h;cases h
  |true=>
   rw [hd] at h;refine KK l (o++[rX v x u]) (rX v x u) r (fun y hy=>hl y (by simp [hy])) ?_ h2 h;intro s hs;rcases ZX.1 hs with hs | hs
   ·exact ho s hs
   ·rw [List.mem_singleton.1 hs];exact h2
theorem PL{s:Str}(h:s.all eW=true):s.all ml=true:=by
 rw [ZT] at h ⊢;intro c hc;simp [ml,h c hc]
theorem V3{s:Str}(h:s.all ml=true):(s7 s).all eW=true:=by
 rw [ZT] at h ⊢;intro c hc;obtain ⟨h1,h2⟩:=List.mem_filter.1 hc;have h3:=h c h1;simp only [ml,Bool.or_eq_true,beq_iff_eq] at h3;rcases h3 with h3 | h3
 ·exact h3
 ·exfalso
  have:c=43:=by
   have h4:c.toNat=43:=by omega
   exact UInt8.toNat_inj.1 h4
  rw [this] at h2;simp at h2
theorem Ub{lem:Str}{s:aL}(hl:lem.all eW=true)(hs:TV s):(GB lem s).all ml=true:=by
 have h1:=PL hs.pre.2;have h2:=PL hs.add.2
 have h3:(lem.take (lem.length-s.cut.toNat)).all ml=true:=by
  rw [ZT];intro c hc;exact ZT.1 (PL hl) c (List.mem_of_mem_take hc)
 have h4:(([43]:Str)).all ml=true:=by decide
 have h5:(Co s (lem.take (lem.length-s.cut.toNat))).all ml=true:=by
  unfold Co;cases s.pre == [] with
  |true=>exact h3
  |false=>simp only [sel];rw [List.all_append,List.all_append,h1,h3,h4];rfl
 unfold GB xo;cases s.add == [] with
 |true=>exact h5
 |false=>simp only [sel];rw [List.all_append,List.all_append,h2,h5,h4];rfl
theorem N1{s:Str}(h:uz s=true):s.all eW=true:=by
 simp only [uz,Bool.and_eq_true] at h;exact h.2
theorem R3{l:Lex}(hk:c7 l=0):∀ x∈l.spells.l,x.to.all ml=true:=fun x hx=>by
 obtain ⟨j,hj⟩:=ZV hx;have h4:=(jr (uC hk).2.2.1).2 j x hj;unfold tU at h4;have:=(c8 (by decide) h4).1;simp only [Bool.or_eq_false_iff,Bool.not_eq_false',qW,Bool.and_eq_true] at this;exact this.1.1.2.2
theorem XU{l:Lex}(hk:c7 l=0){x:ak}{c:aG}(h:vg l x c){s:aL}(hs:TV s)(q:Int):(vH l x s q).all eW=true:=by
 unfold vH;split
 ·rename_i w hi
  simp only [NX,Option.map_eq_some_iff] at hi;obtain ⟨f,hf,rfl⟩:=hi;obtain ⟨k,hk⟩:=ZV (List.mem_of_find?_eq_some hf);have:=pw h.forms k f hk;rw [Z4] at this;unfold CG at this;have h3:=(c8 (by decide) (c8 (by decide) (c8 (by decide) this).2).2).1;cases hw:f.word == [] with
  |true=>rw [eq_of_beq hw];rfl
  |false=>
   rw [hw] at h3;exact N1 (by simpa using h3)
 ·unfold Cp
  split
  ·rfl
  ·rename_i r hr
   unfold qk at hr;split at hr
   ·cases hr
   ·rename_i u hu
    unfold Fq at hu;cases hd:decide ((x.lem.length:Int)<s.cut) with
    |true=>rw [hd] at hu;cases hu
    |false=>
     rw [hd] at hu;obtain rfl:=Option.some.inj hu;have hus:=Ub (N1 h.lem) hs;have hrs:=KK l.spells.l _ _ r (R3 hk) (by simpa using hus) hus hr
     have hlast:(r.getLastD []).all ml=true:=by
      cases hrr:r with
      |nil=>rfl
      |cons a t=>
       rw [List.getLastD_eq_getLast?,List.getLast?_eq_some_getLast (by simp:a::t≠[])];exact hrs _ (by rw [hrr];exact List.getLast_mem _)
     cases decide ((24:Int)<((s7 (r.getLastD [])).length:Int)) with
     |true=>rfl
     |false=>exact V3 hlast
section
attribute [local congr] al br aJ ao aH aA aq ah aj aC aD
variable{E:aX}(M:bR bN E)
end
section
attribute [local congr] al br aJ ao aH aA aq ah aj aC aD
variable{E:aX}(M:bR bN E)
structure V4 (E:aX):Prop where
 truchmanref02_All:E.fn rq=some fU
def l6(f:List Str):List AV:=[.slice .any 1 (f.map bJ)]
def yd(l:Lex):List ak→List (List Str)
 |[]=>[]
 |x::t=>Da l x 0 (match rV l x.cls with | some c=>c.slots.l | none=>[])::yd l t
def Uc(l:Lex)(t:List ak):List AObj:=(yd l t).map fun f=>.tok (f.length*1) aE
theorem Ud(n:Nat)(f:List Str):WkL n (l6 f) (l6 f):=⟨wk_slice trivial (by rw [rowsWk_map];exact fun x _=>⟨wk_str _ _,trivial⟩),trivial⟩
theorem V5{α:Type}{row:α→List AV}{m:List α}{tg:Tag}{sz bytes:Nat}{e:TypeId}(H:List AObj)(h0:m≠[])(hm:∀ x∈m,(row x).length=sz∧(row x).all AV.cell=true)(hs:∀ x∈m,(row x).map AV.strip=row x)
  (hl:m.length*bytes≤140737488355328) (hl2:m.length≤4611686018427387904) :
  rap false H e sz bytes false (.slice .nil sz []) (.slice tg sz (m.map row))=some (.slice (.own H.length) sz (m.map row),H++[.tok (m.length*sz) e]):=by
 have hr:=Ea m hm;have h3:=Al m hs;simp only [rap,xE,uq,if_true,List.length_map,List.length_nil,Nat.zero_add,true_or,or_true,hl,hl2,hr,and_true,true_and];cases m with
 |nil=>exact absurd rfl h0
 |cons x m=>
  simp only [List.map_cons] at h3 ⊢;simp only [or_true,if_true,List.length_cons,List.length_map,h3,List.nil_append] at hl hl2 hr ⊢
theorem Y3(hN:bu E)(hR:uB E)(hQ:Cn E)(hF:ui E){l:Lex}(hl:l.ok 0)(hk:c7 l=0){e:Nat}{x:ak}(hx:l.entries.l[e]?=some x){c:aG}(hc:vg l x c){a:AV}
  {H H0:List AObj}{p:Nat}{T:TypeId} (hp:H[p]?=some (.cells l.row T)) (k:List Fra):∀ (n i:Nat) (o:List Str) (He:List AObj),i+n=c.slots.l.length→o.length+n≤1000→c.slots.l.length≤1000 →
  M.go fU H0 (.c jC :: .lp ⟨(some [1,3,4,5,6]),[(5,1,aE)],false⟩ jC He :: .blk 2 :: .c (.lv [1,3,4,5])::k) (kv [(1,.ptr p 0),(3,a),(4,.int .i64 e),(5,.slice (.own H.length) 1 (o.map bJ)),(6,.int .i64 i)]) (H++[.tok (o.length*1) aE]) =
   M.go fU H0 k (kv [(1,.ptr p 0),(3,a),(4,.int .i64 e),(5,.slice (.own H.length) 1 ((o++Da l x i (c.slots.l.drop i)).map bJ))]) (H++[.tok ((o++Da l x i (c.slots.l.drop i)).length*1) aE])
 |0,i,o,He,h,ho,hcl=>by
  have e:i=c.slots.l.length:=by omega
  subst e;have hp':=fun L=>bZ (L:=L) hp
  have hss:=fun H=>IW M hR hF hl (e:=(e:Int)) (by omega) (by simpa using hx) hc H
  rw [List.drop_length,Da,Z6];rw [ag M jC.eq_1];simp (maxSteps:=3000000) (maxDischargeDepth:=6) +contextual -implicitDefEqProofs only [amC M,↓amD,Nat.reduceBEq,Nat.reduceAdd,env,ab,kC,Nat.lt_irrefl,hp',bH,hss]
 |n+1,i,o,He,h,ho,hcl=>by
  have hi:i<c.slots.l.length:=by omega
  have hs:c.slots.l[i]?=some c.slots.l[i]:=ZC hi;have hd:c.slots.l.drop i=c.slots.l[i]::c.slots.l.drop (i+1):=ZD hi;have hf:=fun H=>R0 M hN hR hQ hF hl hk (T8 hk (e:=(e:Int)) (by omega) (by simpa using hx) hc hs) H
  have hp':=fun L=>bZ (L:=L) hp
  have hss:=fun H=>IW M hR hF hl (e:=(e:Int)) (by omega) (by simpa using hx) hc H
  rw [hd,Da];generalize vH l x c.slots.l[i] i=w at hf;have ap:=HV (row:=bJ) (l:=o) (x:=w) (r:=[.str w]) (sz:=1) (bytes:=16) (e:=aE) H rfl rfl rfl (by omega) (by omega);have ih:=fun He=>Y3 hN hR hQ hF hl hk hx hc (a:=a) (H0:=H0) hp k n (i+1) (o++[w]) He (by omega) (by simp;omega) hcl
  simp only [kv_cons,kv_nil,List.append_assoc,List.cons_append,List.nil_append] at ih ⊢;rw [ag M jC.eq_1];simp (maxSteps:=3000000) (maxDischargeDepth:=6) +contextual -implicitDefEqProofs only [amC M,↓amD,Nat.reduceBEq,Nat.reduceAdd,env,ab,kC,amG,AV.cell,Nat.reduceMul,Nat.reduceLeDiff,hi,hf,hp',hss,ap,ih,bH,aZ hi (show c.slots.l.length≤aQ by simp only [aQ];omega)]
theorem Y4(hN:bu E)(hR:uB E)(hQ:Cn E)(hF:ui E){l:Lex}(hl:l.ok 0)(hk:c7 l=0)
  {H H0:List AObj}{p:Nat}{T:TypeId} (hp:H[p]?=some (.cells l.row T)) (k:List Fra):∀ (n i:Nat) (o:List (List Str)) (L He:List AObj),i+n=l.entries.l.length→o.length+n≤1000 →
  M.go fU H0 (.c jD :: .lp ⟨(some [1,3,4]),[(3,1,fb)],false⟩ jD He :: .blk 0 :: .c (.lv [3])::k) (kv [(1,.ptr p 0),(3,.slice (.own H.length) 1 (o.map l6)),(4,.int .i64 i)]) (H++(.tok (o.length*1) fb::L)) =
   M.go fU H0 k (kv [(3,.slice (.own H.length) 1 ((o++yd l (l.entries.l.drop i)).map l6))]) (H++(.tok ((o++yd l (l.entries.l.drop i)).length*1) fb::(L++Uc l (l.entries.l.drop i))))
 |0,i,o,L,He,h,ho=>by
  have e:i=l.entries.l.length:=by omega
  subst e;have hp':=fun L=>bZ (L:=L) hp
  rw [List.drop_length,yd,Z6,show Uc l []=[] from rfl,Z6];rw [ag M jD.eq_1];simp (maxSteps:=3000000) (maxDischargeDepth:=6) +contextual -implicitDefEqProofs only [amC M,↓amD,Nat.reduceBEq,Nat.reduceAdd,env,ab,kC,Nat.lt_irrefl,hp',bH]
 |n+1,i,o,L,He,h,ho=>by
  have hi:i<l.entries.l.length:=by omega
  have hx:l.entries.l[i]?=some l.entries.l[i]:=ZC hi;have hd:l.entries.l.drop i=l.entries.l[i]::l.entries.l.drop (i+1):=ZD hi;generalize l.entries.l[i]=x at hx hd;obtain ⟨c,hc⟩:=Fp hk hx;have hsl:=za hk hc;have hp':=fun L=>bZ (L:=L) hp
  have hws:=aZ hi hl.entries.len;have e1:yd l (x::l.entries.l.drop (i+1))=Da l x 0 c.slots.l::yd l (l.entries.l.drop (i+1)):=by rw [yd,hc.cls]
  have e2:Uc l (x::l.entries.l.drop (i+1)) = .tok ((Da l x 0 c.slots.l).length*1) aE::Uc l (l.entries.l.drop (i+1)):=by rw [Uc,e1];rfl
  rw [hd,e1,e2];have ih:=fun He=>Y4 hN hR hQ hF hl hk (H0:=H0) hp k n (i+1) (o++[Da l x 0 c.slots.l]) (L++[.tok ((Da l x 0 c.slots.l).length*1) aE]) He (by omega) (by simp;omega)
  have hin:=fun k He=>Y3 M hN hR hQ hF hl hk hx hc (a:=.slice (.own H.length) 1 (o.map l6)) (H:=H++(.tok (o.length*1) fb::L)) (H0:=H0) (p:=p) (T:=T) (bZ hp) k c.slots.l.length 0 [] He (by omega) (by simp;omega) (by omega)
  simp only [List.drop_zero,List.nil_append] at hin;generalize Da l x 0 c.slots.l=f at ih hin ⊢;have ap:=fun L=>GQ (row:=l6) (l:=o) (x:=f) (r:=[.slice .any 1 (f.map bJ)]) (sz:=1) (bytes:=24) (e:=fb) H L rfl rfl rfl (by omega) (by omega)
  simp only [kv_cons,kv_nil,Int.ofNat_zero,List.drop_zero,List.append_assoc,List.cons_append,List.nil_append,List.length_append,List.length_cons,List.length_nil,Nat.zero_add,List.map_nil,Nat.zero_mul] at hin;simp only [kv_cons,kv_nil,List.append_assoc,List.cons_append,List.nil_append] at ih ⊢;rw [ag M jD.eq_1];simp (maxSteps:=3000000) (maxDischargeDepth:=6) +contextual -implicitDefEqProofs only [amC M,↓amD,Nat.reduceBEq,Nat.reduceAdd,env,ab,kC,amG,AV.cell,Nat.reduceMul,Nat.reduceLeDiff,hi,hp',hin,ap,ih,hws,bH]
end
section
attribute [local congr] al br aJ ao aH aA aq ah aj aC aD
variable{E:aX}(M:bR bN E)
end
section
attribute [local congr] al br aJ ao aH aA aq ah aj aC aD
variable{E:aX}(M:bR bN E)
end
section
attribute [local congr] al br aJ ao aH aA aq ah aj aC aD
variable{E:aX}(M:bR bN E)
theorem N2(l:Lex):∀ t:List ak,(yd l t).length=t.length
 |[]=>rfl
 |x::t=>by rw [yd,ZP,ZP,N2 l t]
end
section
attribute [local congr] al br aJ ao aH aA aq ah aj aC aD
variable{E:aX}(M:bR bN E)
theorem Ue(hN:bu E)(hR:V4 E)(hE2:uB E)(hQ:Cn E)(hF:ui E){l:Lex}(hl:l.ok 0)(hk:c7 l=0)(H:List AObj) :
  M.run rq [.agg l.row] H=some (.ret (.slice .any 1 ((yd l l.entries.l).map l6)),H):=by
 rw [aN M hR.truchmanref02_All rfl (c:=ry) rfl,ry];have hel:=D9 hk;have h1:=fun k He=>Y4 M hN hE2 hQ hF hl hk (H:=H++[.cells l.row ae]) (H0:=H) (p:=H.length) (T:=ae) (by rw [cI];rfl) k l.entries.l.length 0 [] [] He (by omega) (by simp only [List.length_nil];omega)
 simp only [kv_cons,kv_nil,Int.ofNat_zero,List.drop_zero,List.length_append,List.length_cons,List.length_nil,Nat.zero_add,Nat.reduceAdd,List.append_assoc,List.cons_append,List.nil_append,List.map_nil,Nat.zero_mul] at h1;simp (maxSteps:=3000000) (maxDischargeDepth:=6) +contextual -implicitDefEqProofs only [amC M,↓amD,Nat.reduceBEq,Nat.reduceAdd,env,ab,kC,amG,AV.cell,Nat.reduceMul,Nat.reduceLeDiff,h1,Ud,implies_true,cut_app]
end
section
attribute [local congr] al br aJ ao aH aA aq ah aj aC aD
variable{E:aX}(M:bR bN E)
structure w9 (E:aX):Prop where
 slices_Clone_string_string:E.fn km=some kq
 slices_Clone_api_Feat_api_Feat:E.fn cL=some jj
 slices_Clone_api_Irregular_api_Irregular:E.fn cR=some dV
 slices_Clone_api_Spell_api_Spell:E.fn gI=some gT
 slices_Clone_api_Trait_api_Trait:E.fn gF=some gK
 slices_Clone_api_Class_api_Class:E.fn gG=some gN
 slices_Clone_api_Entry_api_Entry:E.fn gH=some gQ
 slices_Clone_api_Slot_api_Slot:E.fn iT=some jg
 slices_Clone_api_Link_api_Link:E.fn iS=some jd
 morph_owned:E.fn fp=some bM
structure XV (E:aX):Prop where
 morph_New:E.fn Bq=some qK
def Sl.kn{α:Type}(s:Sl α):Prop:=s.tag = .nil∧s.l=[]∨s.tag = .some
theorem jH(sz:Nat)(r:List (List AV)):req .sl (.slice .some sz r) (.slice .nil 0 [])=some false:=by cases r<;>rfl
theorem tY(sz:Nat):req .sl (.slice .nil sz []) (.slice .nil 0 [])=some true:=rfl
theorem GT(m:Bool)(H:List AObj)(e:TypeId)(sz bytes:Nat)(hb:bytes≤100000):rap false H e sz bytes false (.slice .full sz []) (.slice .some sz [])=some (.slice .full sz [],H):=by
 simp [rap,xE,uq,nj]
theorem BP(H:List AObj)(e:TypeId)(sz bytes:Nat):rap true H e sz bytes false (.slice .full sz []) (.slice .some sz [])=some (.slice .full sz [],H):=by
 simp [rap,A8,uq,nj]
theorem BQ{α:Type}{row:α→List AV}{m:List α}{tg:Tag}{sz bytes:Nat}{e:TypeId}(H:List AObj)(h0:m≠[])(hm:∀ x∈m,(row x).length=sz∧(row x).all AV.cell=true)
  (hl:m.length*bytes≤140737488355328) (hl2:m.length≤4611686018427387904) :
  rap true H e sz bytes false (.slice .full sz []) (.slice tg sz (m.map row))=some (.rslice H.length 0 m.length sz true,H++[.cells (m.map row).flatten e]):=by
 have hr:=Ea m hm;have h1:m.map row≠[]:=by simpa using h0
 simp only [rap,A8,uq,if_true,List.length_map,List.length_nil,Nat.zero_add,true_or,or_true,hl,hl2,hr,and_true,true_and,h1,ne_eq,not_false_eq_true,List.nil_append]
def fu{α:Type}(n sz:Nat):Sl α→AV
 |⟨.nil,_⟩=>.slice .nil sz []
 |⟨_,[]⟩=>.slice .full sz []
 |⟨_,x::l⟩=>.rslice n 0 (x::l).length sz true
def ye{α:Type}(s:Sl α)(row:α→List AV)(e:TypeId):List AObj:=
 match s with
 |⟨.nil,_⟩=>[]
 |⟨_,[]⟩=>[]
 |⟨_,x::l⟩=>[.cells ((x::l).map row).flatten e]
theorem Uf(n:Nat)(x:Str):WkL n (bJ x) (bJ x):=⟨wk_str _ _,trivial⟩
theorem JU(hO:w9 E){s:Sl Str}(hs:s.kn)(hn:s.l.length≤1000000)(H:List AObj):M.run km [.slice s.tag 1 (s.l.map bJ)] H=some (.ret (.slice .any 1 (s.l.map bJ)),H):=by
 rw [aN M hO.slices_Clone_string_string rfl (c:=kp) rfl,kp];obtain ⟨tg,l⟩:=s;simp only [Sl.kn] at hs hn ⊢;rcases hs with ⟨rfl,rfl⟩ | rfl
 ·simp (maxSteps:=3000000) (maxDischargeDepth:=6) +contextual -implicitDefEqProofs only [amC M,↓amD,Nat.reduceBEq,Nat.reduceAdd,env,ab,kr,tY,Option.map_some,cY]
 ·cases l with
  |nil=>
   have ap0:=fun H=>GT false H aE 1 16 (by decide)
   simp (maxSteps:=3000000) (maxDischargeDepth:=6) +contextual -implicitDefEqProofs only [amC M,↓amD,Nat.reduceBEq,Nat.reduceAdd,env,ab,kr,amG,AV.cell,Nat.reduceMul,Nat.reduceLeDiff,jH,Option.map_some,ap0,cY]
  |cons x l=>
   have hw:=fun n=>GS Uf n (x::l)
   have ap:=GR (row:=bJ) (m:=x::l) (tg:=.some) (sz:=1) (bytes:=16) (e:=aE) H (by simp) (fun _ _=>⟨rfl,rfl⟩) (fun _ _=>rfl) (by omega) (by omega);generalize x::l=m at hw ap;simp only [rowsWk_map] at hw;simp (maxSteps:=3000000) (maxDischargeDepth:=6) +contextual -implicitDefEqProofs only [amC M,↓amD,Nat.reduceBEq,Nat.reduceAdd,env,ab,kr,amG,AV.cell,Nat.reduceMul,Nat.reduceLeDiff,jH,Option.map_some,ap,hw,implies_true,cut_app]
theorem Ug(n:Nat)(x:aI):WkL n (aI.row x) (aI.row x):=⟨wk_str _ _,wk_str _ _,trivial⟩
theorem xb(hO:w9 E){s:Sl aI}(hs:s.kn)(hn:s.l.length≤1000000)(H:List AObj):M.run cL [.slice s.tag 2 (s.l.map aI.row)] H=some (.ret (.slice .any 2 (s.l.map aI.row)),H):=by
 rw [aN M hO.slices_Clone_api_Feat_api_Feat rfl (c:=ji) rfl,ji];obtain ⟨tg,l⟩:=s;simp only [Sl.kn] at hs hn ⊢;rcases hs with ⟨rfl,rfl⟩ | rfl
 ·simp (maxSteps:=3000000) (maxDischargeDepth:=6) +contextual -implicitDefEqProofs only [amC M,↓amD,Nat.reduceBEq,Nat.reduceAdd,env,ab,jk,tY,Option.map_some,cY]
 ·cases l with
  |nil=>
   have ap0:=fun H=>GT false H bQ 2 32 (by decide)
   simp (maxSteps:=3000000) (maxDischargeDepth:=6) +contextual -implicitDefEqProofs only [amC M,↓amD,Nat.reduceBEq,Nat.reduceAdd,env,ab,jk,amG,AV.cell,Nat.reduceMul,Nat.reduceLeDiff,jH,Option.map_some,ap0,cY]
  |cons x l=>
   have hw:=fun n=>GS Ug n (x::l)
   have ap:=GR (row:=aI.row) (m:=x::l) (tg:=.some) (sz:=2) (bytes:=32) (e:=bQ) H (by simp) (fun _ _=>⟨rfl,rfl⟩) (fun _ _=>rfl) (by omega) (by omega);generalize x::l=m at hw ap;simp only [rowsWk_map] at hw;simp (maxSteps:=3000000) (maxDischargeDepth:=6) +contextual -implicitDefEqProofs only [amC M,↓amD,Nat.reduceBEq,Nat.reduceAdd,env,ab,jk,amG,AV.cell,Nat.reduceMul,Nat.reduceLeDiff,jH,Option.map_some,ap,hw,implies_true,cut_app]
theorem V6(n:Nat)(x:bo):WkL n (bo.row x) (bo.row x):=⟨wk_int _ _ _,wk_str _ _,trivial⟩
theorem GE(hO:w9 E){s:Sl bo}(hs:s.kn)(hn:s.l.length≤1000000)(H:List AObj):M.run cR [.slice s.tag 2 (s.l.map bo.row)] H=some (.ret (.slice .any 2 (s.l.map bo.row)),H):=by
 rw [aN M hO.slices_Clone_api_Irregular_api_Irregular rfl (c:=dU) rfl,dU];obtain ⟨tg,l⟩:=s;simp only [Sl.kn] at hs hn ⊢;rcases hs with ⟨rfl,rfl⟩ | rfl
 ·simp (maxSteps:=3000000) (maxDischargeDepth:=6) +contextual -implicitDefEqProofs only [amC M,↓amD,Nat.reduceBEq,Nat.reduceAdd,env,ab,dW,tY,Option.map_some,cY]
 ·cases l with
  |nil=>
   have ap0:=fun H=>GT false H cB 2 24 (by decide)
   simp (maxSteps:=3000000) (maxDischargeDepth:=6) +contextual -implicitDefEqProofs only [amC M,↓amD,Nat.reduceBEq,Nat.reduceAdd,env,ab,dW,amG,AV.cell,Nat.reduceMul,Nat.reduceLeDiff,jH,Option.map_some,ap0,cY]
  |cons x l=>
   have hw:=fun n=>GS V6 n (x::l)
   have ap:=GR (row:=bo.row) (m:=x::l) (tg:=.some) (sz:=2) (bytes:=24) (e:=cB) H (by simp) (fun _ _=>⟨rfl,rfl⟩) (fun _ _=>rfl) (by omega) (by omega);generalize x::l=m at hw ap;simp only [rowsWk_map] at hw;simp (maxSteps:=3000000) (maxDischargeDepth:=6) +contextual -implicitDefEqProofs only [amC M,↓amD,Nat.reduceBEq,Nat.reduceAdd,env,ab,dW,amG,AV.cell,Nat.reduceMul,Nat.reduceLeDiff,jH,Option.map_some,ap,hw,implies_true,cut_app]
theorem R4(n:Nat)(x:aV):WkL n (aV.row x) (aV.row x):=⟨wk_str _ _,wk_str _ _,wk_str _ _,wk_str _ _,trivial⟩
theorem GF(hO:w9 E){s:Sl aV}(hs:s.kn)(hn:s.l.length≤1000000)(H:List AObj):M.run gI [.slice s.tag 4 (s.l.map aV.row)] H=some (.ret (.slice .any 4 (s.l.map aV.row)),H):=by
 rw [aN M hO.slices_Clone_api_Spell_api_Spell rfl (c:=gS) rfl,gS];obtain ⟨tg,l⟩:=s;simp only [Sl.kn] at hs hn ⊢;rcases hs with ⟨rfl,rfl⟩ | rfl
 ·simp (maxSteps:=3000000) (maxDischargeDepth:=6) +contextual -implicitDefEqProofs only [amC M,↓amD,Nat.reduceBEq,Nat.reduceAdd,env,ab,gU,tY,Option.map_some,cY]
 ·cases l with
  |nil=>
   have ap0:=fun H=>GT false H b7 4 64 (by decide)
   simp (maxSteps:=3000000) (maxDischargeDepth:=6) +contextual -implicitDefEqProofs only [amC M,↓amD,Nat.reduceBEq,Nat.reduceAdd,env,ab,gU,amG,AV.cell,Nat.reduceMul,Nat.reduceLeDiff,jH,Option.map_some,ap0,cY]
  |cons x l=>
   have hw:=fun n=>GS R4 n (x::l)
   have ap:=GR (row:=aV.row) (m:=x::l) (tg:=.some) (sz:=4) (bytes:=64) (e:=b7) H (by simp) (fun _ _=>⟨rfl,rfl⟩) (fun _ _=>rfl) (by omega) (by omega);generalize x::l=m at hw ap;simp only [rowsWk_map] at hw;simp (maxSteps:=3000000) (maxDischargeDepth:=6) +contextual -implicitDefEqProofs only [amC M,↓amD,Nat.reduceBEq,Nat.reduceAdd,env,ab,gU,amG,AV.cell,Nat.reduceMul,Nat.reduceLeDiff,jH,Option.map_some,ap,hw,implies_true,cut_app]
theorem GG(hO:w9 E){s:Sl aK}(hs:s.kn)(hn:s.l.length≤1000000)(H:List AObj):M.run gF [.slice s.tag 2 (s.l.map aK.row)] H=some (.ret (fu H.length 2 s),H++ye s aK.row bO):=by
 rw [aN M hO.slices_Clone_api_Trait_api_Trait rfl (c:=gJ) rfl,gJ];obtain ⟨tg,l⟩:=s;simp only [Sl.kn] at hs hn ⊢;rcases hs with ⟨rfl,rfl⟩ | rfl
 ·simp (maxSteps:=3000000) (maxDischargeDepth:=6) +contextual -implicitDefEqProofs only [amC M,↓amD,Nat.reduceBEq,Nat.reduceAdd,env,ab,gL,tY,Option.map_some,fu,ye]
 ·cases l with
  |nil=>
   have ap0:=fun H=>BP H bO 2 40
   simp (maxSteps:=3000000) (maxDischargeDepth:=6) +contextual -implicitDefEqProofs only [amC M,↓amD,Nat.reduceBEq,Nat.reduceAdd,env,ab,gL,amG,AV.cell,Nat.reduceMul,Nat.reduceLeDiff,jH,Option.map_some,ap0,fu,ye]
  |cons x l=>
   have ap:=BQ (row:=aK.row) (m:=x::l) (tg:=.some) (sz:=2) (bytes:=40) (e:=bO) H (by simp) (fun _ _=>⟨rfl,rfl⟩) (by omega) (by omega);simp only [fu,ye];generalize x::l=m at ap;simp (maxSteps:=3000000) (maxDischargeDepth:=6) +contextual -implicitDefEqProofs only [amC M,↓amD,Nat.reduceBEq,Nat.reduceAdd,env,ab,gL,amG,AV.cell,Nat.reduceMul,Nat.reduceLeDiff,jH,Option.map_some,ap]
theorem GH(hO:w9 E){s:Sl aG}(hs:s.kn)(hn:s.l.length≤1000000)(H:List AObj):M.run gG [.slice s.tag 2 (s.l.map aG.row)] H=some (.ret (fu H.length 2 s),H++ye s aG.row aR):=by
 rw [aN M hO.slices_Clone_api_Class_api_Class rfl (c:=gM) rfl,gM];obtain ⟨tg,l⟩:=s;simp only [Sl.kn] at hs hn ⊢;rcases hs with ⟨rfl,rfl⟩ | rfl
 ·simp (maxSteps:=3000000) (maxDischargeDepth:=6) +contextual -implicitDefEqProofs only [amC M,↓amD,Nat.reduceBEq,Nat.reduceAdd,env,ab,gO,tY,Option.map_some,fu,ye]
 ·cases l with
  |nil=>
   have ap0:=fun H=>BP H aR 2 40
   simp (maxSteps:=3000000) (maxDischargeDepth:=6) +contextual -implicitDefEqProofs only [amC M,↓amD,Nat.reduceBEq,Nat.reduceAdd,env,ab,gO,amG,AV.cell,Nat.reduceMul,Nat.reduceLeDiff,jH,Option.map_some,ap0,fu,ye]
  |cons x l=>
   have ap:=BQ (row:=aG.row) (m:=x::l) (tg:=.some) (sz:=2) (bytes:=40) (e:=aR) H (by simp) (fun _ _=>⟨rfl,rfl⟩) (by omega) (by omega);simp only [fu,ye];generalize x::l=m at ap;simp (maxSteps:=3000000) (maxDischargeDepth:=6) +contextual -implicitDefEqProofs only [amC M,↓amD,Nat.reduceBEq,Nat.reduceAdd,env,ab,gO,amG,AV.cell,Nat.reduceMul,Nat.reduceLeDiff,jH,Option.map_some,ap]
theorem GI(hO:w9 E){s:Sl ak}(hs:s.kn)(hn:s.l.length≤1000000)(H:List AObj):M.run gH [.slice s.tag 4 (s.l.map ak.row)] H=some (.ret (fu H.length 4 s),H++ye s ak.row aU):=by
 rw [aN M hO.slices_Clone_api_Entry_api_Entry rfl (c:=gP) rfl,gP];obtain ⟨tg,l⟩:=s;simp only [Sl.kn] at hs hn ⊢;rcases hs with ⟨rfl,rfl⟩ | rfl
 ·simp (maxSteps:=3000000) (maxDischargeDepth:=6) +contextual -implicitDefEqProofs only [amC M,↓amD,Nat.reduceBEq,Nat.reduceAdd,env,ab,gR,tY,Option.map_some,fu,ye]
 ·cases l with
  |nil=>
   have ap0:=fun H=>BP H aU 4 80
   simp (maxSteps:=3000000) (maxDischargeDepth:=6) +contextual -implicitDefEqProofs only [amC M,↓amD,Nat.reduceBEq,Nat.reduceAdd,env,ab,gR,amG,AV.cell,Nat.reduceMul,Nat.reduceLeDiff,jH,Option.map_some,ap0,fu,ye]
  |cons x l=>
   have ap:=BQ (row:=ak.row) (m:=x::l) (tg:=.some) (sz:=4) (bytes:=80) (e:=aU) H (by simp) (fun _ _=>⟨rfl,rfl⟩) (by omega) (by omega);simp only [fu,ye];generalize x::l=m at ap;simp (maxSteps:=3000000) (maxDischargeDepth:=6) +contextual -implicitDefEqProofs only [amC M,↓amD,Nat.reduceBEq,Nat.reduceAdd,env,ab,gR,amG,AV.cell,Nat.reduceMul,Nat.reduceLeDiff,jH,Option.map_some,ap]
theorem IZ(hO:w9 E){s:Sl aL}(hs:s.kn)(hn:s.l.length≤1000000)(H:List AObj):M.run iT [.slice s.tag 4 (s.l.map aL.row)] H=some (.ret (fu H.length 4 s),H++ye s aL.row aS):=by
 rw [aN M hO.slices_Clone_api_Slot_api_Slot rfl (c:=jf) rfl,jf];obtain ⟨tg,l⟩:=s;simp only [Sl.kn] at hs hn ⊢;rcases hs with ⟨rfl,rfl⟩ | rfl
 ·simp (maxSteps:=3000000) (maxDischargeDepth:=6) +contextual -implicitDefEqProofs only [amC M,↓amD,Nat.reduceBEq,Nat.reduceAdd,env,ab,jh,tY,Option.map_some,fu,ye]
 ·cases l with
  |nil=>
   have ap0:=fun H=>BP H aS 4 64
   simp (maxSteps:=3000000) (maxDischargeDepth:=6) +contextual -implicitDefEqProofs only [amC M,↓amD,Nat.reduceBEq,Nat.reduceAdd,env,ab,jh,amG,AV.cell,Nat.reduceMul,Nat.reduceLeDiff,jH,Option.map_some,ap0,fu,ye]
  |cons x l=>
   have ap:=BQ (row:=aL.row) (m:=x::l) (tg:=.some) (sz:=4) (bytes:=64) (e:=aS) H (by simp) (fun _ _=>⟨rfl,rfl⟩) (by omega) (by omega);simp only [fu,ye];generalize x::l=m at ap;simp (maxSteps:=3000000) (maxDischargeDepth:=6) +contextual -implicitDefEqProofs only [amC M,↓amD,Nat.reduceBEq,Nat.reduceAdd,env,ab,jh,amG,AV.cell,Nat.reduceMul,Nat.reduceLeDiff,jH,Option.map_some,ap]
theorem I0(hO:w9 E){s:Sl bF}(hs:s.kn)(hn:s.l.length≤1000000)(H:List AObj):M.run iS [.slice s.tag 3 (s.l.map bF.row)] H=some (.ret (fu H.length 3 s),H++ye s bF.row c6):=by
 rw [aN M hO.slices_Clone_api_Link_api_Link rfl (c:=jb) rfl,jb];obtain ⟨tg,l⟩:=s;simp only [Sl.kn] at hs hn ⊢;rcases hs with ⟨rfl,rfl⟩ | rfl
 ·simp (maxSteps:=3000000) (maxDischargeDepth:=6) +contextual -implicitDefEqProofs only [amC M,↓amD,Nat.reduceBEq,Nat.reduceAdd,env,ab,je,tY,Option.map_some,fu,ye]
 ·cases l with
  |nil=>
   have ap0:=fun H=>BP H c6 3 56
   simp (maxSteps:=3000000) (maxDischargeDepth:=6) +contextual -implicitDefEqProofs only [amC M,↓amD,Nat.reduceBEq,Nat.reduceAdd,env,ab,je,amG,AV.cell,Nat.reduceMul,Nat.reduceLeDiff,jH,Option.map_some,ap0,fu,ye]
  |cons x l=>
   have ap:=BQ (row:=bF.row) (m:=x::l) (tg:=.some) (sz:=3) (bytes:=56) (e:=c6) H (by simp) (fun _ _=>⟨rfl,rfl⟩) (by omega) (by omega);simp only [fu,ye];generalize x::l=m at ap;simp (maxSteps:=3000000) (maxDischargeDepth:=6) +contextual -implicitDefEqProofs only [amC M,↓amD,Nat.reduceBEq,Nat.reduceAdd,env,ab,je,amG,AV.cell,Nat.reduceMul,Nat.reduceLeDiff,jH,Option.map_some,ap]
end
section
attribute [local congr] al br aJ ao aH aA aq ah aj aC aD
variable{E:aX}(M:bR bN E)
def vP:List AV:=[.nilp,.nilp,.nilp,.nilp,.nilp,.nilp,.nilp,.nilp,.nilp,.nilp,.nilp,.nilp,.nilp,.nilp,.nilp,.nilp,.nilp,.nilp,.nilp,.nilp,.nilp,.nilp,.nilp,.nilp,.nilp,.nilp,.int .i64 0]
structure LeafC (b:Nat) (G:List AObj) (cs:List AV):Prop where
 len:cs.length=27
 next:∀ j,j<26→cs[j]?=some .nilp∨∃ q cs',cs[j]?=some (.ptr q 0)∧b≤q∧G[q]?=some (.cells cs' bf)
 many:∃ m,cs[26]?=some (.int .i64 m)
def Uh(b:Nat)(G:List AObj)(q:Nat):Prop:=b≤q∧∃ cs,G[q]?=some (.cells cs bf)
def R5(b:Nat)(G G':List AObj):Prop:=G.length≤G'.length∧(∀ i x,G[i]?=some x→(∀ cs,x = .cells cs bf→i<b)→G'[i]?=some x)∧∀ p,Uh b G p→Uh b G' p
theorem R5.refl(b:Nat)(G:List AObj):R5 b G G:=⟨ZO _,fun _ _ h _=>h,fun _ h=>h⟩
theorem R5.trans{b:Nat}{G1 G2 G3:List AObj}(h:R5 b G1 G2)(h':R5 b G2 G3):R5 b G1 G3:=⟨ZU h.1 h'.1,fun i x hi hx=>h'.2.1 i x (h.2.1 i x hi hx) hx,fun p hp=>h'.2.2 p (h.2.2 p hp)⟩
theorem KL(j:Nat)(hj:j<26):vP[j]?=some .nilp:=by
 have h:vP=List.replicate 26 .nilp++[.int .i64 0]:=rfl;rw [h,List.getElem?_append_left (by simpa using hj),List.getElem?_replicate,if_pos hj]
end
section
attribute [local congr] al br aJ ao aH aA aq ah aj aC aD
variable{E:aX}(M:bR bN E)
theorem jW{cs:List AV}{j:Nat}{v:AV}(h:cs[j]?=some v):cK none cs j=some v:=h
theorem Mb(H:List AObj)(i o:Nat):rnc H (.ptr i o)=some (.ptr i o,H):=rfl
theorem W6(i o:Nat):req .ptr (.ptr i o) .nilp=some false:=rfl
theorem W7:req .ptr .nilp .nilp=some true:=rfl
theorem Ui{q j:Nat}(hj:j<26)(k:IntKind):Su 26 1 (.ptr q 0) (.int k (j:Int))=some (.ptr q j):=by
 simp only [Su];rw [if_pos ⟨by omega,by omega⟩];simp
theorem V7(cs:List AV)(o:Nat)(v:AV):aW cs o [v]=cs.set o v:=by
 show aW (cs.set o v) (o+1) []=_;cases (cs.set o v)<;>rfl
theorem yf{H:List AObj}{q o:Nat}{v:AV}{cs:List AV}{T:TypeId}(h:H[q]?=some (.cells cs T))(ho:o<cs.length)(hc:v.cell=true):stO 1 H q o [v] H[q]?=some (H.set q (.cells (cs.set o v) T)):=by
 rw [h,stO_cells (sz:=1) (cs:=[v]) rfl (by omega) (by simp [hc]),V7]
theorem Uj{c:UInt8}(h:eW c=true):∃ j:Nat,j<26∧IntKind.u8.wrap ((c.toNat:Int)-97)=(j:Int):=by
 simp only [eW,Bool.and_eq_true,decide_eq_true_eq] at h;refine ⟨c.toNat-97,by omega, ?_⟩;have e:((c.toNat:Int)-97)=((c.toNat-97:Nat):Int):=by omega
 rw [e];exact IntWalk.u8_in _ ⟨by omega,by omega⟩
end
section
attribute [local congr] al br aJ ao aH aA aq ah aj aC aD
variable{E:aX}(M:bR bN E)
theorem Mc{l:Lex}(hk:c7 l=0){x:ak}{c:aG}(hc:vg l x c){e:Nat}:∀ (t:List aL) (i:Nat),(∀ s∈t,s∈c.slots.l)→∀ h∈zb l x e i t,h.w.all eW=true
 |[],_,_,h,hh=>by cases hh
 |s::t,i,hs,h,hh=>by
  have hcm:c∈l.classes.l:=List.mem_of_find?_eq_some hc.cls;have hso:=TW (L5 hk hcm (hs s (by simp)));rw [zb] at hh;cases hw:vH l x s i == [] with
  |true=>rw [hw] at hh;exact Mc hk hc t (i+1) (fun s hs'=>hs s (List.mem_cons_of_mem _ hs')) h hh
  |false=>
   rw [hw] at hh;rcases ZY.1 hh with rfl | hh
   ·exact XU hk hc hso i
   ·exact Mc hk hc t (i+1) (fun s hs'=>hs s (List.mem_cons_of_mem _ hs')) h hh
theorem QE{l:Lex}(hk:c7 l=0):∀ (t:List ak) (e:Nat),(∀ x∈t,∃ c,vg l x c)→∀ h∈AN l e t,h.w.all eW=true
 |[],_,_,h,hh=>by cases hh
 |x::t,e,ht,h,hh=>by
  obtain ⟨c,hc⟩:=ht x (by simp);rw [AN,hc.cls] at hh;rcases ZX.1 hh with hh | hh
  ·exact Mc hk hc c.slots.l 0 (fun _ h=>h) h hh
  ·exact QE hk t (e+1) (fun y hy=>ht y (List.mem_cons_of_mem _ hy)) h hh
end
section
attribute [local congr] al br aJ ao aH aA aq ah aj aC aD
variable{E:aX}(M:bR bN E)
def Tag.cl:Tag→Tag
 |.nil=>.nil
 |_=>.any
def Sl.an{α:Type}(s:Sl α):Sl α:=⟨.any,s.l⟩
def Sl.mp{α β:Type}(f:α→β)(s:Sl α):Sl β:=⟨s.tag.cl,s.l.map f⟩
def aK.cl(x:aK):aK:=⟨x.name,x.values.an⟩
def aL.cl(x:aL):aL:=⟨x.cut,x.pre,x.add,x.feats.an⟩
def aG.cl(x:aG):aG:=⟨x.name,x.slots.mp aL.cl⟩
def ak.cl(x:ak):ak:=⟨x.lem,x.cls,x.feats.an,x.forms.an⟩
def bF.cl(x:bF):bF:=⟨x.cls,x.glue,x.feats.an⟩
def Lex.cl(l:Lex):Lex:=⟨l.vowels,l.traits.mp aK.cl,l.classes.mp aG.cl,l.entries.mp ak.cl,l.spells.an,l.links.mp bF.cl⟩
theorem Uk{n:Nat}(t:Tag):HO n t.cl:=by cases t<;>trivial
theorem KM{α:Type}{s:Sl α}{n:Nat}{p:α→Prop}(h:s.ok n p):s.an.ok n p:=⟨trivial,h.len,h.all⟩
theorem N3{α β:Type}{f:α→β}{s:Sl α}{n:Nat}{p:α→Prop}{q:β→Prop}(h:s.ok n p)(hf:∀ x,p x→q (f x)):(s.mp f).ok n q:=⟨Uk _,by simpa [Sl.mp] using h.len,fun y hy=>by
 obtain ⟨x,hx,rfl⟩:=ZW.1 hy;exact hf x (h.all x hx)⟩
theorem Y5{l:Lex}{n:Nat}(h:l.ok n):l.cl.ok n:=
 ⟨h.vowels,N3 h.traits fun _ h=>⟨h.name,KM h.values⟩,N3 h.classes fun _ h=>⟨h.name,N3 h.slots fun _ h=>⟨h.cut,h.pre,h.add,KM h.feats⟩⟩,
  N3 h.entries fun _ h=>⟨h.lem,h.cls,KM h.feats,KM h.forms⟩,KM h.spells,N3 h.links fun _ h=>⟨h.cls,h.glue,KM h.feats⟩⟩
theorem N4{α β:Type}(f:α→β)(F:Nat→β→Int):∀ (l:List α) (i:Nat),sJ F i (l.map f)=sJ (fun i x=>F i (f x)) i l
 |[],_=>rfl
 |x::l,i=>by rw [ZQ,sJ,sJ,N4 f F l (i+1)]
theorem zd{α β:Type}(m:Int)(f:α→β)(F:Nat→β→Int)(l:List α):lq m F (l.map f)=lq m (fun i x=>F i (f x)) l:=by
 rw [lq,lq,N4,ZL]
theorem I1{α β:Type}(f:α→β)(p:β→Bool)(q:α→Bool)(h:∀ x,p (f x)=q x):∀ l:List α,(l.map f).find? p=(l.find? q).map f
 |[]=>rfl
 |x::l=>by
  rw [ZQ,List.find?_cons,List.find?_cons,h x];cases q x with
  |true=>rfl
  |false=>exact I1 f p q h l
theorem PM(l:Lex)(s:Str):rV l.cl s=(rV l s).map aG.cl:=I1 _ _ _ (fun _=>rfl) l.classes.l
theorem any_map{α β:Type}(f:α→β)(p:β→Bool)(q:α→Bool)(h:∀ x,p (f x)=q x)(l:List α):(l.map f).any p=l.any q:=by
 rw [List.any_map];congr 1;funext x;exact h x
theorem XW(l:Lex)(b:List aI)(i:Nat)(f:aI):Cm l.cl b i f=Cm l b i f:=by
 unfold Cm;rw [show l.cl.traits.l.find? (fun t=>t.name == f.name)=(l.traits.l.find? fun t=>t.name == f.name).map aK.cl from I1 _ _ _ (fun _=>rfl) l.traits.l];cases l.traits.l.find? fun t=>t.name == f.name<;>rfl
theorem Ft(l:Lex)(b:List aI):mN l.cl b=mN l b:=by
 unfold mN;rw [show Cm l.cl b=Cm l b from funext fun i=>funext fun f=>XW l b i f]
theorem I2{α β:Type}(f:α→β)(p:β→Bool)(q:α→Bool)(h:∀ x,p (f x)=q x)(l:List α)(i:Nat):((l.map f).take i).any p=(l.take i).any q:=by
 rw [← List.map_take];exact any_map f p q h _
theorem Ul(l:Lex):c7 l.cl=c7 l:=by
 have h1:sL l.cl=sL l:=by
  unfold sL;rw [show l.cl.traits.l=l.traits.l.map aK.cl from rfl,zd];congr 1;funext i t;unfold BF;rw [show l.cl.traits.l=l.traits.l.map aK.cl from rfl,I2 aK.cl _ (fun o=>o.name == t.name) (fun _=>rfl)];rfl
 have h2:rE l.cl=rE l:=by
  unfold rE;rw [show l.cl.classes.l=l.classes.l.map aG.cl from rfl,zd];congr 1;funext i c;unfold w5;rw [show l.cl.classes.l=l.classes.l.map aG.cl from rfl,I2 aG.cl _ (fun o=>o.name == c.name) (fun _=>rfl)];rw [show c.cl.slots.l=c.slots.l.map aL.cl from rfl,zd,ZL]
  have:(fun (i:Nat) (s:aL)=>xA l.cl s.cl)=fun i s=>xA l s:=by
   funext i s;unfold xA;rw [Ft];rfl
  rw [this];rfl
 have h3:tV l.cl=tV l:=by
  unfold tV;rw [show l.cl.entries.l=l.entries.l.map ak.cl from rfl,zd];congr 1;funext i x;unfold w6;rw [show x.cl.cls=x.cls from rfl,PM];cases rV l x.cls with
  |none=>rfl
  |some c=>
   simp only [Option.map_some];rw [show l.cl.entries.l=l.entries.l.map ak.cl from rfl,I2 ak.cl _ (fun o=>o.lem == x.lem&&o.cls == x.cls) (fun _=>rfl),Ft];rw [show c.cl.slots.l=c.slots.l.map aL.cl from rfl,any_map aL.cl _ (fun s=>oY x.feats.l s.feats.l) (fun _=>rfl),ZL];rfl
 have h4:vF l.cl=vF l:=rfl
 have h5:vG l.cl=vG l:=by
  unfold vG;rw [show l.cl.links.l=l.links.l.map bF.cl from rfl,zd];congr 1;funext i x;unfold BG;rw [show x.cl.cls=x.cls from rfl,PM];cases rV l x.cls with
  |none=>rfl
  |some c=>
   simp only [Option.map_some];rw [Ft];rfl
 unfold c7;rw [h1,h2,h3,h4,h5];rfl
theorem XX(l:Lex)(x:ak)(s:aL)(q:Int):vH l.cl x.cl s.cl q=vH l x s q:=rfl
theorem QF(l:Lex)(x:ak)(e:Nat):∀ (t:List aL) (i:Nat),zb l.cl x.cl e i (t.map aL.cl)=zb l x e i t
 |[],_=>rfl
 |s::t,i=>by rw [ZQ,zb,zb,XX,QF l x e t (i+1)]
theorem QG(l:Lex):∀ (t:List ak) (e:Nat),AN l.cl e (t.map ak.cl)=AN l e t
 |[],_=>rfl
 |x::t,e=>by
  rw [ZQ,AN,AN,QG l t (e+1),show x.cl.cls=x.cls from rfl,PM];congr 1;cases rV l x.cls with
  |none=>rfl
  |some c=>exact QF l x e c.slots.l 0
theorem V8(l:Lex):BO l.cl=BO l:=QG l l.entries.l 0
end
section
attribute [local congr] al br aJ ao aH aA aq ah aj aC aD
variable{E:aX}(M:bR bN E)
theorem ze{α:Type}{row:α→List AV}{sz:Nat}(hr:∀ x,(row x).length=sz):∀ (l:List α) (i j:Nat) (x:α),l[i]?=some x→j<sz→((l.map row).flatten)[i*sz+j]?=(row x)[j]?
 |[],i,j,x,h,_=>by simp at h
 |y::l,0,j,x,h,hj=>by
  simp at h;subst h;rw [ZQ,Z1,Nat.zero_mul,Z4,ZE (by rw [hr];exact hj)]
 |y::l,i+1,j,x,h,hj=>by
  rw [ZQ,Z1,ZF (by rw [hr,Nat.add_mul];omega),hr,show (i+1)*sz+j-sz=i*sz+j by rw [Nat.add_mul];omega];exact ze hr l i j x (by simpa using h) hj
theorem zf{α:Type}{row:α→List AV}{sz:Nat}(hr:∀ x,(row x).length=sz){v:AV}{x x':α}{j:Nat}(hj:j<sz)(he:row x'=(row x).set j v):∀ (l:List α) (i:Nat),l[i]?=some x→((l.map row).flatten).set (i*sz+j) v=((l.set i x').map row).flatten
 |[],i,h=>by simp at h
 |y::l,0,h=>by
  simp at h;subst h;rw [ZQ,Z1,Nat.zero_mul,Z4,List.set_append_left _ _ (by rw [hr];exact hj),List.set_cons_zero,ZQ,Z1,he]
 |y::l,i+1,h=>by
  rw [List.map_cons,List.flatten_cons,List.set_append_right _ _ (by rw [hr,Nat.add_mul];omega),hr,show (i+1)*sz+j-sz=i*sz+j by rw [Nat.add_mul];omega,zf hr hj he l i (by simpa using h),List.set_cons_succ,List.map_cons,List.flatten_cons]
theorem zg{α:Type}{row:α→List AV}{sz:Nat}(hr:∀ x,(row x).length=sz):∀ l:List α,((l.map row).flatten).length=l.length*sz
 |[]=>by simp
 |y::l=>by rw [ZQ,Z1,ZH,hr,zg hr l,ZP,Nat.add_mul];omega
def nb{α:Type}(f:α→α)(i:Nat)(l:List α):List α:=(l.take i).map f++l.drop i
theorem Md{α:Type}(f:α→α)(l:List α):nb f 0 l=l:=by simp [nb]
theorem Eb{α:Type}(f:α→α)(l:List α):nb f l.length l=l.map f:=by simp [nb]
theorem zh{α:Type}(f:α→α)(i:Nat)(l:List α)(h:i≤l.length):(nb f i l).length=l.length:=by simp [nb];omega
theorem Ec{α:Type}(f:α→α){i:Nat}{l:List α}{x:α}(h:l[i]?=some x):(nb f i l)[i]?=some x:=by
 have hi:i<l.length:=(ZB.1 h).1;rw [nb,List.getElem?_append_right (by simp;omega),List.length_map,List.length_take,List.getElem?_drop,Nat.min_eq_left (by omega),Nat.sub_self,Nat.add_zero];exact h
theorem Ed{α:Type}(f:α→α){i:Nat}{l:List α}{x:α}(h:l[i]?=some x):(nb f i l).set i (f x)=nb f (i+1) l:=by
 have hi:i<l.length:=(ZB.1 h).1;have hx:l[i]=x:=by rw [ZC hi] at h;exact Option.some.inj h
 rw [nb,nb,List.set_append_right _ _ (by simp;omega),List.length_map,List.length_take,Nat.min_eq_left (by omega),Nat.sub_self,List.drop_eq_getElem_cons hi,List.set_cons_zero,List.take_add_one,h];simp
theorem I3{sz q n i:Nat}{room:Bool}(h:i<n)(k:IntKind):Eu sz (.rslice q 0 n sz room) (.int k (i:Int))=some (.ptr q (i*sz)):=by
 simp only [Eu];simp [h]
theorem Y6(hO:w9 E){L:List aK}(hL:∀ x∈L,x.values.kn∧x.values.l.length≤1000000)(hLn:L.length≤1000000){G H0:List AObj}{q:Nat}{row6:List AV}{T T2:TypeId}(h0:G[0]?=some (.cells row6 T))(h1:row6[1]?=some (.rslice q 0 L.length 2 true))(hq0:q≠0)(hq:q<G.length)(k:List Fra) :
  ∀ (n i:Nat) (He:List AObj),i+n=L.length →
  M.go bM H0 (.c js :: .lp ⟨(some [1,2,31,32]),[],false⟩ js He :: .blk 0 :: .c (.lv [1,2])::k) (kv [(1,.ptr 0 0),(2,.ptr 1 0),(31,.int .i64 L.length),(32,.int .i64 i)]) (G.set q (.cells ((nb aK.cl i L).map aK.row).flatten T2)) =
   M.go bM H0 k (kv [(1,.ptr 0 0),(2,.ptr 1 0)]) (G.set q (.cells ((L.map aK.cl).map aK.row).flatten T2))
 |0,i,He,h=>by
  have e1:i=L.length:=by omega
  subst e1;rw [Eb];rw [ag M js.eq_1];simp (maxSteps:=3000000) (maxDischargeDepth:=6) +contextual -implicitDefEqProofs only [amC M,↓amD,Nat.reduceBEq,Nat.reduceAdd,env,ab,cU,Nat.lt_irrefl]
 |n+1,i,He,h=>by
  have hi:i<L.length:=by omega
  have hx:L[i]?=some L[i]:=ZC hi;obtain ⟨hkn,hvn⟩:=hL L[i] (ZJ hi);generalize L[i]=x at hx hkn hvn;have hws:=aZ hi (show L.length≤aQ by simp only [aQ];omega);have hg0:∀ c,(G.set q c)[0]?=some (.cells row6 T):=fun c=>by rw [ZR hq0];exact h0
  have hgq:∀ c,(G.set q c)[q]?=some c:=fun c=>ZS hq
  have hr1:=jW h1;have hug:=Ec aK.cl hx;have hld:cK none ((nb aK.cl i L).map aK.row).flatten (i*2+1)=some (.slice x.values.tag 1 (x.values.l.map bJ)):=jW (by rw [ze (row:=aK.row) (sz:=2) (fun _=>rfl) _ i 1 x hug (by decide)];rfl);have hcl:=fun H=>JU M hO hkn hvn H
  have hset:stO 1 (G.set q (.cells ((nb aK.cl i L).map aK.row).flatten T2)) q (i*2+1) [.slice .any 1 (x.values.l.map bJ)] (some (.cells ((nb aK.cl i L).map aK.row).flatten T2))=some (G.set q (.cells ((nb aK.cl (i+1) L).map aK.row).flatten T2)):=by
   have e:=yf (o:=i*2+1) (v:=.slice .any 1 (x.values.l.map bJ)) (hgq (.cells ((nb aK.cl i L).map aK.row).flatten T2)) (by rw [zg (sz:=2) (fun _=>rfl),zh _ _ _ (by omega)];omega) rfl;rw [hgq] at e;rw [e,Z9,zf (row:=aK.row) (sz:=2) (x:=x) (x':=x.cl) (fun _=>rfl) (by decide) rfl _ i hug,Ed _ hx]
  have ih:=fun He=>Y6 hO hL hLn (T2:=T2) (H0:=H0) h0 h1 hq0 hq k n (i+1) He (by omega)
  simp only [kv_cons,kv_nil] at ih ⊢;rw [ag M js.eq_1];simp (maxSteps:=3000000) (maxDischargeDepth:=6) +contextual -implicitDefEqProofs only [amC M,↓amD,Nat.reduceBEq,Nat.reduceAdd,env,ab,cU,amG,AV.cell,Nat.reduceMul,Nat.reduceLeDiff,hi,hx,hg0,hgq,hr1,I3 hi,hld,hcl,hset,ih,hws]
theorem Y7(hO:w9 E){L:List bF}(hL:∀ x∈L,x.feats.kn∧x.feats.l.length≤1000000)(hLn:L.length≤1000000){G H0:List AObj}{q:Nat}{row6:List AV}{T T2:TypeId}(h0:G[0]?=some (.cells row6 T))(h1:row6[5]?=some (.rslice q 0 L.length 3 true))(hq0:q≠0)(hq:q<G.length)(k:List Fra) :
  ∀ (n i:Nat) (He:List AObj),i+n=L.length →
  M.go bM H0 (.c jw :: .lp ⟨(some [1,2,117,118]),[],false⟩ jw He :: .blk 8 :: .c (.lv [1,2])::k) (kv [(1,.ptr 0 0),(2,.ptr 1 0),(117,.int .i64 L.length),(118,.int .i64 i)]) (G.set q (.cells ((nb bF.cl i L).map bF.row).flatten T2)) =
   M.go bM H0 k (kv [(1,.ptr 0 0),(2,.ptr 1 0)]) (G.set q (.cells ((L.map bF.cl).map bF.row).flatten T2))
 |0,i,He,h=>by
  have e1:i=L.length:=by omega
  subst e1;rw [Eb];rw [ag M jw.eq_1];simp (maxSteps:=3000000) (maxDischargeDepth:=6) +contextual -implicitDefEqProofs only [amC M,↓amD,Nat.reduceBEq,Nat.reduceAdd,env,ab,cU,Nat.lt_irrefl]
 |n+1,i,He,h=>by
  have hi:i<L.length:=by omega
  have hx:L[i]?=some L[i]:=ZC hi;obtain ⟨hkn,hvn⟩:=hL L[i] (ZJ hi);generalize L[i]=x at hx hkn hvn;have hws:=aZ hi (show L.length≤aQ by simp only [aQ];omega);have hg0:∀ c,(G.set q c)[0]?=some (.cells row6 T):=fun c=>by rw [ZR hq0];exact h0
  have hgq:∀ c,(G.set q c)[q]?=some c:=fun c=>ZS hq
  have hr1:=jW h1;have hug:=Ec bF.cl hx;have hld:cK none ((nb bF.cl i L).map bF.row).flatten (i*3+2)=some (.slice x.feats.tag 2 (x.feats.l.map aI.row)):=jW (by rw [ze (row:=bF.row) (sz:=3) (fun _=>rfl) _ i 2 x hug (by decide)];rfl);have hcl:=fun H=>xb M hO hkn hvn H
  have hset:stO 1 (G.set q (.cells ((nb bF.cl i L).map bF.row).flatten T2)) q (i*3+2) [.slice .any 2 (x.feats.l.map aI.row)] (some (.cells ((nb bF.cl i L).map bF.row).flatten T2))=some (G.set q (.cells ((nb bF.cl (i+1) L).map bF.row).flatten T2)):=by
   have e:=yf (o:=i*3+2) (v:=.slice .any 2 (x.feats.l.map aI.row)) (hgq (.cells ((nb bF.cl i L).map bF.row).flatten T2)) (by rw [zg (sz:=3) (fun _=>rfl),zh _ _ _ (by omega)];omega) rfl;rw [hgq] at e;rw [e,Z9,zf (row:=bF.row) (sz:=3) (x:=x) (x':=x.cl) (fun _=>rfl) (by decide) rfl _ i hug,Ed _ hx]
  have ih:=fun He=>Y7 hO hL hLn (T2:=T2) (H0:=H0) h0 h1 hq0 hq k n (i+1) He (by omega)
  simp only [kv_cons,kv_nil] at ih ⊢;rw [ag M jw.eq_1];simp (maxSteps:=3000000) (maxDischargeDepth:=6) +contextual -implicitDefEqProofs only [amC M,↓amD,Nat.reduceBEq,Nat.reduceAdd,env,ab,cU,amG,AV.cell,Nat.reduceMul,Nat.reduceLeDiff,hi,hx,hg0,hgq,hr1,I3 hi,hld,hcl,hset,ih,hws]
def ak.c1(x:ak):ak:=⟨x.lem,x.cls,x.feats.an,x.forms⟩
theorem Y8(hW:WdE M)(hO:w9 E){L:List ak}(hL:∀ x∈L,(x.feats.kn∧x.feats.l.length≤1000000)∧x.forms.kn∧x.forms.l.length≤1000000)(hLn:L.length≤1000000){G H0:List AObj}{q:Nat}{row6:List AV}{T T2:TypeId}(h0:G[0]?=some (.cells row6 T))(h1:row6[3]?=some (.rslice q 0 L.length 4 true))(hq0:q≠0)(hq:q<G.length)(k:List Fra) :
  ∀ (n i:Nat) (He:List AObj),i+n=L.length →
  M.go bM H0 (.c jv :: .lp ⟨(some [1,2,86,87]),[],false⟩ jv He :: .blk 6 :: .c (.lv [1,2])::k) (kv [(1,.ptr 0 0),(2,.ptr 1 0),(86,.int .i64 L.length),(87,.int .i64 i)]) (G.set q (.cells ((nb ak.cl i L).map ak.row).flatten T2)) =
   M.go bM H0 k (kv [(1,.ptr 0 0),(2,.ptr 1 0)]) (G.set q (.cells ((L.map ak.cl).map ak.row).flatten T2))
 |0,i,He,h=>by
  have e1:i=L.length:=by omega
  subst e1;rw [Eb];rw [ag M jv.eq_1];simp (maxSteps:=3000000) (maxDischargeDepth:=6) +contextual -implicitDefEqProofs only [amC M,↓amD,Nat.reduceBEq,Nat.reduceAdd,env,ab,cU,Nat.lt_irrefl]
 |n+1,i,He,h=>by
  have hi:i<L.length:=by omega
  have hx:L[i]?=some L[i]:=ZC hi;obtain ⟨⟨hkn,hvn⟩,hkn2,hvn2⟩:=hL L[i] (ZJ hi);generalize L[i]=x at hx hkn hvn hkn2 hvn2;have hws:=aZ hi (show L.length≤aQ by simp only [aQ];omega);have hg0:∀ c,(G.set q c)[0]?=some (.cells row6 T):=fun c=>by rw [ZR hq0];exact h0
  have hgq:∀ c,(G.set q c)[q]?=some c:=fun c=>ZS hq
  have hr1:=jW h1;have hug:=Ec ak.cl hx;have hld:cK none ((nb ak.cl i L).map ak.row).flatten (i*4+2)=some (.slice x.feats.tag 2 (x.feats.l.map aI.row)):=jW (by rw [ze (row:=ak.row) (sz:=4) (fun _=>rfl) _ i 2 x hug (by decide)];rfl);have hld2:cK none ((nb ak.cl i L).map ak.row).flatten (i*4+3)=some (.slice x.forms.tag 2 (x.forms.l.map bo.row)):=jW (by rw [ze (row:=ak.row) (sz:=4) (fun _=>rfl) _ i 3 x hug (by decide)];rfl)
  have hcl:=fun H=>xb M hO hkn hvn H
  have hcl2:=fun H=>GE M hO hkn2 hvn2 H
  have hset:stO 1 (G.set q (.cells ((nb ak.cl i L).map ak.row).flatten T2)) q (i*4+2) [.slice .any 2 (x.feats.l.map aI.row)] (some (.cells ((nb ak.cl i L).map ak.row).flatten T2))=some (G.set q (.cells (((nb ak.cl i L).set i x.c1).map ak.row).flatten T2)):=by
   have e:=yf (o:=i*4+2) (v:=.slice .any 2 (x.feats.l.map aI.row)) (hgq (.cells ((nb ak.cl i L).map ak.row).flatten T2)) (by rw [zg (sz:=4) (fun _=>rfl),zh _ _ _ (by omega)];omega) rfl;rw [hgq] at e;rw [e,Z9,zf (row:=ak.row) (sz:=4) (x:=x) (x':=x.c1) (fun _=>rfl) (by decide) rfl _ i hug]
  have hul:i<(nb ak.cl i L).length:=by rw [zh _ _ _ (by omega)];exact hi
  have hset2:stO 1 (G.set q (.cells (((nb ak.cl i L).set i x.c1).map ak.row).flatten T2)) q (i*4+3) [.slice .any 2 (x.forms.l.map bo.row)] (some (.cells (((nb ak.cl i L).set i x.c1).map ak.row).flatten T2))=some (G.set q (.cells ((nb ak.cl (i+1) L).map ak.row).flatten T2)):=by
   have e:=yf (o:=i*4+3) (v:=.slice .any 2 (x.forms.l.map bo.row)) (hgq (.cells (((nb ak.cl i L).set i x.c1).map ak.row).flatten T2)) (by rw [zg (sz:=4) (fun _=>rfl),List.length_set,zh _ _ _ (by omega)];omega) rfl;rw [hgq] at e;rw [e,Z9,zf (row:=ak.row) (sz:=4) (x:=x.c1) (x':=x.cl) (fun _=>rfl) (by decide) rfl _ i (ZS hul),Z9,Ed _ hx]
  have hw1:=fun H T L=>DH hW (g:=cL) (first:=[]) (cap:=[]) (args:=[.slice x.feats.tag 2 (x.feats.l.map aI.row)]) (v:=.slice .any 2 (x.feats.l.map aI.row)) hcl H T L
  have hw2:=fun H T L=>DH hW (g:=cR) (first:=[]) (cap:=[]) (args:=[.slice x.forms.tag 2 (x.forms.l.map bo.row)]) (v:=.slice .any 2 (x.forms.l.map bo.row)) hcl2 H T L
  have hap:∀ r,uu bN [q,q] [0] r=r:=fun r=>RV (by intro x h1 h2;simp at h1 h2;omega)
  have ih:=fun He=>Y8 hW hO hL hLn (T2:=T2) (H0:=H0) h0 h1 hq0 hq k n (i+1) He (by omega)
  simp only [kv_cons,kv_nil] at ih ⊢;rw [ag M jv.eq_1];simp (maxSteps:=3000000) (maxDischargeDepth:=6) +contextual -implicitDefEqProofs only [amC M,↓amD,Nat.reduceBEq,Nat.reduceAdd,env,ab,cU,amG,AV.cell,Nat.reduceMul,Nat.reduceLeDiff,hi,hx,hg0,hgq,hr1,I3 hi,hld,hld2,hcl,hcl2,wE hW,hw1,hw2,amW,hap,hset,hset2,ih,hws]
end
section
attribute [local congr] al br aJ ao aH aA aq ah aj aC aD
variable{E:aX}(M:bR bN E)
def kA(rows:List (List AV))(e:TypeId):List AObj:=
 match rows with
 |[]=>[]
 |_::_=>[.cells rows.flatten e]
theorem zi{α:Type}{s:Sl α}(row:α→List AV)(e:TypeId)(hs:s.kn):ye s row e=kA (s.l.map row) e:=by
 obtain ⟨tg,l⟩:=s;simp only [Sl.kn] at hs;rcases hs with ⟨rfl,rfl⟩ | rfl
 ·rfl
 ·cases l<;>rfl
theorem Ee{α:Type}{s:Sl α}(hs:s.kn)(H:List AObj)(n sz:Nat):Hn H .sl (fu n sz s)=some (.int .i64 s.l.length):=by
 obtain ⟨tg,l⟩:=s;simp only [Sl.kn] at hs;rcases hs with ⟨rfl,rfl⟩ | rfl
 ·rfl
 ·cases l<;>rfl
theorem xc{α:Type}(s:Sl α)(n sz:Nat):(fu n sz s).cell=true:=by
 obtain ⟨tg,l⟩:=s;cases tg<;>cases l<;>rfl
theorem I4{α:Type}(s:Sl α)(n sz:Nat):fS (fu n sz s)=some [fu n sz s]:=by
 obtain ⟨tg,l⟩:=s;cases tg<;>cases l<;>rfl
theorem wa{α:Type}(A B:List α)(x y:α):(A++(x::B)).set A.length y=A++(y::B):=by
 rw [Z2 _ _ (ZO _),Nat.sub_self,List.set_cons_zero]
theorem Me{α:Type}(A B:List α)(x:α):(A++(x::B))[A.length]?=some x:=by
 rw [ZF (ZO _),Nat.sub_self];rfl
theorem BR{α:Type}{s:Sl α}(hs:s.kn):(s.l=[]∧∀ n sz,fu n sz s = .slice (if s.tag = .nil then .nil else .full) sz [])∨∃ x l,s.l=x::l∧∀ n sz,fu n sz s = .rslice n 0 s.l.length sz true:=by
 obtain ⟨tg,l⟩:=s;simp only [Sl.kn] at hs;rcases hs with ⟨rfl,rfl⟩ | rfl
 ·exact .inl ⟨rfl,fun _ _=>rfl⟩
 ·cases l with
  |nil=>exact .inl ⟨rfl,fun _ _=>rfl⟩
  |cons x l=>exact .inr ⟨x,l,rfl,fun _ _=>rfl⟩
theorem Zp(hO:w9 E){s:Sl aK}(hs:s.kn)(hL:∀ x∈s.l,x.values.kn∧x.values.l.length≤1000000)(hLn:s.l.length≤1000000){A B H0:List AObj}{row6:List AV}{T:TypeId}(h0:A[0]?=some (.cells row6 T))(h1:row6[1]?=some (fu A.length 2 s))(k:List Fra)(He:List AObj) :
  M.go bM H0 (.c js :: .lp ⟨(some [1,2,31,32]),[],false⟩ js He :: .blk 0 :: .c (.lv [1,2])::k) (kv [(1,.ptr 0 0),(2,.ptr 1 0),(31,.int .i64 s.l.length),(32,.int .i64 0)]) (A++(kA (s.l.map aK.row) bO++B)) =
   M.go bM H0 k (kv [(1,.ptr 0 0),(2,.ptr 1 0)]) (A++(kA ((s.l.map aK.cl).map aK.row) bO++B)):=by
 have hA:0<A.length:=(ZB.1 h0).1;rcases BR hs with ⟨e, -⟩ | ⟨x,l,e,hv⟩
 ·rw [e]
  simp only [List.map_nil,kA,List.nil_append,List.length_nil];rw [ag M js.eq_1];simp (maxSteps:=3000000) (maxDischargeDepth:=6) +contextual -implicitDefEqProofs only [amC M,↓amD,Nat.reduceBEq,Nat.reduceAdd,env,ab,cU,Nat.lt_irrefl,Int.lt_irrefl,Int.ofNat_zero]
 ·rw [hv] at h1
  have h:=Y6 M hO hL hLn (G:=A++(AObj.cells (s.l.map aK.row).flatten bO::B)) (H0:=H0) (T2:=bO) (q:=A.length) (row6:=row6) (T:=T) (by rw [List.getElem?_append_left hA];exact h0) h1 (by omega) (by simp) k s.l.length 0 He (by omega);rw [wa,wa,Md] at h;have o1:kA (s.l.map aK.row) bO=[AObj.cells (s.l.map aK.row).flatten bO]:=by rw [e];rfl
  have o2:kA ((s.l.map aK.cl).map aK.row) bO=[AObj.cells ((s.l.map aK.cl).map aK.row).flatten bO]:=by rw [e];rfl
  rw [o1,o2];exact h
theorem Zq(hO:w9 E){s:Sl bF}(hs:s.kn)(hL:∀ x∈s.l,x.feats.kn∧x.feats.l.length≤1000000)(hLn:s.l.length≤1000000){A B H0:List AObj}{row6:List AV}{T:TypeId}(h0:A[0]?=some (.cells row6 T))(h1:row6[5]?=some (fu A.length 3 s))(k:List Fra)(He:List AObj) :
  M.go bM H0 (.c jw :: .lp ⟨(some [1,2,117,118]),[],false⟩ jw He :: .blk 8 :: .c (.lv [1,2])::k) (kv [(1,.ptr 0 0),(2,.ptr 1 0),(117,.int .i64 s.l.length),(118,.int .i64 0)]) (A++(kA (s.l.map bF.row) c6++B)) =
   M.go bM H0 k (kv [(1,.ptr 0 0),(2,.ptr 1 0)]) (A++(kA ((s.l.map bF.cl).map bF.row) c6++B)):=by
 have hA:0<A.length:=(ZB.1 h0).1;rcases BR hs with ⟨e, -⟩ | ⟨x,l,e,hv⟩
 ·rw [e]
  simp only [List.map_nil,kA,List.nil_append,List.length_nil];rw [ag M jw.eq_1];simp (maxSteps:=3000000) (maxDischargeDepth:=6) +contextual -implicitDefEqProofs only [amC M,↓amD,Nat.reduceBEq,Nat.reduceAdd,env,ab,cU,Nat.lt_irrefl,Int.lt_irrefl,Int.ofNat_zero]
 ·rw [hv] at h1
  have h:=Y7 M hO hL hLn (G:=A++(AObj.cells (s.l.map bF.row).flatten c6::B)) (H0:=H0) (T2:=c6) (q:=A.length) (row6:=row6) (T:=T) (by rw [List.getElem?_append_left hA];exact h0) h1 (by omega) (by simp) k s.l.length 0 He (by omega);rw [wa,wa,Md] at h;have o1:kA (s.l.map bF.row) c6=[AObj.cells (s.l.map bF.row).flatten c6]:=by rw [e];rfl
  have o2:kA ((s.l.map bF.cl).map bF.row) c6=[AObj.cells ((s.l.map bF.cl).map bF.row).flatten c6]:=by rw [e];rfl
  rw [o1,o2];exact h
theorem Zr(hW:WdE M)(hO:w9 E){s:Sl ak}(hs:s.kn)(hL:∀ x∈s.l,(x.feats.kn∧x.feats.l.length≤1000000)∧x.forms.kn∧x.forms.l.length≤1000000)(hLn:s.l.length≤1000000){A B H0:List AObj}{row6:List AV}{T:TypeId}(h0:A[0]?=some (.cells row6 T))(h1:row6[3]?=some (fu A.length 4 s))(k:List Fra)(He:List AObj) :
  M.go bM H0 (.c jv :: .lp ⟨(some [1,2,86,87]),[],false⟩ jv He :: .blk 6 :: .c (.lv [1,2])::k) (kv [(1,.ptr 0 0),(2,.ptr 1 0),(86,.int .i64 s.l.length),(87,.int .i64 0)]) (A++(kA (s.l.map ak.row) aU++B)) =
   M.go bM H0 k (kv [(1,.ptr 0 0),(2,.ptr 1 0)]) (A++(kA ((s.l.map ak.cl).map ak.row) aU++B)):=by
 have hA:0<A.length:=(ZB.1 h0).1;rcases BR hs with ⟨e, -⟩ | ⟨x,l,e,hv⟩
 ·rw [e]
  simp only [List.map_nil,kA,List.nil_append,List.length_nil];rw [ag M jv.eq_1];simp (maxSteps:=3000000) (maxDischargeDepth:=6) +contextual -implicitDefEqProofs only [amC M,↓amD,Nat.reduceBEq,Nat.reduceAdd,env,ab,cU,Nat.lt_irrefl,Int.lt_irrefl,Int.ofNat_zero]
 ·rw [hv] at h1
  have h:=Y8 M hW hO hL hLn (G:=A++(AObj.cells (s.l.map ak.row).flatten aU::B)) (H0:=H0) (T2:=aU) (q:=A.length) (row6:=row6) (T:=T) (by rw [List.getElem?_append_left hA];exact h0) h1 (by omega) (by simp) k s.l.length 0 He (by omega);rw [wa,wa,Md] at h;have o1:kA (s.l.map ak.row) aU=[AObj.cells (s.l.map ak.row).flatten aU]:=by rw [e];rfl
  have o2:kA ((s.l.map ak.cl).map ak.row) aU=[AObj.cells ((s.l.map ak.cl).map ak.row).flatten aU]:=by rw [e];rfl
  rw [o1,o2];exact h
theorem Y9(hO:w9 E){L:List aL}(hL:∀ x∈L,x.feats.kn∧x.feats.l.length≤1000000)(hLn:L.length≤1000000){G H0:List AObj}{q:Nat}{a4 a50 a51:AV}{T2:TypeId}(hq:q<G.length)(k:List Fra) :
  ∀ (n i:Nat) (He:List AObj),i+n=L.length →
  M.go bM H0 (.c jt :: .lp ⟨(some [1,2,4,5,50,51,62,63]),[],false⟩ jt He :: .blk 4 :: .c (.lv [1,2,4,5,50,51])::k) (kv [(1,.ptr 0 0),(2,.ptr 1 0),(4,a4),(5,.rslice q 0 L.length 4 true),(50,a50),(51,a51),(62,.int .i64 L.length),(63,.int .i64 i)]) (G.set q (.cells ((nb aL.cl i L).map aL.row).flatten T2)) =
   M.go bM H0 k (kv [(1,.ptr 0 0),(2,.ptr 1 0),(4,a4),(5,.rslice q 0 L.length 4 true),(50,a50),(51,a51)]) (G.set q (.cells ((L.map aL.cl).map aL.row).flatten T2))
 |0,i,He,h=>by
  have e1:i=L.length:=by omega
  subst e1;rw [Eb];rw [ag M jt.eq_1];simp (maxSteps:=3000000) (maxDischargeDepth:=6) +contextual -implicitDefEqProofs only [amC M,↓amD,Nat.reduceBEq,Nat.reduceAdd,env,ab,cU,Nat.lt_irrefl]
 |n+1,i,He,h=>by
  have hi:i<L.length:=by omega
  have hx:L[i]?=some L[i]:=ZC hi;obtain ⟨hkn,hvn⟩:=hL L[i] (ZJ hi);generalize L[i]=x at hx hkn hvn;have hws:=aZ hi (show L.length≤aQ by simp only [aQ];omega);have hgq:∀ c,(G.set q c)[q]?=some c:=fun c=>ZS hq
  have hug:=Ec aL.cl hx;have hld:cK none ((nb aL.cl i L).map aL.row).flatten (i*4+3)=some (.slice x.feats.tag 2 (x.feats.l.map aI.row)):=jW (by rw [ze (row:=aL.row) (sz:=4) (fun _=>rfl) _ i 3 x hug (by decide)];rfl);have hcl:=fun H=>xb M hO hkn hvn H
  have hset:stO 1 (G.set q (.cells ((nb aL.cl i L).map aL.row).flatten T2)) q (i*4+3) [.slice .any 2 (x.feats.l.map aI.row)] (some (.cells ((nb aL.cl i L).map aL.row).flatten T2))=some (G.set q (.cells ((nb aL.cl (i+1) L).map aL.row).flatten T2)):=by
   have e:=yf (o:=i*4+3) (v:=.slice .any 2 (x.feats.l.map aI.row)) (hgq (.cells ((nb aL.cl i L).map aL.row).flatten T2)) (by rw [zg (sz:=4) (fun _=>rfl),zh _ _ _ (by omega)];omega) rfl;rw [hgq] at e;rw [e,Z9,zf (row:=aL.row) (sz:=4) (x:=x) (x':=x.cl) (fun _=>rfl) (by decide) rfl _ i hug,Ed _ hx]
  have ih:=fun He=>Y9 hO hL hLn (T2:=T2) (H0:=H0) (a4:=a4) (a50:=a50) (a51:=a51) hq k n (i+1) He (by omega)
  simp only [kv_cons,kv_nil] at ih ⊢;rw [ag M jt.eq_1];simp (maxSteps:=3000000) (maxDischargeDepth:=6) +contextual -implicitDefEqProofs only [amC M,↓amD,Nat.reduceBEq,Nat.reduceAdd,env,ab,cU,amG,AV.cell,Nat.reduceMul,Nat.reduceLeDiff,hi,hx,hgq,I3 hi,hld,hcl,hset,ih,hws]
theorem Zs(hO:w9 E){s:Sl aL}(hs:s.kn)(hL:∀ x∈s.l,x.feats.kn∧x.feats.l.length≤1000000)(hLn:s.l.length≤1000000){A H0:List AObj}{a4 a50 a51:AV}{c:AV}(hc:c=fu A.length 4 s)(k:List Fra)(He:List AObj) :
  M.go bM H0 (.c jt :: .lp ⟨(some [1,2,4,5,50,51,62,63]),[],false⟩ jt He :: .blk 4 :: .c (.lv [1,2,4,5,50,51])::k) (kv [(1,.ptr 0 0),(2,.ptr 1 0),(4,a4),(5,c),(50,a50),(51,a51),(62,.int .i64 s.l.length),(63,.int .i64 0)]) (A++kA (s.l.map aL.row) aS) =
   M.go bM H0 k (kv [(1,.ptr 0 0),(2,.ptr 1 0),(4,a4),(5,c),(50,a50),(51,a51)]) (A++kA ((s.l.map aL.cl).map aL.row) aS):=by
 rcases BR hs with ⟨e, -⟩ | ⟨x,l,e,hv⟩
 ·rw [e]
  simp only [List.map_nil,kA,List.nil_append,List.length_nil];rw [ag M jt.eq_1];simp (maxSteps:=3000000) (maxDischargeDepth:=6) +contextual -implicitDefEqProofs only [amC M,↓amD,Nat.reduceBEq,Nat.reduceAdd,env,ab,cU,Nat.lt_irrefl,Int.lt_irrefl,Int.ofNat_zero]
 ·rw [hv] at hc
  subst hc;have h:=Y9 M hO hL hLn (G:=A++(AObj.cells (s.l.map aL.row).flatten aS::[])) (H0:=H0) (T2:=aS) (q:=A.length) (a4:=a4) (a50:=a50) (a51:=a51) (by simp) k s.l.length 0 He (by omega);rw [wa,wa,Md] at h;have o1:kA (s.l.map aL.row) aS=[AObj.cells (s.l.map aL.row).flatten aS]:=by rw [e];rfl
  have o2:kA ((s.l.map aL.cl).map aL.row) aS=[AObj.cells ((s.l.map aL.cl).map aL.row).flatten aS]:=by rw [e];rfl
  rw [o1,o2];exact h
def owR(n:Nat):List aG→List (List AV)
 |[]=>[]
 |c::l=>[.str c.name,fu n 4 c.slots]::owR (n+(kA (c.slots.l.map aL.row) aS).length) l
def owO:List aG→List AObj
 |[]=>[]
 |c::l=>kA ((c.slots.l.map aL.cl).map aL.row) aS++owO l
theorem QH:∀ (l:List aG) (n:Nat),(owR n l).length=l.length
 |[],_=>rfl
 |c::l,n=>by rw [owR,ZP,ZP,QH l]
theorem wh:∀ (D:List (List AV)),(∀ r∈D,r.length=2)→D.flatten.length=D.length*2
 |[],_=>rfl
 |r::D,h=>by
  rw [List.flatten_cons,List.length_append,h r (by simp),wh D (fun r hr=>h r (by simp [hr])),List.length_cons,Nat.add_mul];omega
theorem xd{α β:Type}(f:α→β)(r1:α→List AV)(r2:β→List AV)(e:TypeId)(l:List α):(kA ((l.map f).map r2) e).length=(kA (l.map r1) e).length:=by cases l<;>rfl
theorem Za(hO:w9 E){m:Nat}(hm:m≤1000000){A H0:List AObj}{row6:List AV}{T T2:TypeId}(h0:A[0]?=some (.cells row6 T))(h1:row6[2]?=some (.rslice A.length 0 m 2 true))(k:List Fra) :
  ∀ (L:List aG) (hL:∀ c∈L,c.slots.kn∧c.slots.l.length≤1000000∧∀ x∈c.slots.l,x.feats.kn∧x.feats.l.length≤1000000) (D:List (List AV)) (hD:∀ r∈D,r.length=2) (hDm:D.length+L.length=m) (O He:List AObj),
  M.go bM H0 (.c ju :: .lp ⟨(some [1,2,50,51]),[],false⟩ ju He :: .blk 2 :: .c (.lv [1,2])::k) (kv [(1,.ptr 0 0),(2,.ptr 1 0),(50,.int .i64 m),(51,.int .i64 D.length)]) (A++(.cells (D.flatten++(L.map aG.row).flatten) T2::O)) =
   M.go bM H0 k (kv [(1,.ptr 0 0),(2,.ptr 1 0)]) (A++(.cells (D.flatten++(owR (A.length+1+O.length) L).flatten) T2::(O++owO L)))
 |[],hL,D,hD,hDm,O,He=>by
  have e1:D.length=m:=by simpa using hDm
  subst e1;simp only [owR,owO,List.map_nil,List.append_nil];rw [ag M ju.eq_1];simp (maxSteps:=3000000) (maxDischargeDepth:=6) +contextual -implicitDefEqProofs only [amC M,↓amD,Nat.reduceBEq,Nat.reduceAdd,env,ab,cU,Nat.lt_irrefl]
 |c::L,hL,D,hD,hDm,O,He=>by
  have hi:D.length<m:=by simp at hDm;omega
  have hA:0<A.length:=(ZB.1 h0).1;obtain ⟨hk,hn,hf⟩:=hL c (by simp);have hws:=aZ hi (show m≤aQ by simp only [aQ];omega);have h0':∀ B,(A++B)[0]?=some (.cells row6 T):=fun B=>by rw [ZE hA];exact h0
  have hr1:=jW h1
  have hl2:cK none (D.flatten++((c::L).map aG.row).flatten) (D.length*2+1)=some (.slice c.slots.tag 4 (c.slots.l.map aL.row)):=jW (by
   rw [ZF (by rw [wh D hD];omega),wh D hD,Z5];rfl)
  have hcl:=IZ M hO hk hn (A++(AObj.cells (D.flatten++((c::L).map aG.row).flatten) T2::O));rw [zi _ _ hk,show (A++(AObj.cells (D.flatten++((c::L).map aG.row).flatten) T2::O)).length=A.length+1+O.length by simp;omega] at hcl;have hin:=fun k He=>Zs M hO hk hf hn (A:=A++(AObj.cells (D.flatten++((c::L).map aG.row).flatten) T2::O)) (H0:=H0) (a4:=.int .i64 D.length) (a50:=.int .i64 m) (a51:=.int .i64 D.length) (c:=fu (A.length+1+O.length) 4 c.slots) (by congr 1;simp;omega) k He
  have hlen:=fun H=>Ee hk H (A.length+1+O.length) 4
  have hcell:=xc c.slots (A.length+1+O.length) 4;have hac:=I4 c.slots (A.length+1+O.length) 4
  have hset:∀ B,stO 1 (A++(AObj.cells (D.flatten++((c::L).map aG.row).flatten) T2::B)) A.length (D.length*2+1) [fu (A.length+1+O.length) 4 c.slots] (A++(AObj.cells (D.flatten++((c::L).map aG.row).flatten) T2::B))[A.length]? =
    some (A++(AObj.cells ((D++[[.str c.name,fu (A.length+1+O.length) 4 c.slots]]).flatten++(L.map aG.row).flatten) T2::B)):=fun B=>by
   rw [yf (Me _ _ _) (by rw [ZH,wh D hD,ZQ,Z1,ZH,show (aG.row c).length=2 from rfl];omega) hcell,wa];congr 3;rw [Z2 _ _ (by rw [wh D hD];omega),wh D hD,Z5,List.flatten_append,ZI];rfl
  have hgm:=fun B=>Me A B (AObj.cells (D.flatten++((c::L).map aG.row).flatten) T2)
  simp only [hgm] at hset
  have ih:=fun He=>Za hO hm (T2:=T2) (H0:=H0) h0 h1 k L (fun c hc=>hL c (by simp [hc])) (D++[[.str c.name,fu (A.length+1+O.length) 4 c.slots]]) (fun r hr=>by
   rcases ZX.1 hr with h | h
   ·exact hD r h
   ·simp at h;subst h;rfl) (by simp at hDm ⊢;omega) (O++kA ((c.slots.l.map aL.cl).map aL.row) aS) He
  rw [show (D++[[AV.str c.name,fu (A.length+1+O.length) 4 c.slots]]).length=D.length+1 by simp] at ih
  have eR:owR (A.length+1+O.length) (c::L)=[.str c.name,fu (A.length+1+O.length) 4 c.slots]::owR (A.length+1+(O++kA ((c.slots.l.map aL.cl).map aL.row) aS).length) L:=by
   rw [owR,ZH,xd (r1:=aL.row)];rw [Nat.add_assoc (A.length+1)]
  have eF:∀ R:List (List AV),D.flatten++([AV.str c.name,fu (A.length+1+O.length) 4 c.slots]::R).flatten=(D++[[AV.str c.name,fu (A.length+1+O.length) 4 c.slots]]).flatten++R.flatten:=fun R=>by
   rw [List.flatten_append,ZI,Z1,Z1,List.flatten_nil,Z6]
  rw [eR,owO,eF];clear eR eF hL hDm hD;generalize (D++[[AV.str c.name,fu (A.length+1+O.length) 4 c.slots]]).flatten++(owR (A.length+1+(O++kA ((c.slots.l.map aL.cl).map aL.row) aS).length) L).flatten=Z at *
  generalize (D++[[AV.str c.name,fu (A.length+1+O.length) 4 c.slots]]).flatten++(L.map aG.row).flatten=Y at *
  generalize D.flatten++((c::L).map aG.row).flatten=X at *
  generalize fu (A.length+1+O.length) 4 c.slots=cv at *
  generalize kA ((c.slots.l.map aL.cl).map aL.row) aS=o2 at *
  generalize kA (c.slots.l.map aL.row) aS=o1 at *
  simp only [kv_cons,kv_nil,Int.ofNat_zero,List.append_assoc,List.cons_append,List.nil_append] at ih hin hset hcl ⊢;rw [ag M ju.eq_1];simp (maxSteps:=3000000) (maxDischargeDepth:=6) +contextual -implicitDefEqProofs only [amC M,↓amD,Nat.reduceBEq,Nat.reduceAdd,env,ab,cU,amG,AV.cell,Nat.reduceMul,Nat.reduceLeDiff,hi,h0',hgm,hr1,I3 hi,hl2,hcl,hlen,hin,hset,ih,hws,hcell,hac]
end
section
attribute [local congr] al br aJ ao aH aA aq ah aj aC aD
variable{E:aX}(M:bR bN E)
theorem Zt(hO:w9 E){s:Sl aG}(hs:s.kn)(hL:∀ c∈s.l,c.slots.kn∧c.slots.l.length≤1000000∧∀ x∈c.slots.l,x.feats.kn∧x.feats.l.length≤1000000)(hLn:s.l.length≤1000000){A B H0:List AObj}{row6:List AV}{T:TypeId}(h0:A[0]?=some (.cells row6 T))(h1:row6[2]?=some (fu A.length 2 s))(k:List Fra)(He:List AObj) :
  M.go bM H0 (.c ju :: .lp ⟨(some [1,2,50,51]),[],false⟩ ju He :: .blk 2 :: .c (.lv [1,2])::k) (kv [(1,.ptr 0 0),(2,.ptr 1 0),(50,.int .i64 s.l.length),(51,.int .i64 0)]) (A++(kA (s.l.map aG.row) aR++B)) =
   M.go bM H0 k (kv [(1,.ptr 0 0),(2,.ptr 1 0)]) (A++(kA (owR (A.length+(kA (s.l.map aG.row) aR).length+B.length) s.l) aR++(B++owO s.l))):=by
 rcases BR hs with ⟨e, -⟩ | ⟨x,l,e,hv⟩
 ·rw [e]
  simp only [List.map_nil,kA,owR,owO,List.append_nil,List.nil_append,List.length_nil];rw [ag M ju.eq_1];simp (maxSteps:=3000000) (maxDischargeDepth:=6) +contextual -implicitDefEqProofs only [amC M,↓amD,Nat.reduceBEq,Nat.reduceAdd,env,ab,cU,Nat.lt_irrefl,Int.lt_irrefl,Int.ofNat_zero]
 ·rw [hv] at h1
  have h:=Za M hO hLn (H0:=H0) (T2:=aR) h0 h1 k s.l hL [] (fun r h=>by simp at h) (by simp) B He;simp only [List.flatten_nil,List.nil_append,List.length_nil,Int.ofNat_zero] at h;have o1:kA (s.l.map aG.row) aR=[AObj.cells (s.l.map aG.row).flatten aR]:=by rw [e];rfl
  have o2:∀ n,kA (owR n s.l) aR=[AObj.cells (owR n s.l).flatten aR]:=fun n=>by rw [e];rfl
  rw [o1,o2];exact h
structure Lex.kn (l:Lex):Prop where
 traits:l.traits.kn∧l.traits.l.length≤1000000∧∀ x∈l.traits.l,x.values.kn∧x.values.l.length≤1000000
 classes:l.classes.kn∧l.classes.l.length≤1000000∧∀ c∈l.classes.l,c.slots.kn∧c.slots.l.length≤1000000∧∀ x∈c.slots.l,x.feats.kn∧x.feats.l.length≤1000000
 entries:l.entries.kn∧l.entries.l.length≤1000000∧∀ x∈l.entries.l,(x.feats.kn∧x.feats.l.length≤1000000)∧x.forms.kn∧x.forms.l.length≤1000000
 spells:l.spells.kn∧l.spells.l.length≤1000000
 links:l.links.kn∧l.links.l.length≤1000000∧∀ x∈l.links.l,x.feats.kn∧x.feats.l.length≤1000000
def R6(v:Str)(t c e s k:AV):List AV:=[.str v,t,c,e,s,k]
theorem XY(l:Lex):l.row=R6 l.vowels (.slice l.traits.tag 2 (l.traits.l.map aK.row)) (.slice l.classes.tag 2 (l.classes.l.map aG.row)) (.slice l.entries.tag 4 (l.entries.l.map ak.row)) (.slice l.spells.tag 4 (l.spells.l.map aV.row)) (.slice l.links.tag 3 (l.links.l.map bF.row)):=rfl
theorem N5{v:Str}{t c e s k x:AV}{T:TypeId}{X:List AObj}{j:Nat}(hj:j<6)(hx:x.cell=true):stO 1 (.cells (R6 v t c e s k) T::X) 0 j [x] (some (.cells (R6 v t c e s k) T))=some (.cells ((R6 v t c e s k).set j x) T::X):=by
 have h:=yf (H:=.cells (R6 v t c e s k) T::X) (q:=0) (o:=j) (v:=x) (cs:=R6 v t c e s k) (T:=T) rfl hj hx;exact h
theorem XZ:(∀ (v:Str) (t c e s k:AV),cK none (R6 v t c e s k) 1=some t∧cK none (R6 v t c e s k) 2=some c∧cK none (R6 v t c e s k) 3=some e∧cK none (R6 v t c e s k) 4=some s∧cK none (R6 v t c e s k) 5=some k∧cK (some 6) (R6 v t c e s k) 0=some (.agg (R6 v t c e s k))) ∧
 (∀ (v:Str) (t c e s k x:AV),(R6 v t c e s k).set 1 x=R6 v x c e s k∧(R6 v t c e s k).set 2 x=R6 v t x e s k∧(R6 v t c e s k).set 3 x=R6 v t c x s k∧(R6 v t c e s k).set 4 x=R6 v t c e x k∧(R6 v t c e s k).set 5 x=R6 v t c e s x) ∧
 (∀ (v:Str) (t c e s k:AV) (T:TypeId) (X:List AObj),(AObj.cells (R6 v t c e s k) T::X)[0]?=some (AObj.cells (R6 v t c e s k) T)):=⟨fun _ _ _ _ _ _=>⟨rfl,rfl,rfl,rfl,rfl,rfl⟩,fun _ _ _ _ _ _ _=>⟨rfl,rfl,rfl,rfl,rfl⟩,fun _ _ _ _ _ _ _ _=>rfl⟩
theorem Ef{g:FuncId}{first cap args:List AV}{v:AV}{H H':List AObj}(h:H'.take H.length=H)(T L:List Nat) :
  Bi bN E .keep (.fn (.func g) first cap) args H T L (some (.ret v,H'))=some (v,H',T,L):=by
 have:uF bN E .keep g (first++args++cap) H v H'=true:=by
  unfold uF;simp only [Ey h];rfl
 unfold Bi;simp only [this,if_true]
abbrev oT(l:Lex):=kA (l.traits.l.map aK.row) bO
abbrev oC(l:Lex):=kA (l.classes.l.map aG.row) aR
abbrev oE(l:Lex):=kA (l.entries.l.map ak.row) aU
abbrev oL(l:Lex):=kA (l.links.l.map bF.row) c6
abbrev oT2(l:Lex):=kA ((l.traits.l.map aK.cl).map aK.row) bO
abbrev oC2(l:Lex):=kA (owR ((oT l).length+1+1+(oC l).length+((oE l).length+(oL l).length)) l.classes.l) aR
abbrev oE2(l:Lex):=kA ((l.entries.l.map ak.cl).map ak.row) aU
abbrev oL2(l:Lex):=kA ((l.links.l.map bF.cl).map bF.row) c6
def sN(l:Lex):List AV:=R6 l.vowels (fu 2 2 l.traits) (fu ((oT l).length+1+1) 2 l.classes) (fu ((oT l).length+(oC l).length+1+1) 4 l.entries) (.slice .any 4 (l.spells.l.map aV.row)) (fu ((oT l).length+((oC l).length+(oE l).length)+1+1) 3 l.links)
def I5(l:Lex):List AObj:=.cells (sN l) ae :: .cells (sN l) ae::(oT2 l++(oC2 l++(oE2 l++(oL2 l++owO l.classes.l))))
theorem QI(l:Lex)(n:Nat):(kA (owR n l.classes.l) aR).length=(oC l).length:=by
 rw [oC];cases l.classes.l<;>rfl
theorem X0(v:Str)(t c e s k:AV)(T2:TypeId)(X:List AObj)(y:AObj)(old:List AV)(ho:old.length=6)(hc:(R6 v t c e s k).all AV.cell=true) :
  stO 6 (y :: .cells old T2::X) 1 0 (R6 v t c e s k) (some (.cells old T2))=some (y :: .cells (R6 v t c e s k) T2::X):=by
 match old,ho with
 |[a1,a2,a3,a4,a5,a6],_=>exact stO_cells (sz:=6) (H:=y :: .cells _ T2::X) (id:=1) (off:=0) rfl (by simp) hc
theorem N6(hW:WdE M)(hO:w9 E){l:Lex}(hk:l.kn) :
  M.run fp [.agg l.row] []=some (.ret (.agg (sN l)),I5 l):=by
 rw [aN M hO.morph_owned rfl (c:=xS) rfl,xS];obtain ⟨kt,nt,ht⟩:=hk.traits;obtain ⟨kc,nc,hc⟩:=hk.classes;obtain ⟨ke,ne,he⟩:=hk.entries;obtain ⟨ks,ns⟩:=hk.spells;obtain ⟨kl,nl,hl⟩:=hk.links;have c1:=fun H=>GG M hO kt nt H
 have c2:=fun H=>GH M hO kc nc H
 have c3:=fun H=>GI M hO ke ne H
 have c4:=fun H=>GF M hO ks ns H
 have c5:=fun H=>I0 M hO kl nl H
 rw [zi _ _ kt] at c1;rw [zi _ _ kc] at c2;rw [zi _ _ ke] at c3;rw [zi _ _ kl] at c5;have k1:=fun (x y:AObj) g first cap args v=>Ef (E:=E) (g:=g) (first:=first) (cap:=cap) (args:=args) (v:=v) (H:=[x,y]) (H':=x::y::oT l) rfl
 have k2:=fun (x y:AObj) g first cap args v=>Ef (E:=E) (g:=g) (first:=first) (cap:=cap) (args:=args) (v:=v) (H:=x::y::oT l) (H':=x::y::(oT l++oC l)) (by simp)
 have k3:=fun (x y:AObj) g first cap args v=>Ef (E:=E) (g:=g) (first:=first) (cap:=cap) (args:=args) (v:=v) (H:=x::y::(oT l++oC l)) (H':=x::y::(oT l++(oC l++oE l))) (by simp [← List.append_assoc])
 have k4:=fun (x y:AObj) g first cap args v=>Ef (E:=E) (g:=g) (first:=first) (cap:=cap) (args:=args) (v:=v) (H:=x::y::(oT l++(oC l++oE l))) (H':=x::y::(oT l++(oC l++oE l))) (by rw [List.take_of_length_le (ZO _)])
 have k5:=fun (x y:AObj) g first cap args v=>Ef (E:=E) (g:=g) (first:=first) (cap:=cap) (args:=args) (v:=v) (H:=x::y::(oT l++(oC l++oE l))) (H':=x::y::(oT l++(oC l++(oE l++oL l)))) (by simp [← List.append_assoc])
 have h6:∀ j,j=1∨j=2∨j=3∨j=4∨j=5→j<6:=fun j h=>by omega
 have s1:=fun n v t c e s k T X=>N5 (v:=v) (t:=t) (c:=c) (e:=e) (s:=s) (k:=k) (x:=fu n 2 l.traits) (T:=T) (X:=X) (j:=1) (by decide) (xc l.traits n 2)
 have s2:=fun n v t c e s k T X=>N5 (v:=v) (t:=t) (c:=c) (e:=e) (s:=s) (k:=k) (x:=fu n 2 l.classes) (T:=T) (X:=X) (j:=2) (by decide) (xc l.classes n 2)
 have s3:=fun n v t c e s k T X=>N5 (v:=v) (t:=t) (c:=c) (e:=e) (s:=s) (k:=k) (x:=fu n 4 l.entries) (T:=T) (X:=X) (j:=3) (by decide) (xc l.entries n 4)
 have s4:=fun v t c e s k T X=>N5 (v:=v) (t:=t) (c:=c) (e:=e) (s:=s) (k:=k) (x:=.slice .any 4 (l.spells.l.map aV.row)) (T:=T) (X:=X) (j:=4) (by decide) rfl
 have s5:=fun n v t c e s k T X=>N5 (v:=v) (t:=t) (c:=c) (e:=e) (s:=s) (k:=k) (x:=fu n 3 l.links) (T:=T) (X:=X) (j:=5) (by decide) (xc l.links n 3)
 rw [XY];simp only [XZ] at s1 s2 s3 s4 s5;simp (maxSteps:=3000000) (maxDischargeDepth:=6) +contextual -implicitDefEqProofs only [amC M,↓amD,Nat.reduceBEq,Nat.reduceAdd,env,ab,cU,amG,AV.cell,Nat.reduceMul,Nat.reduceLeDiff,c1,c2,c3,c4,c5,k1,k2,k3,k4,k5,s1,s2,s3,s4,s5,XZ,xc,I4];rw [show R6 l.vowels (fu 2 2 l.traits) (fu ((oT l).length+1+1) 2 l.classes) (fu ((oT l).length+(oC l).length+1+1) 4 l.entries) (.slice .any 4 (l.spells.l.map aV.row)) (fu ((oT l).length+((oC l).length+(oE l).length)+1+1) 3 l.links)=sN l from rfl]
 clear c1 c2 c3 c4 c5 k1 k2 k3 k4 k5 s1 s2 s3 s4 s5;have w0:=fun (R:List AV) (y:AObj) hR k He=>Zp M hO kt ht nt (A:=[.cells R ae,y]) (B:=oC l++(oE l++oL l)) (H0:=[]) (row6:=R) (T:=ae) rfl hR k He
 have w2:=fun (R:List AV) (y:AObj) hR k He=>Zt M hO kc hc nc (A:=.cells R ae::y::oT2 l) (B:=oE l++oL l) (H0:=[]) (row6:=R) (T:=ae) rfl hR k He
 have w3:=fun (R:List AV) (y:AObj) hR k He=>Zr M hW hO ke he ne (A:=.cells R ae::y::(oT2 l++oC2 l)) (B:=oL l++owO l.classes.l) (H0:=[]) (row6:=R) (T:=ae) rfl hR k He
 have w4:=fun (R:List AV) (y:AObj) hR k He=>Zq M hO kl hl nl (A:=.cells R ae::y::(oT2 l++(oC2 l++oE2 l))) (B:=owO l.classes.l) (H0:=[]) (row6:=R) (T:=ae) rfl hR k He
 have eT:(oT2 l).length=(oT l).length:=xd _ _ _ _ _;have eE:(oE2 l).length=(oE l).length:=xd _ _ _ _ _;have eC:(oC2 l).length=(oC l).length:=QI l _;have w0:=fun y k He=>w0 (sN l) y rfl k He
 have w2:=fun y k He=>w2 (sN l) y (by rw [ZP,ZP,eT];rfl) k He
 have w3:=fun y k He=>w3 (sN l) y (by rw [ZP,ZP,ZH,eT,eC];rfl) k He
 have w4:=fun y k He=>w4 (sN l) y (by rw [ZP,ZP,ZH,ZH,eT,eC,eE];rfl) k He
 have l0:=fun H=>Ee kt H 2 2
 have l2:=fun H n=>Ee kc H n 2
 have l3:=fun H n=>Ee ke H n 4
 have l4:=fun H n=>Ee kl H n 3
 simp only [List.length_cons,List.length_append,eT] at w2;simp only [kv_cons,kv_nil,Int.ofNat_zero,List.append_assoc,List.cons_append,List.nil_append] at w0 w2 w3 w4;have hr:=XZ.1 l.vowels (fu 2 2 l.traits) (fu ((oT l).length+1+1) 2 l.classes) (fu ((oT l).length+(oC l).length+1+1) 4 l.entries) (.slice .any 4 (l.spells.l.map aV.row)) (fu ((oT l).length+((oC l).length+(oE l).length)+1+1) 3 l.links)
 have ha:(sN l).all AV.cell=true:=by
  unfold sN R6;simp only [List.all_cons,List.all_nil,xc,Bool.and_true];rfl
 have hfin:=fun X y (old:List AV) ho=>X0 l.vowels (fu 2 2 l.traits) (fu ((oT l).length+1+1) 2 l.classes) (fu ((oT l).length+(oC l).length+1+1) 4 l.entries) (.slice .any 4 (l.spells.l.map aV.row)) (fu ((oT l).length+((oC l).length+(oE l).length)+1+1) 3 l.links) ae X y old ho ha
 have hfin:=fun X y=>hfin X y [.str [],.slice .nil 2 [],.slice .nil 2 [],.slice .nil 4 [],.slice .nil 4 [],.slice .nil 3 []] rfl
 have hld:=hr.2.2.2.2.2;rw [← sN] at hr hfin hld;obtain ⟨r1,r2,r3,r4,r5,r6⟩:=hr;have hg0:∀ X:List AObj,(AObj.cells (sN l) ae::X)[0]?=some (AObj.cells (sN l) ae):=fun _=>rfl
 have hg1:∀ (X:List AObj) (x y:AObj),(x::y::X)[1]?=some y:=fun _ _ _=>rfl
 have hgr:r9 (some 6) (I5 l) (.ptr 1 0)=some (.agg (sN l)):=hld;have hag:fS (.agg (sN l))=some (sN l):=rfl;have htk:rJ 6 (sN l)=some (sN l):=rfl;have hlen6:(sN l).length=6:=rfl;simp (maxSteps:=3000000) (maxDischargeDepth:=6) +contextual -implicitDefEqProofs only [amC M,↓amD,Nat.reduceBEq,Nat.reduceAdd,env,ab,cU,amG,AV.cell,Nat.reduceMul,Nat.reduceLeDiff,w0,w2,w3,w4,l0,l2,l3,l4,r1,r2,r3,r5,r6,hfin,hg0,hg1,hag,htk]
 rfl
end
section
attribute [local congr] al br aJ ao aH aA aq ah aj aC aD
variable{E:aX}(M:bR bN E)
theorem zj{α β γ:Type}{f:β→Option γ}{g:α→β}{g2:α→γ}:∀ (l:List α),(∀ x∈l,f (g x)=some (g2 x))→sR f (l.map g)=some (l.map g2)
 |[],_=>rfl
 |x::l,h=>by rw [List.map_cons,sR,h x (by simp),zj l fun y hy=>h y (by simp [hy])];rfl
theorem Fu(k n:Nat)(H:List AObj)(s:Str):fzD (k+1) n H (.str s)=some (.str s):=rfl
theorem X1(k n:Nat)(H:List AObj)(i:IntKind)(m:Int):fzD (k+1) n H (.int i m)=some (.int i m):=rfl
theorem Mf{α:Type}{row:α→List AV}{k n sz:Nat}{H:List AObj}(l:List α)(h:∀ x∈l,sR (fzD k n H) (row x)=some (row x)):fzD (k+1) n H (.slice .any sz (l.map row))=some (.slice .any sz (l.map row)):=by
 simp only [fzD,zj l h];rfl
theorem FW{sz:Nat}:∀ (R:List (List AV)),(∀ r∈R,r.length=sz)→lr sz R.length R.flatten=R
 |[],_=>rfl
 |r::R,h=>by
  have hr:=h r (by simp);rw [List.length_cons,lr,List.flatten_cons,List.take_left' hr,List.drop_left' hr,FW R fun x hx=>h x (by simp [hx])]
theorem KN{sz:Nat}:∀ (R:List (List AV)),(∀ r∈R,r.length=sz)→R.flatten.length=R.length*sz
 |[],_=>by simp
 |r::R,h=>by rw [List.flatten_cons,List.length_append,h r (by simp),KN R fun x hx=>h x (by simp [hx]),List.length_cons,Nat.add_mul];omega
theorem I6{α:Type}{s:Sl α}(hs:s.kn){R R':List (List AV)}{k sz:Nat}{e:TypeId}{A B:List AObj}(hl:R.length=s.l.length)(hR:∀ r∈R,r.length=sz)(hf:sR (sR (fzD k 0 (A++(kA R e++B)))) R=some R'){q:Nat}(hq:A.length=q) :
  fzD (k+1) 0 (A++(kA R e++B)) (fu q sz s)=some (.slice s.tag.cl sz R'):=by
 subst hq;obtain ⟨tg,l⟩:=s;simp only [Sl.kn] at hs hl ⊢;have hnil:R=[]→R'=[]:=fun h=>by subst h;cases hf;rfl
 rcases hs with ⟨rfl,rfl⟩ | rfl
 ·have:R=[]:=by simpa using hl
  rw [hnil this];rfl
 ·cases l with
  |nil=>
   have:R=[]:=by simpa using hl
   rw [hnil this];rfl
  |cons x l=>
   obtain ⟨r,R2,rfl⟩:∃ r R2,R=r::R2:=by cases R with
    |nil=>simp at hl
    |cons r R2=>exact ⟨r,R2,rfl⟩
   have hg:(A++(kA (r::R2) e++B))[A.length]?=some (.cells (r::R2).flatten e):=Me _ _ _;have hlt:Nat.blt A.length 0=false:=rfl
   have hle:Nat.ble (0+(x::l).length*sz) (r::R2).flatten.length=true:=by
    rw [KN _ hR,hl,Z4];exact Nat.ble_eq_true_of_le (ZO _)
   simp only [fu,fzD,hlt,cond_false,hg,hle,cond_true,List.drop_zero];rw [← hl,FW _ hR,hf];rfl
theorem Mg{α:Type}{f:α→α}{row:α→List AV}(l:List α):(l.map f).map row=l.map (fun x=>row (f x)):=List.map_map ..
theorem I7(k n:Nat)(H:List AObj)(l:List aI):fzD (k+2) n H (.slice .any 2 (l.map aI.row))=some (.slice .any 2 (l.map aI.row)):=Mf l fun _ _=>rfl
theorem V9(k n:Nat)(H:List AObj)(l:List Str):fzD (k+2) n H (.slice .any 1 (l.map bJ))=some (.slice .any 1 (l.map bJ)):=Mf l fun _ _=>rfl
theorem X2(k n:Nat)(H:List AObj)(l:List bo):fzD (k+2) n H (.slice .any 2 (l.map bo.row))=some (.slice .any 2 (l.map bo.row)):=Mf l fun _ _=>rfl
theorem X3(k n:Nat)(H:List AObj)(l:List aV):fzD (k+2) n H (.slice .any 4 (l.map aV.row))=some (.slice .any 4 (l.map aV.row)):=Mf l fun _ _=>rfl
theorem Um(k n:Nat)(H:List AObj)(x:aK):sR (fzD (k+2) n H) x.cl.row=some x.cl.row:=by
 simp only [aK.row,aK.cl,Sl.an,sR,V9,Fu]
theorem Wb(k n:Nat)(H:List AObj)(x:aL):sR (fzD (k+2) n H) x.cl.row=some x.cl.row:=by
 simp only [aL.row,aL.cl,Sl.an,sR,I7,Fu,X1]
theorem Un(k n:Nat)(H:List AObj)(x:ak):sR (fzD (k+2) n H) x.cl.row=some x.cl.row:=by
 simp only [ak.row,ak.cl,Sl.an,sR,I7,X2,Fu]
theorem Wc(k n:Nat)(H:List AObj)(x:bF):sR (fzD (k+2) n H) x.cl.row=some x.cl.row:=by
 simp only [bF.row,bF.cl,Sl.an,sR,I7,Fu]
theorem Uo(k:Nat):∀ (L:List aG) (A B:List AObj),(∀ c∈L,c.slots.kn)→∀ n,A.length=n→sR (sR (fzD (k+4) 0 (A++(owO L++B)))) (owR n L)=some ((L.map aG.cl).map aG.row)
 |[],_,_,_,_,_=>rfl
 |c::L,A,B,h,n,hn=>by
  rw [owR,owO,ZI]
  have h1:fzD (k+3+1) 0 (A++(kA ((c.slots.l.map aL.cl).map aL.row) aS++(owO L++B))) (fu n 4 c.slots)=some (.slice c.slots.tag.cl 4 ((c.slots.l.map aL.cl).map aL.row)):=
   I6 (h c (by simp)) (by simp) (fun r hr=>by
    obtain ⟨x,_,rfl⟩:=ZW.1 hr;rfl) (by
    rw [Mg];exact zj _ fun x _=>Wb (k+1) 0 _ x) hn
  have h2:=Uo k L (A++kA ((c.slots.l.map aL.cl).map aL.row) aS) B (fun c hc=>h c (by simp [hc])) (n+(kA (c.slots.l.map aL.row) aS).length) (by rw [List.length_append,hn,xd (r1:=aL.row)]);rw [ZI] at h2;simp only [sR,h1,h2,Fu];rfl
theorem X4{l:Lex}(hk:l.kn):fzV 0 (I5 l) (.agg (sN l))=some (.agg l.cl.row):=by
 have eT:(oT2 l).length=(oT l).length:=xd _ _ _ _ _;have eE:(oE2 l).length=(oE l).length:=xd _ _ _ _ _;have eL:(oL2 l).length=(oL l).length:=xd _ _ _ _ _;have eC:(oC2 l).length=(oC l).length:=QI l _
 have f1:fzD (10+1) 0 (I5 l) (fu 2 2 l.traits)=some (.slice l.traits.tag.cl 2 ((l.traits.l.map aK.cl).map aK.row)):=
  I6 (A:=[_,_]) hk.traits.1 (by simp) (fun r hr=>by
   obtain ⟨x,_,rfl⟩:=ZW.1 hr;rfl) (by
   rw [Mg];exact zj _ fun x _=>Um 8 0 _ x) rfl
 have f2:fzD (10+1) 0 (I5 l) (fu ((oT l).length+1+1) 2 l.classes)=some (.slice l.classes.tag.cl 2 ((l.classes.l.map aG.cl).map aG.row)):=by
  have:=I6 (A:=.cells (sN l) ae :: .cells (sN l) ae::oT2 l) (B:=oE2 l++(oL2 l++owO l.classes.l)) (R:=owR ((oT l).length+1+1+(oC l).length+((oE l).length+(oL l).length)) l.classes.l) (e:=aR) (k:=10) (sz:=2) hk.classes.1 (QH _ _) (fun r hr=>by
   have:∀ (L:List aG) n,∀ r∈owR n L,r.length=2:=by
    intro L;induction L with
    |nil=>intro n r h;cases h
    |cons c L ih=>
     intro n r h;rw [owR] at h;rcases ZY.1 h with rfl | h
     ·rfl
     ·exact ih _ r h
   exact this _ _ r hr) (R':=(l.classes.l.map aG.cl).map aG.row) (by
   have:=Uo 6 l.classes.l (.cells (sN l) ae :: .cells (sN l) ae::(oT2 l++(oC2 l++(oE2 l++oL2 l)))) [] (fun c hc=>(hk.classes.2.2 c hc).1) ((oT l).length+1+1+(oC l).length+((oE l).length+(oL l).length)) (by
    simp only [List.length_cons,List.length_append,eT,eC,eE,eL];omega)
   simp only [List.append_assoc,List.cons_append,List.append_nil] at this ⊢;exact this) (q:=(oT l).length+1+1) (by simp only [List.length_cons,eT])
  simp only [List.cons_append] at this;exact this
 have f3:fzD (10+1) 0 (I5 l) (fu ((oT l).length+(oC l).length+1+1) 4 l.entries)=some (.slice l.entries.tag.cl 4 ((l.entries.l.map ak.cl).map ak.row)):=by
  have:=I6 (A:=.cells (sN l) ae :: .cells (sN l) ae::(oT2 l++oC2 l)) (B:=oL2 l++owO l.classes.l) (R:=(l.entries.l.map ak.cl).map ak.row) (R':=(l.entries.l.map ak.cl).map ak.row) (e:=aU) (k:=10) (sz:=4) hk.entries.1 (by simp) (fun r hr=>by
   obtain ⟨x,_,rfl⟩:=ZW.1 hr;rfl) (by
   rw [Mg];exact zj _ fun x _=>Un 8 0 _ x) (q:=(oT l).length+(oC l).length+1+1) (by simp only [List.length_cons,List.length_append,eT,eC])
  simp only [List.cons_append,List.append_assoc] at this;exact this
 have f5:fzD (10+1) 0 (I5 l) (fu ((oT l).length+((oC l).length+(oE l).length)+1+1) 3 l.links)=some (.slice l.links.tag.cl 3 ((l.links.l.map bF.cl).map bF.row)):=by
  have:=I6 (A:=.cells (sN l) ae :: .cells (sN l) ae::(oT2 l++(oC2 l++oE2 l))) (B:=owO l.classes.l) (R:=(l.links.l.map bF.cl).map bF.row) (R':=(l.links.l.map bF.cl).map bF.row) (e:=c6) (k:=10) (sz:=3) hk.links.1 (by simp) (fun r hr=>by
   obtain ⟨x,_,rfl⟩:=ZW.1 hr;rfl) (by
   rw [Mg];exact zj _ fun x _=>Wc 8 0 _ x) (q:=(oT l).length+((oC l).length+(oE l).length)+1+1) (by simp only [List.length_cons,List.length_append,eT,eC,eE])
  simp only [List.cons_append,List.append_assoc] at this;exact this
 have f4:=X3 9 0 (I5 l) l.spells.l;have f0:=Fu 10 0 (I5 l) l.vowels
 show (match sR (fzD 11 0 (I5 l)) (sN l) with
       |some cs=>some (AV.agg cs)
       |none=>none)=_
 have:sR (fzD 11 0 (I5 l)) (sN l)=some l.cl.row:=by
  unfold sN R6;simp only [sR,f0,f1,f2,f3,f4,f5];rfl
 rw [this]
end
section
attribute [local congr] al br aJ ao aH aA aq ah aj aC aD
variable{E:aX}(M:bR bN E)
theorem QJ{α:Type}{row:α→List AV}(h:∀ x y,row x=row y→x=y):∀ (l m:List α),l.map row=m.map row→l=m
 |[],[],_=>rfl
 |[],_::_,e=>by simp at e
 |_::_,[],e=>by simp at e
 |x::l,y::m,e=>by
  simp only [List.map_cons,List.cons.injEq] at e;rw [h x y e.1,QJ h l m e.2]
theorem xf{α:Type}{row:α→List AV}(h:∀ x y,row x=row y→x=y){s t:Sl α}{n:Nat}(e:AV.slice s.tag n (s.l.map row) = .slice t.tag n (t.l.map row)):s=t:=by
 injection e with e1 e2 e3;have:=QJ h _ _ e3;cases s;cases t;simp_all
theorem Wd(x y:Str)(e:bJ x=bJ y):x=y:=by simpa [bJ] using e
theorem I8(x y:aI)(e:x.row=y.row):x=y:=by
 cases x;cases y;simp_all [aI.row]
theorem We(x y:bo)(e:x.row=y.row):x=y:=by
 cases x;cases y;simp_all [bo.row]
theorem R7(x y:aV)(e:x.row=y.row):x=y:=by
 cases x;cases y;simp_all [aV.row]
theorem R8(x y:aK)(e:x.row=y.row):x=y:=by
 simp only [aK.row,List.cons.injEq,AV.str.injEq,and_true] at e;have h:=xf Wd e.2;cases x;cases y;simp_all
theorem Up(x y:aL)(e:x.row=y.row):x=y:=by
 simp only [aL.row,List.cons.injEq,AV.str.injEq,AV.int.injEq,true_and,and_true] at e;have h:=xf I8 e.2.2.2;cases x;cases y;simp_all
theorem R9(x y:aG)(e:x.row=y.row):x=y:=by
 simp only [aG.row,List.cons.injEq,AV.str.injEq,and_true] at e;have h:=xf Up e.2;cases x;cases y;simp_all
theorem Sa(x y:ak)(e:x.row=y.row):x=y:=by
 simp only [ak.row,List.cons.injEq,AV.str.injEq,and_true] at e;have h:=xf I8 e.2.2.1;have h2:=xf We e.2.2.2;cases x;cases y;simp_all
theorem Uq(x y:bF)(e:x.row=y.row):x=y:=by
 simp only [bF.row,List.cons.injEq,AV.str.injEq,and_true] at e;have h:=xf I8 e.2.2;cases x;cases y;simp_all
theorem Wf(x y:Lex)(e:x.row=y.row):x=y:=by
 simp only [Lex.row,List.cons.injEq,AV.str.injEq,and_true] at e;obtain ⟨e0,e1,e2,e3,e4,e5⟩:=e;have h1:=xf R8 e1;have h2:=xf R9 e2;have h3:=xf Sa e3;have h4:=xf R7 e4;have h5:=xf Uq e5;cases x;cases y;simp_all
theorem N7{α:Type}{row:α→List AV}{n:Nat}:∀ (l:List α),(∀ x∈l,wkbL n (row x)=true)→wkbR n (l.map row)=true
 |[],_=>rfl
 |x::l,h=>by
  rw [List.map_cons,wkbR,h x (by simp),N7 l fun y hy=>h y (by simp [hy])];rfl
theorem An{α:Type}{row:α→List AV}{n sz:Nat}{s:Sl α}(hs:s.kn)(h:∀ x∈s.l,wkbL n (row x)=true):wkb n (.slice s.tag sz (s.l.map row))=true:=by
 have hr:=N7 s.l h;obtain ⟨tg,l⟩:=s;simp only [Sl.kn] at hs;rcases hs with ⟨rfl,rfl⟩ | rfl<;>exact hr
theorem Wg{l:Lex}(hk:l.kn)(n:Nat):wkb n (.agg l.row)=true:=by
 have ft:∀ {s:Sl aI},s.kn→wkb n (.slice s.tag 2 (s.l.map aI.row))=true:=fun h=>An h fun _ _=>rfl
 have h1:wkb n (.slice l.traits.tag 2 (l.traits.l.map aK.row))=true:=An hk.traits.1 fun x hx=>by
  have:=An (row:=bJ) (n:=n) (sz:=1) (hk.traits.2.2 x hx).1 fun _ _=>rfl
  simp only [aK.row,wkbL,wkb,this,Bool.and_true]
 have h2:wkb n (.slice l.classes.tag 2 (l.classes.l.map aG.row))=true:=An hk.classes.1 fun c hc=>by
  have:=An (row:=aL.row) (n:=n) (sz:=4) (hk.classes.2.2 c hc).1 fun x hx=>by
   have:=ft ((hk.classes.2.2 c hc).2.2 x hx).1;simp only [aL.row,wkbL,wkb,this,Bool.and_true]
  simp only [aG.row,wkbL,wkb,this,Bool.and_true]
 have h3:wkb n (.slice l.entries.tag 4 (l.entries.l.map ak.row))=true:=An hk.entries.1 fun x hx=>by
  have a:=ft (hk.entries.2.2 x hx).1.1;have b:=An (row:=bo.row) (n:=n) (sz:=2) (hk.entries.2.2 x hx).2.1 fun _ _=>rfl
  simp only [ak.row,wkbL,wkb,a,b,Bool.and_true]
 have h4:wkb n (.slice l.spells.tag 4 (l.spells.l.map aV.row))=true:=An hk.spells.1 fun _ _=>rfl
 have h5:wkb n (.slice l.links.tag 3 (l.links.l.map bF.row))=true:=An hk.links.1 fun x hx=>by
  have:=ft (hk.links.2.2 x hx).1;simp only [bF.row,wkbL,wkb,this,Bool.and_true]
 simp only [Lex.row,wkb,wkbL,h1,h2,h3,h4,h5,Bool.and_true]
theorem N8(hE:E.Ok)(hW:WdE M)(hO:w9 E)(hG:∀ n g cs,E.G g=some cs→wkbL n cs=true){l:Lex}(hk:l.kn)(H2:List AObj) :
  dC E.P E.G fp [.agg l.row] H2 fun r H'=>r = .ret (.agg l.cl.row)∧H'=H2:=
 dC.frame (He:=[]) (M.sound hE (N6 M hW hO hk)) (by simp) hG (fun a ha=>by
  simp only [List.mem_singleton] at ha;subst ha;exact Wg hk _) (fun x hx=>by simp at hx) (X4 hk) H2 (by simp) (fun i x hx=>by simp at hx) (fun t fr T ht=>by simp at ht)
open Classical in
noncomputable def Ur(args:List AV)(H:List AObj):Option Out:=
 if h:∃ l:Lex,args=[.agg l.row]∧l.kn then some (.ret (.agg (Classical.choose h).cl.row),H) else none
theorem Wh{l:Lex}(hk:l.kn)(H:List AObj):Ur [.agg l.row] H=some (.ret (.agg l.cl.row),H):=by
 have h:∃ l2:Lex,[AV.agg l.row]=[.agg l2.row]∧l2.kn:=⟨l,rfl,hk⟩
 unfold Ur;rw [dif_pos h];have e:=(Classical.choose_spec h).1;injection e with e _;injection e with e;rw [← Wf _ _ e]
theorem Wi(hE:E.Ok)(hW:WdE M)(hO:w9 E)(hG:∀ n g cs,E.G g=some cs→wkbL n cs=true){args:List AV}{H H':List AObj}{r:s8}(h:Ur args H=some (r,H')) :
  dC E.P E.G fp args H fun r2 H2=>r2=r∧H2=H':=by
 unfold Ur at h;split at h
 ·rename_i hx
  obtain ⟨e,hk⟩:=Classical.choose_spec hx;cases h;have:=N8 M hE hW hO hG hk H;rw [← e] at this;exact this
 ·cases h
theorem N9:∀ (n:Nat) (l:List Nat),l.Nodup→(∀ x∈l,x<n)→l.length≤n
 |0,l,_,h=>by
  cases l with
  |nil=>simp
  |cons x l=>exact absurd (h x (by simp)) (by omega)
 |n+1,l,hd,h=>by
  have h1:=N9 n (l.erase n) (hd.erase n) fun x hx=>by
   have h2:=(List.Nodup.mem_erase_iff hd).1 hx;have:=h x h2.2;have:=h2.1;omega
  by_cases hm:n∈l
  ·have:=List.length_erase_of_mem hm
   omega
  ·rw [List.erase_of_not_mem hm] at h1
   omega
def aK.kt(x:aK):Prop:=x.values.kn
def aL.kt(x:aL):Prop:=x.feats.kn
def aG.kt(x:aG):Prop:=x.slots.kn∧∀ s∈x.slots.l,s.kt
def ak.kt(x:ak):Prop:=x.feats.kn∧x.forms.kn
def bF.kt(x:bF):Prop:=x.feats.kn
structure Lex.kt (l:Lex):Prop where
 traits:l.traits.kn∧∀ x∈l.traits.l,x.kt
 classes:l.classes.kn∧∀ x∈l.classes.l,x.kt
 entries:l.entries.kn∧∀ x∈l.entries.l,x.kt
 spells:l.spells.kn
 links:l.links.kn∧∀ x∈l.links.l,x.kt
theorem Sb{n:Nat}{l:List bo}(h:sJ (CG n l) 0 l=0):l.length≤n:=by
 have hz:=fun k x hx=>by
  have:=pw h k x hx;rw [Z4] at this;exact this
 have hf:∀ (k:Nat) (x:bo),l[k]?=some x→0≤x.slot∧x.slot<n∧((l.take k).any fun o=>o.slot == x.slot)=false:=fun k x hx=>by
  have h1:=hz k x hx;unfold CG at h1;obtain ⟨a1,h1⟩:=c8 (by decide) h1;obtain ⟨a2,_⟩:=c8 (by decide) h1;simp only [Bool.or_eq_false_iff,decide_eq_false_iff_not] at a1;exact ⟨by omega,by omega,a2⟩
 have:=N9 n (l.map fun x=>x.slot.toNat) (by
  rw [List.nodup_iff_pairwise_ne,List.pairwise_map,List.pairwise_iff_getElem];intro i j hi hj hij e;obtain ⟨b1,b2,b3⟩:=hf j l[j] (ZC hj);obtain ⟨c1,c2,c3⟩:=hf i l[i] (ZC hi);rw [List.any_eq_false] at b3
  have hm:l[i]∈l.take j:=by
   rw [List.mem_take_iff_getElem];exact ⟨i,by omega,rfl⟩
  have:=b3 _ hm;simp at this;omega) (fun x hx=>by
  obtain ⟨y,hy,rfl⟩:=ZW.1 hx;obtain ⟨k,hk⟩:=ZV hy;have:=hf k y hk;omega)
 simpa using this
theorem Zb{l:Lex}(ht:l.kt)(hk:c7 l=0):l.kn:=by
 have h1:sL l=0:=pw hk 1 (sL l) rfl;obtain ⟨h2,h3,h4,h5⟩:=uC hk;obtain ⟨n1,f1⟩:=jr h1;obtain ⟨n2,f2⟩:=jr h2;obtain ⟨n3,f3⟩:=jr h3;obtain ⟨n4,f4⟩:=jr h4;obtain ⟨n5,f5⟩:=jr h5;refine ⟨⟨ht.traits.1,by omega,fun x hx=>⟨ht.traits.2 x hx, ?_⟩⟩,⟨ht.classes.1,by omega,fun c hc=>⟨(ht.classes.2 c hc).1, ?_,fun s hs=>⟨(ht.classes.2 c hc).2 s hs, ?_⟩⟩⟩,⟨ht.entries.1,by omega,fun x hx => ?_⟩,⟨ht.spells,by omega⟩,⟨ht.links.1,by omega,fun x hx=>⟨ht.links.2 x hx, ?_⟩⟩⟩
 ·obtain ⟨k,hk2⟩:=ZV hx
  have h:=f1 k x hk2;unfold BF at h;have:=(c8 (by decide) (c8 (by decide) (c8 (by decide) h).2).2).1;simp only [decide_eq_false_iff_not] at this;omega
 ·obtain ⟨k,hk2⟩:=ZV hc
  have h:=f2 k c hk2;unfold w5 at h;have:=(c8 (by decide) (c8 (by decide) (c8 (by decide) h).2).2).1;simp only [decide_eq_false_iff_not] at this;omega
 ·have:=(TW (L5 hk hc hs)).feats.1
  omega
 ·obtain ⟨k,hk2⟩:=ZV hx
  obtain ⟨c,hc⟩:=Fp hk hk2;have a1:=hc.short.1;have a2:=Sb hc.forms;have a3:=za hk hc;exact ⟨⟨(ht.entries.2 x hx).1,by omega⟩,(ht.entries.2 x hx).2,by omega⟩
 ·obtain ⟨k,hk2⟩:=ZV hx
  have h:=f5 k x hk2;unfold BG at h;split at h
  ·exact absurd h (by decide)
  ·have:=(bundle_ok (c8 (by decide) h).2).1
   omega
end
section
attribute [local congr] al br aJ ao aH aA aq ah aj aC aD
variable{E:aX}(M:bR bN E)
def tZ(w:Str):List (Str×Nat)→List (Str×Nat)
 |[]=>[(w,1)]
 |x::l=>if Op.bytesLess x.1 w=true then x::tZ w l else if (x.1 == w)=true then (w,x.2+1)::l else (w,1)::x::l
def kW(w:Str):List (Str×Nat)→Nat
 |[]=>0
 |x::l=>if Op.bytesLess x.1 w=true then kW w l+1 else 0
def Mh(l:List (Str×Nat)):Prop:=l.Pairwise fun x y=>Op.bytesLess x.1 y.1=true
theorem W8(w:Str):∀ l,kW w l≤l.length
 |[]=>ZO _
 |x::l=>by
  have:=W8 w l;rw [kW];split<;>simp<;>omega
theorem Mi(w:Str):∀ l:List (Str×Nat),tZ w l=match l[kW w l]? with
  |some x=>if (x.1 == w)=true then l.set (kW w l) (w,x.2+1) else l.take (kW w l)++(w,1)::l.drop (kW w l)
  |none=>l.take (kW w l)++(w,1)::l.drop (kW w l)
 |[]=>rfl
 |x::l=>by
  rw [tZ,kW]
  by_cases h:Op.bytesLess x.1 w=true
  ·rw [if_pos h,if_pos h,Mi w l,Z3]
   cases l[kW w l]? with
   |none=>rfl
   |some y=>
    simp only;split<;>rfl
  ·rw [if_neg h,if_neg h]
   rfl
theorem I9{w v:Str}{n:Nat}:∀ {l:List (Str×Nat)},Mh l→((v,n)∈tZ w l↔(v≠w∧(v,n)∈l)∨(v=w∧((∃ m,(w,m)∈l∧n=m+1)∨((∀ m,(w,m) ∉ l)∧n=1))))
 |[],_=>by
  simp [tZ]
 |x::l,hs=>by
  obtain ⟨hx,hl⟩:=List.pairwise_cons.1 hs;have ih:=I9 (w:=w) (v:=v) (n:=n) hl;obtain ⟨y,m⟩:=x;rw [tZ]
  by_cases h:Op.bytesLess y w=true
  ·have hne:y≠w:=fun e=>by rw [e,ya] at h;cases h
   rw [if_pos h,ZY,ih];simp only [List.mem_cons,Prod.mk.injEq];constructor
   ·rintro (⟨rfl,rfl⟩ | h1 | ⟨rfl,h1 | h1⟩)
    ·exact .inl ⟨hne,.inl ⟨rfl,rfl⟩⟩
    ·exact .inl ⟨h1.1,.inr h1.2⟩
    ·obtain ⟨k,h2,h3⟩:=h1
     exact .inr ⟨rfl,.inl ⟨k,.inr h2,h3⟩⟩
    ·refine .inr ⟨rfl,.inr ⟨fun k hk => ?_,h1.2⟩⟩
     rcases hk with ⟨e,_⟩ | hk
     ·exact hne e.symm
     ·exact h1.1 k hk
   ·rintro (⟨h1,⟨rfl,rfl⟩ | h2⟩ | ⟨rfl,⟨k,⟨e,_⟩ | h2,h3⟩ | ⟨h1,h2⟩⟩)
    ·exact .inl ⟨rfl,rfl⟩
    ·exact .inr (.inl ⟨h1,h2⟩)
    ·exact absurd e.symm hne
    ·exact .inr (.inr ⟨rfl,.inl ⟨k,h2,h3⟩⟩)
    ·exact .inr (.inr ⟨rfl,.inr ⟨fun k hk=>h1 k (.inr hk),h2⟩⟩)
  ·rw [if_neg h]
   by_cases he:(y == w)=true
   ·have:=eq_of_beq he
    subst this;rw [if_pos he]
    have hno:∀ k,(y,k) ∉ l:=fun k hk=>by
     have:=hx _ hk;rw [ya] at this;cases this
    simp only [List.mem_cons,Prod.mk.injEq];constructor
    ·rintro (⟨rfl,rfl⟩ | h1)
     ·exact .inr ⟨rfl,.inl ⟨m,.inl ⟨trivial,rfl⟩,rfl⟩⟩
     ·exact .inl ⟨fun e=>by subst e;exact hno n h1,.inr h1⟩
    ·rintro (⟨h1,⟨rfl,rfl⟩ | h2⟩ | ⟨rfl,⟨k,⟨_,rfl⟩ | h2,h3⟩ | ⟨h1,h2⟩⟩)
     ·exact absurd rfl h1
     ·exact .inr h2
     ·exact .inl ⟨rfl,h3⟩
     ·exact absurd h2 (hno k)
     ·exact absurd (.inl ⟨trivial,rfl⟩) (h1 m)
   ·rw [if_neg he]
    have hw:Op.bytesLess w y=true:=by
     cases hb:Op.bytesLess w y with
     |true=>rfl
     |false=>exact absurd (beq_iff_eq.2 (IF (by simpa using h) hb)) he
    have hno:∀ k,(w,k) ∉ (y,m)::l:=fun k hk=>by
     rcases ZY.1 hk with e | hk
     ·cases e;simp at he
     ·have:=ve hw (hx _ hk)
      rw [ya] at this;cases this
    rw [ZY];simp only [Prod.mk.injEq];constructor
    ·rintro (⟨rfl,rfl⟩ | h1)
     ·exact .inr ⟨rfl,.inr ⟨hno,rfl⟩⟩
     ·exact .inl ⟨fun e=>by subst e;exact hno n h1,h1⟩
    ·rintro (⟨h1,h2⟩ | ⟨rfl,⟨k,h2,h3⟩ | ⟨h1,h2⟩⟩)
     ·exact .inr h2
     ·exact absurd h2 (hno k)
     ·exact .inl ⟨rfl,h2⟩
theorem Oa{w:Str}:∀ {l:List (Str×Nat)},Mh l→Mh (tZ w l)
 |[],_=>List.pairwise_singleton ..
 |x::l,hs=>by
  obtain ⟨hx,hl⟩:=List.pairwise_cons.1 hs;rw [tZ]
  by_cases h:Op.bytesLess x.1 w=true
  ·rw [if_pos h]
   refine List.pairwise_cons.2 ⟨fun y hy => ?_,Oa hl⟩;obtain ⟨v,n⟩:=y;rcases (I9 hl).1 hy with ⟨_,h2⟩ | ⟨rfl,_⟩
   ·exact hx _ h2
   ·exact h
  ·rw [if_neg h]
   by_cases he:(x.1 == w)=true
   ·rw [if_pos he]
    refine List.pairwise_cons.2 ⟨fun y hy => ?_,hl⟩;have:=hx y hy;rwa [eq_of_beq he] at this
   ·rw [if_neg he]
    have hw:Op.bytesLess w x.1=true:=by
     cases hb:Op.bytesLess w x.1 with
     |true=>rfl
     |false=>exact absurd (beq_iff_eq.2 (IF (by simpa using h) hb)) he
    refine List.pairwise_cons.2 ⟨fun y hy => ?_,hs⟩;rcases ZY.1 hy with rfl | hy
    ·exact hw
    ·exact ve hw (hx y hy)
def FX(l:List (Str×Nat))(c:Str→Nat):Prop:=Mh l∧∀ v n,(v,n)∈l↔n=c v∧0<c v
def Ja(c:Str→Nat)(w:Str):Str→Nat:=fun v=>if v=w then c v+1 else c v
theorem Wj{l:List (Str×Nat)}{c:Str→Nat}(h:FX l c)(w:Str):FX (tZ w l) (Ja c w):=⟨Oa h.1,fun v n=>by
 rw [I9 h.1];simp only [h.2,Ja]
 by_cases e:v=w
 ·subst e
  simp only [ne_eq,not_true_eq_false,false_and,true_and,false_or,if_true];constructor
  ·rintro (⟨m,⟨rfl,h2⟩,rfl⟩ | ⟨h1,rfl⟩)
   ·exact ⟨rfl,by omega⟩
   ·have:c v=0:=by
     rcases Nat.eq_zero_or_pos (c v) with h0 | h0
     ·exact h0
     ·exact absurd ⟨rfl,h0⟩ (h1 (c v))
    omega
  ·rintro ⟨rfl,_⟩
   rcases Nat.eq_zero_or_pos (c v) with h0 | h0
   ·exact .inr ⟨fun m ⟨_,h2⟩=>by omega,by omega⟩
   ·exact .inl ⟨c v,⟨rfl,h0⟩,rfl⟩
 ·simp [e]⟩
theorem QK:∀ {l m:List (Str×Nat)},Mh l→Mh m→(∀ x,x∈l↔x∈m)→l=m
 |[],[],_,_,_=>rfl
 |[],y::m,_,_,h=>absurd ((h y).2 (List.mem_cons_self ..)) (by simp)
 |x::l,[],_,_,h=>absurd ((h x).1 (List.mem_cons_self ..)) (by simp)
 |x::l,y::m,hl,hm,h=>by
  obtain ⟨hx,hl2⟩:=List.pairwise_cons.1 hl;obtain ⟨hy,hm2⟩:=List.pairwise_cons.1 hm
  have e:x=y:=by
   rcases ZY.1 ((h x).1 (List.mem_cons_self ..)) with e | h1
   ·exact e
   ·rcases ZY.1 ((h y).2 (List.mem_cons_self ..)) with e | h2
    ·exact e.symm
    ·have:=ve (hx y h2) (hy x h1)
     rw [ya] at this;cases this
  subst e;rw [QK hl2 hm2 fun z => ?_];have hn:∀ z,z∈l→z≠x:=fun z hz e=>by subst e;have:=hx _ hz;rw [ya] at this;cases this
  have hn2:∀ z,z∈m→z≠x:=fun z hz e=>by subst e;have:=hy _ hz;rw [ya] at this;cases this
  constructor
  ·intro hz
   rcases ZY.1 ((h z).1 (List.mem_cons_of_mem _ hz)) with e | h1
   ·exact absurd e (hn z hz)
   ·exact h1
  ·intro hz
   rcases ZY.1 ((h z).2 (List.mem_cons_of_mem _ hz)) with e | h1
   ·exact absurd e (hn2 z hz)
   ·exact h1
theorem Sc{l m:List (Str×Nat)}{c:Str→Nat}(h:FX l c)(h2:FX m c):l=m:=QK h.1 h2.1 fun x=>by
 obtain ⟨v,n⟩:=x;rw [h.2,h2.2]
def chU(j:Nat):UInt8:=UInt8.ofNat (97+j)
theorem Us{c:UInt8}(h:eW c=true):∃ j,j<26∧chU j=c:=by
 simp only [eW,Bool.and_eq_true,decide_eq_true_eq] at h;refine ⟨c.toNat-97,by omega, ?_⟩;unfold chU;rw [show 97+(c.toNat-97)=c.toNat by omega];simp
theorem B7{j:Nat}(hj:j<26):(chU j).toNat=97+j:=by
 unfold chU;simp;omega
theorem Wm{i j:Nat}(hi:i<26)(hj:j<26)(h:chU i=chU j):i=j:=by
 have:=congrArg UInt8.toNat h;rw [B7 hi,B7 hj] at this;omega
structure Ut (nd:Str→Option Nat) (cnt:Str→Nat):Prop where
 pre:∀ p c q,nd (p++[c])=some q→eW c=true∧∃ q',nd p=some q'
 zero:∀ p,nd p=none→cnt p=0
 dep:∀ p q,nd p=some q→p.length≤24
 inj:∀ p p' q,nd p=some q→nd p'=some q→p=p'
theorem Uu{nd:Str→Option Nat}{cnt:Str→Nat}(h:Ut nd cnt):∀ (n:Nat) (p s:Str) (q:Nat),s.length=n→nd (p++s)=some q→∃ q',nd p=some q'
 |0,p,s,q,hs,hq=>by
  cases s with
  |nil=>rw [Z6] at hq;exact ⟨q,hq⟩
  |cons c s=>simp at hs
 |n+1,p,s,q,hs,hq=>by
  obtain ⟨s',c,rfl⟩:∃ s' c,s=s'++[c]:=by
   rcases List.eq_nil_or_concat s with rfl | ⟨s',c,e⟩
   ·simp at hs
   ·exact ⟨s',c,by simpa using e⟩
  rw [← ZI] at hq;obtain ⟨_,q',hq'⟩:=h.pre _ _ _ hq;exact Uu h n p s' q' (by simpa using hs) hq'
def Jb{α:Type}(g:Nat→List α):Nat→List α
 |0=>[]
 |n+1=>g (25-n)++Jb g n
theorem B8{α:Type}{g:Nat→List α}{x:α}:∀ n,n≤26→(x∈Jb g n↔∃ k,26-n≤k∧k<26∧x∈g k)
 |0,_=>by
  constructor
  ·intro h;cases h
  ·rintro ⟨k,h1,h2,_⟩;omega
 |n+1,hn=>by
  rw [Jb,ZX,B8 n (by omega)];constructor
  ·rintro (h | ⟨k,h1,h2,h3⟩)
   ·exact ⟨25-n,by omega,by omega,h⟩
   ·exact ⟨k,by omega,h2,h3⟩
  ·rintro ⟨k,h1,h2,h3⟩
   by_cases e:k=25-n
   ·subst e;exact .inl h3
   ·exact .inr ⟨k,by omega,h2,h3⟩
def CI(nd:Str→Option Nat)(cnt:Str→Nat):Nat→Str→List (Str×Nat)
 |0,_=>[]
 |d+1,p=>(if 0<cnt p then [(p,cnt p)] else [])++Jb (fun k=>match nd (p++[chU k]) with
  |some _=>CI nd cnt d (p++[chU k])
  |none=>[]) 26
theorem B9{nd:Str→Option Nat}{cnt:Str→Nat}(h:Ut nd cnt):∀ (d:Nat) (p:Str) (q:Nat),nd p=some q→24<d+p.length→∀ v n,((v,n)∈CI nd cnt d p↔∃ s,v=p++s∧n=cnt v∧0<cnt v)
 |0,p,q,hq,hd,v,n=>by
  have:=h.dep p q hq;omega
 |d+1,p,q,hq,hd,v,n=>by
  rw [CI,ZX,B8 26 (by omega)];constructor
  ·rintro (h1 | ⟨k,_,hk,h1⟩)
   ·split at h1
    ·simp only [List.mem_singleton,Prod.mk.injEq] at h1
     obtain ⟨rfl,rfl⟩:=h1;exact ⟨[],by simp,rfl,by assumption⟩
    ·cases h1
   ·split at h1
    ·rename_i q2 hq2
     obtain ⟨s,e1,e2,e3⟩:=(B9 h d _ q2 hq2 (by simp;omega) v n).1 h1;exact ⟨chU k::s,by rw [e1];simp,e2,e3⟩
    ·cases h1
  ·rintro ⟨s,rfl,rfl,h1⟩
   cases s with
   |nil=>
    rw [Z6] at h1 ⊢;rw [if_pos h1];exact .inl (by simp)
   |cons c s=>
    refine .inr ?_
    obtain ⟨q3,hq3⟩:∃ q3,nd (p++c::s)=some q3:=by
     cases hn:nd (p++c::s) with
     |some q3=>exact ⟨q3,rfl⟩
     |none=>rw [h.zero _ hn] at h1;omega
    have e:p++c::s=(p++[c])++s:=by simp
    rw [e] at hq3;obtain ⟨q2,hq2⟩:=Uu h s.length (p++[c]) s q3 rfl hq3;obtain ⟨hlo,_⟩:=h.pre p c q2 hq2;obtain ⟨k,hk,rfl⟩:=Us hlo;refine ⟨k,by omega,hk, ?_⟩;rw [hq2];exact (B9 h d _ q2 hq2 (by simp;omega) _ _).2 ⟨s,e,rfl,h1⟩
theorem X5(p:Str)(c:UInt8)(s:Str):Op.bytesLess p (p++c::s)=true:=by
 induction p with
 |nil=>rfl
 |cons a p ih=>simp only [List.cons_append,Op.bytesLess,ih,beq_self_eq_true,Bool.and_true,Bool.or_true]
theorem X6(p:Str){c d:UInt8}(s t:Str)(h:c<d):Op.bytesLess (p++c::s) (p++d::t)=true:=by
 induction p with
 |nil=>simp [Op.bytesLess,h]
 |cons a p ih=>simp only [List.cons_append,Op.bytesLess,ih,beq_self_eq_true,Bool.and_true,Bool.or_true]
theorem KP{g:Nat→List (Str×Nat)}(h1:∀ k,k<26→Mh (g k))(h2:∀ i j x y,i<j→j<26→x∈g i→y∈g j→Op.bytesLess x.1 y.1=true):∀ n,n≤26→Mh (Jb g n)
 |0,_=>List.Pairwise.nil
 |n+1,hn=>by
  refine List.pairwise_append.2 ⟨h1 _ (by omega),KP h1 h2 n (by omega),fun x hx y hy => ?_⟩;obtain ⟨k,k1,k2,hk⟩:=(B8 n (by omega)).1 hy;exact h2 (25-n) k x y (by omega) k2 hx hk
theorem KQ{nd:Str→Option Nat}{cnt:Str→Nat}(h:Ut nd cnt):∀ (d:Nat) (p:Str) (q:Nat),nd p=some q→24<d+p.length→Mh (CI nd cnt d p)
 |0,p,q,_,_=>List.Pairwise.nil
 |d+1,p,q,hq,hd=>by
  rw [CI]
  have hin:∀ k x,x∈(match nd (p++[chU k]) with
    |some _=>CI nd cnt d (p++[chU k])
    |none=>[])→∃ s,x.1=p++chU k::s:=fun k x hx=>by
   split at hx
   ·rename_i q2 hq2
    obtain ⟨s,e1,_⟩:=(B9 h d _ q2 hq2 (by simp;omega) x.1 x.2).1 hx;exact ⟨s,by rw [e1];simp⟩
   ·cases hx
  refine List.pairwise_append.2 ⟨?_,KP (fun k hk => ?_) (fun i j x y hij hj hx hy => ?_) 26 (by omega),fun x hx y hy => ?_⟩
  ·split
   ·exact List.pairwise_singleton ..
   ·exact List.Pairwise.nil
  ·split
   ·rename_i q2 hq2
    exact KQ h d _ q2 hq2 (by simp;omega)
   ·exact List.Pairwise.nil
  ·obtain ⟨s,e1⟩:=hin i x hx
   obtain ⟨t,e2⟩:=hin j y hy;rw [e1,e2];exact X6 p s t (by rw [UInt8.lt_iff_toNat_lt,B7 (by omega),B7 hj];omega)
  ·obtain ⟨k,_,_,hk⟩:=(B8 26 (by omega)).1 hy
   obtain ⟨s,e1⟩:=hin k y hk;split at hx
   ·simp only [List.mem_singleton] at hx
    subst hx;rw [e1];exact X5 ..
   ·cases hx
theorem Sd{nd:Str→Option Nat}{cnt:Str→Nat}(h:Ut nd cnt){r d:Nat}(hr:nd []=some r)(hd:24<d):FX (CI nd cnt d []) cnt:=
 ⟨KQ h d [] r hr (by simpa using hd),fun v n=>by
  rw [B9 h d [] r hr (by simpa using hd) v n];constructor
  ·rintro ⟨s,_,h2⟩;exact h2
  ·intro h2;exact ⟨v,by simp,h2⟩⟩
end
section
attribute [local congr] al br aJ ao aH aA aq ah aj aC aD
variable{E:aX}(M:bR bN E)
def pV(o:Option Nat):AV:=match o with
 |some q=>.ptr q 0
 |none=>.nilp
structure Db (b:Nat) (G:List AObj) (nd:Str→Option Nat) (cnt:Str→Nat):Prop where
 leaf:∀ p q,nd p=some q→b≤q∧∃ cs,G[q]?=some (.cells cs bf)∧cs.length=27∧(∀ j,j<26→cs[j]?=some (pV (nd (p++[chU j]))))∧cs[26]?=some (.int .i64 ((cnt p:Nat):Int))
 ok:Ut nd cnt
def KpN(b:Nat)(G G':List AObj):Prop:=G.length≤G'.length∧∀ i x,G[i]?=some x→(∀ cs,x = .cells cs bf→i<b)→G'[i]?=some x
theorem KpN.refl(b:Nat)(G:List AObj):KpN b G G:=⟨ZO _,fun _ _ h _=>h⟩
theorem KpN.trans{b:Nat}{G1 G2 G3:List AObj}(h:KpN b G1 G2)(h':KpN b G2 G3):KpN b G1 G3:=⟨ZU h.1 h'.1,fun i x hi hx=>h'.2 i x (h.2 i x hi hx) hx⟩
theorem KpN.app(b:Nat)(G X:List AObj):KpN b G (G++X):=⟨by simp,fun i x hi _=>by rw [List.getElem?_append_left (List.getElem?_eq_some_iff.1 hi).1];exact hi⟩
theorem KpN.set{b q:Nat}{G:List AObj}{cs:List AV}{x:AObj}(hb:b≤q)(hq:G[q]?=some (.cells cs bf)):KpN b G (G.set q x):=⟨by simp,fun i y hi hy=>by
 have hne:i≠q:=fun e=>by
  subst e;rw [hq] at hi;have:=hy cs (Option.some.inj hi).symm;omega
 rw [ZR (Ne.symm hne)];exact hi⟩
theorem Wn{b:Nat}{G G':List AObj}{nd:Str→Option Nat}{cnt:Str→Nat}(h:Db b G nd cnt)(hg:∀ (i:Nat) (x:AObj),G[i]?=some x→G'[i]?=some x):Db b G' nd cnt:=
 ⟨fun p q hq=>let ⟨h1,cs,h2,h3⟩:=h.leaf p q hq;⟨h1,cs,hg _ _ h2,h3⟩,h.ok⟩
theorem X7{b:Nat}{G:List AObj}{nd:Str→Option Nat}{cnt:Str→Nat}(h:Db b G nd cnt)(X:List AObj):Db b (G++X) nd cnt:=
 Wn h fun i x hi=>by rw [ZE (ZB.1 hi).1];exact hi
def Eg(nd:Str→Option Nat)(x:Str)(v:Nat):Str→Option Nat:=fun y=>if y=x then some v else nd y
theorem Jc{p p':Str}{c c':UInt8}(h:p++[c]=p'++[c']):p=p'∧c=c':=by
 have h1:=List.append_inj' h rfl;exact ⟨h1.1,by simpa using h1.2⟩
theorem X8{b:Nat}{G:List AObj}{nd:Str→Option Nat}{cnt:Str→Nat}{p:Str}{q j:Nat}{cs:List AV}(h:Db b G nd cnt)(hb:b≤G.length)(hp:nd p=some q)(hq:G[q]?=some (.cells cs bf))(hj:j<26)(hn:nd (p++[chU j])=none)(hl:p.length+1≤24) :
  Db b ((G++[AObj.cells vP bf]).set q (.cells (cs.set j (.ptr G.length 0)) bf)) (Eg nd (p++[chU j]) G.length) cnt∧KpN b G ((G++[AObj.cells vP bf]).set q (.cells (cs.set j (.ptr G.length 0)) bf)):=by
 have hlt:q<G.length:=(ZB.1 hq).1;obtain ⟨hbq,cs2,hq2,hcl,hcj,hc26⟩:=h.leaf p q hp;rw [hq] at hq2;cases hq2;have hq1:(G++[AObj.cells vP bf])[q]?=some (.cells cs bf):=by rw [ZE hlt];exact hq
 have hpp:p≠p++[chU j]:=fun e=>by have:=congrArg List.length e;simp at this
 refine ⟨⟨fun p' q' hp' => ?_,fun p' c q' hp' => ?_,fun p' hp' => ?_,fun p' q' hp' => ?_,fun p1 p2 q' h1 h2 => ?_⟩,(KpN.app b G _).trans (KpN.set hbq hq1)⟩
 ·unfold Eg at hp'
  split at hp'
  ·rename_i e
   cases hp';refine ⟨hb,vP, ?_,rfl,fun i hi => ?_, ?_⟩
   ·rw [List.getElem?_set_ne (by omega)];simp
   ·have:Eg nd (p++[chU j]) G.length (p'++[chU i])=none:=by
     unfold Eg;rw [if_neg (by rw [e];intro e2;have:=congrArg List.length e2;simp at this)];cases hh:nd (p'++[chU i]) with
     |none=>rfl
     |some q3=>
      obtain ⟨_,q4,hq4⟩:=h.ok.pre _ _ _ hh;rw [e,hn] at hq4;cases hq4
    rw [this];exact KL i hi
   ·rw [e,h.ok.zero _ hn];rfl
  ·rename_i e
   obtain ⟨k1,cs3,k2,k3,k4,k5⟩:=h.leaf p' q' hp';refine ⟨k1, ?_⟩
   by_cases eq:q'=q
   ·have ep:=h.ok.inj p' p q' hp' (by rw [eq];exact hp)
    subst ep;subst eq;rw [hq] at k2;cases k2;refine ⟨_,List.getElem?_set_self (by simp;omega),by simpa using k3,fun i hi => ?_, ?_⟩
    ·by_cases ei:i=j
     ·subst ei
      rw [ZS (by omega)];unfold Eg;rw [if_pos rfl];rfl
     ·rw [ZR (Ne.symm ei),k4 i hi]
      unfold Eg;rw [if_neg (fun e2=>ei (Wm hi hj (Jc e2).2))]
    ·rw [ZR (by omega)];exact k5
   ·refine ⟨cs3, ?_,k3,fun i hi => ?_,k5⟩
    ·rw [ZR (Ne.symm eq),ZE (ZB.1 k2).1];exact k2
    ·rw [k4 i hi]
     unfold Eg;rw [if_neg (fun e2=>eq (by rw [(Jc e2).1] at hp';rw [hp] at hp';exact (Option.some.inj hp').symm))]
 ·unfold Eg at hp' ⊢
  split at hp'
  ·rename_i e
   obtain ⟨e1,e2⟩:=Jc e;subst e1;subst e2;refine ⟨?_,q,by rw [if_neg hpp];exact hp⟩;have:=B7 hj;simp only [eW,Bool.and_eq_true,decide_eq_true_eq];omega
  ·obtain ⟨h1,q2,h2⟩:=h.ok.pre p' c q' hp'
   refine ⟨h1, ?_⟩
   by_cases e2:p'=p++[chU j]
   ·exact ⟨_,if_pos e2⟩
   ·exact ⟨q2,by rw [if_neg e2];exact h2⟩
 ·unfold Eg at hp'
  split at hp'
  ·cases hp'
  ·exact h.ok.zero p' hp'
 ·unfold Eg at hp'
  split at hp'
  ·rename_i e
   rw [e];simp;omega
  ·exact h.ok.dep p' q' hp'
 ·have hlt2:∀ p q,nd p=some q→q<G.length:=fun p q hq=>by
   obtain ⟨_,cs,h2,_⟩:=h.leaf p q hq;exact (ZB.1 h2).1
  unfold Eg at h1 h2;split at h1<;>split at h2
  ·rename_i e1 e2;rw [e1,e2]
  ·cases h1;have:=hlt2 _ _ h2;omega
  ·cases h2;have:=hlt2 _ _ h1;omega
  ·exact h.ok.inj p1 p2 q' h1 h2
theorem X9{b:Nat}{G:List AObj}{nd:Str→Option Nat}{cnt:Str→Nat}{p:Str}{q:Nat}{cs:List AV}(h:Db b G nd cnt)(hp:nd p=some q)(hq:G[q]?=some (.cells cs bf)) :
  Db b (G.set q (.cells (cs.set 26 (.int .i64 ((cnt p+1:Nat):Int))) bf)) nd (Ja cnt p)∧KpN b G (G.set q (.cells (cs.set 26 (.int .i64 ((cnt p+1:Nat):Int))) bf)):=by
 have hlt:q<G.length:=(ZB.1 hq).1;obtain ⟨hbq,cs2,hq2,hcl,hcj,hc26⟩:=h.leaf p q hp;rw [hq] at hq2;cases hq2;refine ⟨⟨fun p' q' hp' => ?_,h.ok.pre,fun p' hp' => ?_,h.ok.dep,h.ok.inj⟩,KpN.set hbq hq⟩
 ·obtain ⟨k1,cs3,k2,k3,k4,k5⟩:=h.leaf p' q' hp'
  refine ⟨k1, ?_⟩
  by_cases eq:q'=q
  ·have ep:=h.ok.inj p' p q' hp' (by rw [eq];exact hp)
   subst ep;subst eq;rw [hq] at k2;cases k2;refine ⟨_,List.getElem?_set_self hlt,by simpa using k3,fun i hi => ?_, ?_⟩
   ·rw [ZR (by omega)];exact k4 i hi
   ·rw [ZS (by omega)]
    unfold Ja;rw [if_pos rfl]
  ·have ep:p'≠p:=fun e=>eq (by rw [e,hp] at hp';exact (Option.some.inj hp').symm)
   refine ⟨cs3,by rw [ZR (Ne.symm eq)];exact k2,k3,k4, ?_⟩;unfold Ja;rw [if_neg ep];exact k5
 ·unfold Ja
  rw [if_neg (fun e=>by rw [e,hp] at hp';cases hp')];exact h.ok.zero p' hp'
def zk(x:Str×Nat):List AV:=[.str x.1,.int .i64 (x.2:Int)]
theorem Ob{g:Nat→Option (List (List AV)×List Nat)}{gp:Nat→List (Str×Nat)}{N:Nat}(h:∀ k,k<26→∃ La,g k=some ((gp k).map zk,La)∧∀ id∈La,id<N):∀ n,n≤26→∃ L,Bm g n=some ((Jb gp n).map zk,L)∧∀ id∈L,id<N
 |0,_=>⟨[],rfl,fun id h=>by cases h⟩
 |n+1,hn=>by
  obtain ⟨La,h1,h2⟩:=h (25-n) (by omega);obtain ⟨L,h3,h4⟩:=Ob h n (by omega);refine ⟨La++L, ?_,fun id hid => ?_⟩
  ·rw [Bm,h1]
   simp only [h3];rw [Jb,List.map_append]
  ·rcases ZX.1 hid with hid | hid
   ·exact h2 id hid
   ·exact h4 id hid
theorem Oc{b:Nat}{G:List AObj}{nd:Str→Option Nat}{cnt:Str→Nat}(h:Db b G nd cnt){N:Nat}(hN:∀ p q,nd p=some q→q<N):∀ (d:Nat) (p:Str) (q:Nat),nd p=some q→24<d+p.length→∃ L,vM G d q p=some ((CI nd cnt d p).map zk,L)∧∀ id∈L,id<N
 |0,p,q,hq,hd=>by
  have:=h.ok.dep p q hq;omega
 |d+1,p,q,hq,hd=>by
  obtain ⟨k1,cs,k2,k3,k4,k5⟩:=h.leaf p q hq
  have hl:DJ G[q]?=some (cs,((cnt p:Nat):Int)):=by
   rw [k2];simp only [DJ,k5]
  obtain ⟨L,h1,h2⟩:=Ob (g:=fun k=>LL (fun q'=>vM G d q' (p++[UInt8.ofNat (97+k)])) cs[k]?) (gp:=fun k=>match nd (p++[chU k]) with
   |some _=>CI nd cnt d (p++[chU k])
   |none=>[]) (N:=N) (fun k hk=>by
    simp only [k4 k hk];cases hn:nd (p++[chU k]) with
    |none=>exact ⟨[],rfl,fun id h=>by cases h⟩
    |some q2=>
     obtain ⟨L,e1,e2⟩:=Oc h hN d (p++[chU k]) q2 hn (by simp;omega);exact ⟨L,e1,e2⟩) 26 (by omega)
  refine ⟨q::L, ?_,fun id hid => ?_⟩
  ·rw [vM,hl]
   simp only [h1];rw [CI,List.map_append];congr 2;congr 1
   by_cases hc:0<cnt p
   ·rw [if_pos hc,if_pos (by omega)];rfl
   ·rw [if_neg hc,if_neg (by omega)];rfl
  ·rcases ZY.1 hid with rfl | hid
   ·exact hN p _ hq
   ·exact h2 id hid
def Uv(fs:List dJ)(c:Str→Nat):Str→Nat:=fs.foldl (fun c h=>Ja c h.w) c
def JV(ws:List Str)(l:List (Str×Nat)):List (Str×Nat):=ws.foldl (fun l w=>tZ w l) l
theorem Od:∀ (fs:List dJ) {c:Str→Nat}{l:List (Str×Nat)},FX l c→FX (JV (fs.map dJ.w) l) (Uv fs c)
 |[],_,_,h=>h
 |x::fs,_,_,h=>Od fs (Wj h x.w)
theorem Uw:FX [] (fun _=>0):=⟨List.Pairwise.nil,fun v n=>by simp⟩
theorem nw0{w:Str}(hw:w.all eW=true)(hwl:w.length≤24){b s:Nat}{row:List AV}{a5 a27 a28 a29:AV}(hrow:row[2]?=some (.str w)){cnt:Str→Nat}{H0:List AObj}:∀ (n i:Nat) (G:List AObj) (nd:Str→Option Nat) (cur:Nat),i+n=w.length→Db b G nd cnt→b≤G.length→nd (w.take i)=some cur→G[s]?=some (.cells row dx) →
  ∃ G' nd' cur',Db b G' nd' cnt∧KpN b G G'∧nd' w=some cur'∧(∀ p q,nd p=some q→nd' p=some q)∧∀ (k:List Fra) (He:List AObj),
  M.go qK H0 (.c pn :: .lp ⟨(some [5,7,8,27,28,29,39,40]),[],false⟩ pn He :: .blk 2 :: .c (.lv [5,8,27,28,29])::k) (kv [(5,a5),(7,.ptr s 0),(8,.ptr cur 0),(27,a27),(28,a28),(29,a29),(39,.int .i64 w.length),(40,.int .i64 i)]) G =
   M.go qK H0 k (kv [(5,a5),(8,.ptr cur' 0),(27,a27),(28,a28),(29,a29)]) G'
 |0,i,G,nd,cur,h,hG,hb,hc,hs=>by
  have e1:i=w.length:=by omega
  subst e1;rw [List.take_length] at hc;refine ⟨G,nd,cur,hG,KpN.refl _ _,hc,fun _ _ h=>h,fun k He => ?_⟩;rw [ag M pn.eq_1];simp (maxSteps:=3000000) (maxDischargeDepth:=6) +contextual -implicitDefEqProofs only [amC M,↓amD,Nat.reduceBEq,Nat.reduceAdd,env,ab,sP,Nat.lt_irrefl]
 |n+1,i,G,nd,cur,h,hG,hb,hc,hs=>by
  have hi:i<w.length:=by omega
  have hx:w[i]?=some w[i]:=ZC hi;have hlo:eW w[i]=true:=ZT.1 hw _ (ZJ hi);have htk:w.take (i+1)=w.take i++[w[i]]:=by rw [List.take_add_one,hx];rfl
  generalize w[i]=c at hx hlo htk;obtain ⟨j,hj,hjw⟩:=Uj hlo
  have hcj:chU j=c:=by
   obtain ⟨j2,hj2,e⟩:=Us hlo;obtain ⟨j3,hj3,e3⟩:=Uj hlo;have hn:=B7 hj2;rw [e] at hn
   have:((c.toNat:Int)-97)=((j2:Nat):Int):=by omega
   rw [this,IntWalk.u8_in _ ⟨by omega,by omega⟩] at hjw
   have:j2=j:=by omega
   rw [← this];exact e
  have hws:=aZ hi (show w.length≤aQ by simp only [aQ];omega);obtain ⟨hbc,cs,hcs,hcl27,hch,hc26⟩:=hG.leaf _ _ hc;have hcl:cur<G.length:=(ZB.1 hcs).1;have hr2:=jW hrow;have hcj2:=hch j hj;cases hnd:nd (w.take i++[chU j]) with
  |none=>
   rw [hnd] at hcj2;obtain ⟨g1,g2⟩:=X8 hG hb hc hcs hj hnd (by simp;omega)
   have hset:stO 1 (G++[AObj.cells vP bf]) cur j [.ptr G.length 0] (G++[AObj.cells vP bf])[cur]?=some ((G++[AObj.cells vP bf]).set cur (.cells (cs.set j (.ptr G.length 0)) bf)):=
    yf (by rw [ZE hcl];exact hcs) (by omega) rfl
   have hget:((G++[AObj.cells vP bf]).set cur (.cells (cs.set j (.ptr G.length 0)) bf))[cur]?=some (.cells (cs.set j (.ptr G.length 0)) bf):=List.getElem?_set_self (by simp;omega);have hld:cK none (cs.set j (.ptr G.length 0)) j=some (.ptr G.length 0):=jW (ZS (by omega));have hld0:=jW hcj2;simp only [pV] at hld0;have hs2:=g2.2 s _ hs (fun c e=>by simp at e;exact absurd e.2 (by decide));have hnw:Eg nd (w.take i++[chU j]) G.length (w.take (i+1))=some G.length:=by rw [htk,← hcj];exact if_pos rfl
   have hext:∀ p q,nd p=some q→Eg nd (w.take i++[chU j]) G.length p=some q:=fun p q hp=>by
    unfold Eg;rw [if_neg (fun e=>by rw [e,hnd] at hp;cases hp)];exact hp
   generalize (G++[AObj.cells vP bf]).set cur (.cells (cs.set j (.ptr G.length 0)) bf)=G1 at g1 g2 hset hget hs2;obtain ⟨G',nd',cur',k1,k2,k3,k4,ih⟩:=nw0 hw hwl hrow (a5:=a5) (a27:=a27) (a28:=a28) (a29:=a29) (H0:=H0) n (i+1) G1 _ G.length (by omega) g1 (by have:=g2.1;omega) hnw hs2;refine ⟨G',nd',cur',k1,g2.trans k2,k3,fun p q hp=>k4 p q (hext p q hp),fun k He => ?_⟩;have ih:=ih k;simp only [vP] at hset
   simp only [kv_cons,kv_nil] at ih ⊢;rw [ag M pn.eq_1];simp (maxSteps:=3000000) (maxDischargeDepth:=6) +contextual -implicitDefEqProofs only [amC M,↓amD,Nat.reduceBEq,Nat.reduceAdd,env,ab,sP,amG,AV.cell,Nat.reduceMul,Nat.reduceLeDiff,hi,hx,hs,hr2,MZ,Mb,W6,W7,hjw,hcs,Ui hj,hld0,hset,hget,hld,ih,hws]
  |some q=>
   rw [hnd] at hcj2;have hld0:=jW hcj2;simp only [pV] at hld0;obtain ⟨G',nd',cur',k1,k2,k3,k4,ih⟩:=nw0 hw hwl hrow (a5:=a5) (a27:=a27) (a28:=a28) (a29:=a29) (H0:=H0) n (i+1) G nd q (by omega) hG hb (by rw [htk,← hcj];exact hnd) hs;refine ⟨G',nd',cur',k1,k2,k3,k4,fun k He => ?_⟩;have ih:=ih k;simp only [kv_cons,kv_nil] at ih ⊢;rw [ag M pn.eq_1];simp (maxSteps:=3000000) (maxDischargeDepth:=6) +contextual -implicitDefEqProofs only [amC M,↓amD,Nat.reduceBEq,Nat.reduceAdd,env,ab,sP,amG,AV.cell,Nat.reduceMul,Nat.reduceLeDiff,hi,hx,hs,hr2,MZ,Mb,W6,W7,hjw,hcs,Ui hj,hld0,ih,hws]
theorem Wo{c:Str→Nat}{n:Nat}(h:∀ p,c p≤n)(w p:Str):Ja c w p≤n+1:=by
 have:=h p;unfold Ja;split<;>omega
theorem nw1{fs:List dJ}(hfs:∀ h∈fs,h.w.all eW=true∧h.w.length≤24)(hfl:fs.length≤10000){tf:Tag}{b a r:Nat}{arow:List AV}(harow:arow[6]?=some (.ptr r 0)){H0:List AObj}:∀ (n i:Nat) (G:List AObj) (nd:Str→Option Nat) (cnt:Str→Nat),i+n=fs.length→Db b G nd cnt→(∀ p,cnt p≤i)→b≤G.length→nd []=some r→G[a]?=some (.cells arow gX) →
  ∃ G' nd',Db b G' nd' (Uv (fs.drop i) cnt)∧nd' []=some r∧KpN b G G'∧∀ (k:List Fra) (He:List AObj),
  M.go qK H0 (.c rL :: .lp ⟨(some [5,27,28,29]),[],false⟩ rL He :: .blk 0 :: .c (.lv [5])::k) (kv [(5,.ptr a 0),(27,.slice tf 3 (fs.map dJ.row)),(28,.int .i64 fs.length),(29,.int .i64 i)]) G =
   M.go qK H0 k (kv [(5,.ptr a 0)]) G'
 |0,i,G,nd,cnt,h,hG,hcb,hb,hr,ha=>by
  have e1:i=fs.length:=by omega
  subst e1;refine ⟨G,nd,by rw [List.drop_length];exact hG,hr,KpN.refl _ _,fun k He => ?_⟩;rw [ag M rL.eq_1];simp (maxSteps:=3000000) (maxDischargeDepth:=6) +contextual -implicitDefEqProofs only [amC M,↓amD,Nat.reduceBEq,Nat.reduceAdd,env,ab,sP,Nat.lt_irrefl]
 |n+1,i,G,nd,cnt,h,hG,hcb,hb,hr,ha=>by
  have hi:i<fs.length:=by omega
  have hx:fs[i]?=some fs[i]:=ZC hi;obtain ⟨hlo,hyl⟩:=hfs fs[i] (ZJ hi);have hdr:Uv (fs.drop i) cnt=Uv (fs.drop (i+1)) (Ja cnt fs[i].w):=by rw [ZD hi];rfl
  rw [hdr];clear hdr;generalize fs[i]=y at hx hlo hyl ⊢;have hws:=aZ hi (show fs.length≤aQ by simp only [aQ];omega);have hal:a<G.length:=(ZB.1 ha).1;have hK1:=KpN.app b G [AObj.cells (dJ.row y) dx];have ha1:(G++[AObj.cells (dJ.row y) dx])[a]?=some (.cells arow gX):=hK1.2 a _ ha fun c e=>by simp at e;exact absurd e.2 (by decide)
  have hlda:=jW harow;obtain ⟨G2,nd2,cur,g1,g2,g3,g4,hin⟩:=nw0 M hlo hyl (s:=G.length) (row:=dJ.row y) (a5:=.ptr a 0) (a27:=.slice tf 3 (fs.map dJ.row)) (a28:=.int .i64 fs.length) (a29:=.int .i64 i) rfl (H0:=H0) y.w.length 0 (G++[AObj.cells (dJ.row y) dx]) nd r (by omega) (X7 hG _) (by simp;omega) (by rw [List.take_zero];exact hr) (by simp);obtain ⟨hbc,cs,hcs,hcl27,hch,hc26⟩:=g1.leaf _ _ g3;have hldm:=jW hc26
  obtain ⟨i1,i2⟩:=X9 g1 g3 hcs
  have hm1:IntKind.i64.wrap (((cnt y.w:Nat):Int)+1)=((cnt y.w+1:Nat):Int):=by
   have:=hcb y.w;rw [dZ (by omega) (by omega)];omega
  have hset:stO 1 G2 cur 26 [.int .i64 ((cnt y.w+1:Nat):Int)] (some (.cells cs bf))=some (G2.set cur (.cells (cs.set 26 (.int .i64 ((cnt y.w+1:Nat):Int))) bf)):=by
   have:=yf (o:=26) (v:=.int .i64 ((cnt y.w+1:Nat):Int)) hcs (by omega) rfl;rwa [hcs] at this
  have hkk:=(hK1.trans g2).trans i2;have ha2:=hkk.2 a _ ha fun c e=>by simp at e;exact absurd e.2 (by decide)
  have hb2:b≤(G2.set cur (.cells (cs.set 26 (.int .i64 ((cnt y.w+1:Nat):Int))) bf)).length:=by have:=hkk.1;omega
  generalize G2.set cur (.cells (cs.set 26 (.int .i64 ((cnt y.w+1:Nat):Int))) bf)=G3 at i1 hset ha2 hb2 hkk;obtain ⟨G',nd',k1,k2,k3,ih⟩:=nw1 hfs hfl (tf:=tf) harow (H0:=H0) n (i+1) G3 nd2 (Ja cnt y.w) (by omega) i1 (Wo hcb y.w) hb2 (g4 _ _ hr) ha2;refine ⟨G',nd',k1,k2,hkk.trans k3,fun k He => ?_⟩;have ih:=ih k;simp only [kv_cons,kv_nil,Int.ofNat_zero] at hin ih ⊢;rw [ag M rL.eq_1];simp (maxSteps:=3000000) (maxDischargeDepth:=6) +contextual -implicitDefEqProofs only [amC M,↓amD,Nat.reduceBEq,Nat.reduceAdd,env,ab,sP,amG,AV.cell,Nat.reduceMul,Nat.reduceLeDiff,hi,hx,ha1,hlda,Mb,hin,hcs,hldm,hm1,hset,ih,hws,aF hi,Y1]
theorem Ux(hN:bu E)(hW:WdE M)(hE:mU E)(hS:SpE E)(hX:sM M)(hY:GC M)(hB:s6 E)(hF:ui E)(hA:V0 E)(hO:XV E){l l':Lex}(hl:l.ok 0)(hl':l'.ok 0)(hk:c7 l=0)(hk':c7 l'=0)
  (hown:∀ H,M.run fp [.agg l.row] H=some (.ret (.agg l'.row),H)) (H:List AObj) :
  ∃ L r nd,M.run Bq [.agg l.row] H=some (.ret (.tuple [.ptr (H.length+2) 0,.int .u8 0]),H++L)∧(H++L)[H.length+2]?=some (.cells (l'.row++[.ptr r 0]) gX)∧Db H.length (H++L) nd (Uv (BO l') fun _=>0)∧nd []=some r:=by
 have hk0:(c7 l == 0)=true:=by simpa using hk
 have g3:Db H.length (H++[AObj.cells l.row ae]++[AObj.cells vP bf]++[AObj.cells (l'.row++[.ptr (H.length+1) 0]) gX]) (fun p=>if p=[] then some (H.length+1) else none) (fun _=>0):=by
  refine ⟨fun p q hq => ?_,fun p c q hq => ?_,fun _ _=>rfl,fun p q hq => ?_,fun p p' q h1 h2 => ?_⟩
  ·split at hq
   ·cases hq
    refine ⟨by omega,vP,by simp,rfl,fun j hj => ?_,rfl⟩;rw [KL j hj,if_neg (by simp)];rfl
   ·cases hq
  ·rw [if_neg (by simp)] at hq;cases hq
  ·split at hq
   ·rename_i e;rw [e];simp
   ·cases hq
  ·split at h1<;>split at h2
   ·rename_i e1 e2;rw [e1,e2]
   ·cases h2
   ·cases h1
   ·cases h1
 have hss:=fun H=>PJ M hN hW hE hS hX hY hB hF hA hl' hk' H
 have hsl:=N0 hk';have hlo:∀ h∈BO l',h.w.all eW=true∧h.w.length≤24:=fun h hh=>⟨QE hk' l'.entries.l 0 (Ma hk') h hh,(V2 hk' h hh).2⟩
 have har:(l'.row++[AV.ptr (H.length+1) 0])[6]?=some (.ptr (H.length+1) 0):=rfl;obtain ⟨G',nd',h1,h3,h2,h4⟩:=nw1 M hlo (by omega) (tf:=.any) (a:=H.length+2) har (H0:=H) (BO l').length 0 _ _ _ (by omega) g3 (fun _=>Nat.le_refl _) (by simp) (if_pos rfl) (by simp);rw [List.drop_zero] at h1
 have hpre:H <+: G':=by
  have:∀ i (h:i<H.length),G'[i]?=H[i]? := fun i h=>by
   rw [ZC h];refine h2.2 i H[i] ?_ fun _ _=>h
   rw [List.getElem?_append_left (by simp;omega),List.getElem?_append_left (by simp;omega),List.getElem?_append_left h,List.getElem?_eq_getElem h]
  refine ⟨G'.drop H.length, ?_⟩
  have ht:G'.take H.length=H:=by
   apply List.ext_getElem?;intro i
   by_cases hi:i<H.length
   ·rw [List.getElem?_take_of_lt hi,this i hi]
   ·rw [List.getElem?_eq_none (by simp;omega),List.getElem?_eq_none (by omega)]
  conv=>rhs;rw [← List.take_append_drop H.length G',ht]
 obtain ⟨L,rfl⟩:=hpre;have hfin:=h2.2 (H.length+2) _ (by simp:(H++[AObj.cells l.row ae]++[AObj.cells vP bf]++[AObj.cells (l'.row++[.ptr (H.length+1) 0]) gX])[H.length+2]?=some (.cells (l'.row++[.ptr (H.length+1) 0]) gX)) fun c e=>by simp at e;exact absurd e.2 (by decide)
 refine ⟨L,H.length+1,nd', ?_,hfin,h1,h3⟩;rw [aN M hO.morph_New rfl (c:=Bu) rfl,Bu];simp only [kv_cons,kv_nil,Int.ofNat_zero,vP,List.append_assoc,List.cons_append,List.nil_append] at h4;have e1:aW [.str [],.slice .nil 2 [],.slice .nil 2 [],.slice .nil 4 [],.slice .nil 4 [],.slice .nil 3 [],.nilp] 0 l'.row=l'.row++[.nilp]:=rfl;have e2:∀ v:AV,(l'.row++[AV.nilp]).set 6 v=l'.row++[v]:=fun _=>rfl
 have e3:∀ v:AV,rJ 6 (l'.row++[v])=some l'.row:=fun _=>rfl
 have e4:∀ v:AV,(l'.row++[v]).length=7:=fun _=>rfl
 simp (maxSteps:=3000000) (maxDischargeDepth:=6) +contextual -implicitDefEqProofs only [amC M,↓amD,Nat.reduceBEq,Nat.reduceAdd,env,ab,sP,amG,AV.cell,Nat.reduceMul,Nat.reduceLeDiff,RL M hN hE hl,Nat.zero_le,hk0,hown,Mb,hss,h4,e1,e2,e3,e4,bH,wk_tuple]
end
section
attribute [local congr] al br aJ ao aH aA aq ah aj aC aD
variable{E:aX}(M:bR bN E)
structure PN (E:aX):Prop where
 words:E.fn iQ=some oB
 morph_Analyzer_Words:E.fn kJ=some cS
 morph_Analyzer_After:E.fn nS=some cC
 morph_Analyzer_Ambiguous:E.fn iO=some bL
 ref:E.fn lL=some cg
 seq:E.seq dw=wF
 sar:E.sar dw=2
theorem Jd:∀ (P:List AObj) {X Y:List AObj},DA X Y=true→DA (P++X) (P++Y)=true
 |[],_,_,h=>h
 |x::P,_,_,h=>by
  show ((!Lu x||Lu x)&&DA (P++_) (P++_))=true;rw [Jd P h];cases Lu x<;>rfl
theorem wi(hZ:PN E)(a:Nat)(H:List AObj):M.run iQ [.ptr a 0] H=some (.ret (.fn (.func dw) [] [.ptr H.length 0]),H++[.cells [.ptr a 0] eZ]):=by
 rw [aN M hZ.words rfl (c:=oA) rfl,oA];simp (maxSteps:=3000000) (maxDischargeDepth:=6) +contextual -implicitDefEqProofs only [amC M,↓amD,Nat.reduceBEq,Nat.reduceAdd,env,ab,zH,amG,AV.cell,Nat.reduceMul,Nat.reduceLeDiff]
def wsX(b a:Nat):List (Str×Nat)→List AObj
 |[]=>[.cells [.slice .nil 1 []] fb,.cells [.ptr a 0] eZ]
 |x::l=>[.cells [.slice (.own (b+2)) 1 ((x::l).map fun y=>bJ y.1)] fb,.cells [.ptr a 0] eZ,.tok ((x::l).length*1) aE]
theorem Je(H:List AObj)(b a:Nat)(l:List (Str×Nat)):DA (H++wsX b a []) (H++wsX b a l)=true:=Jd H (by cases l<;>rfl)
theorem Mj{H:List AObj}{L:List Nat}(hL:∀ id∈L,id<H.length)(b a:Nat)(l:List (Str×Nat)):∀ id∈L,id<(H++wsX b a []).length→(H++wsX b a l)[id]?=(H++wsX b a [])[id]? := fun id hid _=>by
 rw [ZE (hL id hid),ZE (hL id hid)]
theorem Eh{f:Rec}{rf:AFn}{ps:List Nat}{y:List (List RO)}{z:AC}{a:Env}{L:List Nat}{H0 H H':List AObj}{x:List AV}{xs:List (List AV)}{q:Option AC×List AObj}(h:f rf H (y.map (fun l=>.c (.ops l))++[.c z,.dr .nilp]) (vL a ps x) H=some (.ret .nilp,H'))
  (hn:DA H0 H'=true) (hi:∀ id∈L,id<H0.length→H'[id]?=H0[id]?) (hr:lu bN f rf ps y z a L H0 xs H'=some q):lu bN f rf ps y z a L H0 (x::xs) H=some q:=by
 rw [lu];simp only [h,hn,MY hi,hr]
theorem Wp{f:Rec}{rf:AFn}{ps:List Nat}{y:List (List RO)}{z:AC}{a:Env}{L:List Nat}{H0 H H':List AObj}{x:List AV}{xs:List (List AV)}{b:Bool}(h:f rf H (y.map (fun l=>.c (.ops l))++[.c z,.dr .nilp]) (vL a ps x) H=some (.ret (.bool b),H'))
  (hn:DA H0 H'=true) (hi:∀ id∈L,id<H0.length→H'[id]?=H0[id]?):lu bN f rf ps y z a L H0 (x::xs) H=some (some .ret,H'):=by
 rw [lu];simp only [h,hn,MY hi]
theorem QL(H:List AObj)(x y:AObj)(w:Str):rap false (H++[x,y]) aE 1 16 false (.slice .nil 1 []) (.slice .full 1 [[.str w]])=some (.slice (.own (H.length+2)) 1 [bJ w],H++[x,y,.tok 1 aE]):=by
 simp [rap,xE,uq,nj,AV.cell,AV.strip,bJ]
theorem QM(H:List AObj)(x y:AObj){l:List (Str×Nat)}(hl:l.length≤10000)(z:Str×Nat):rap false (H++[x,y,.tok (l.length*1) aE]) aE 1 16 false (.slice (.own (H.length+2)) 1 (l.map fun y=>bJ y.1)) (.slice .full 1 [[.str z.1]])=some (.slice (.own (H.length+2)) 1 ((l++[z]).map fun y=>bJ y.1),H++[x,y,.tok ((l++[z]).length*1) aE]):=by
 have h:=HV (row:=fun (y:Str×Nat)=>bJ y.1) (l:=l) (x:=z) (r:=[.str z.1]) (sz:=1) (bytes:=16) (e:=aE) (H++[x,y]) rfl rfl rfl (by omega) (by omega);simpa using h
theorem Uy{H:List AObj}{a:Nat}{e:Env}(he3:fv e 3 = .ptr H.length 0):∀ (xs st:List (Str×Nat)) (L:List Nat),(∀ id∈L,id<H.length)→st.length+xs.length≤10000 →
  lu bN M.go (mr cS) [7,8] [[Sh.m 4 7]] jL e L (H++wsX H.length a []) (xs.map zk) (H++wsX H.length a st)=some (none,H++wsX H.length a (st++xs))
 |[],st,L,_,_=>by simp only [List.filter_nil,List.append_nil];rfl
 |x::xs,st,L,hL,hb=>by
  have q1:(mr cS).dfr=some ([],.c .unk,.bad):=rfl;have q2:(mr cS).mode = .keep:=rfl;have q3:(mr cS).res=[]:=rfl;have ih:=Uy (a:=a) he3 xs (st++[x]) L hL (by simp at hb ⊢;omega);rw [ZI] at ih;refine Eh ?_ (Je H H.length a (st++[x])) (Mj hL H.length a (st++[x])) ih;generalize mr cS=rf at q1 q2 q3;cases st with
  |nil=>
   simp only [List.nil_append,wsX,zk,vL,List.map_cons,List.map_nil,List.cons_append,kv_cons,kv_nil,jL];simp (maxSteps:=3000000) (maxDischargeDepth:=6) +contextual -implicitDefEqProofs only [amC M,↓amD,Nat.reduceBEq,Nat.reduceAdd,env,ab,kX,amG,AV.cell,Nat.reduceMul,Nat.reduceLeDiff,q1,q2,q3,he3,QL]
  |cons y st=>
   have hap:=fun u v=>QM H u v (l:=y::st) (by simp at hb ⊢;omega) x
   simp only [wsX,zk,vL,List.map_cons,List.map_nil,kv_cons,kv_nil,jL,List.nil_append,List.cons_append,List.length_cons] at hap ⊢;simp (maxSteps:=3000000) (maxDischargeDepth:=6) +contextual -implicitDefEqProofs only [amC M,↓amD,Nat.reduceBEq,Nat.reduceAdd,env,ab,kX,amG,AV.cell,Nat.reduceMul,Nat.reduceLeDiff,q1,q2,q3,he3,hap]
theorem Oe(hZ:PN E){H:List AObj}{a r:Nat}{row:List AV}{T:TypeId}{ws:List (Str×Nat)}{L:List Nat}(hr:row.length=6)(ha:H[a]?=some (.cells (row++[.ptr r 0]) T))(hw:∀ X,vM (H++X) 30 r []=some (ws.map zk,L))(hL:∀ id∈L,id<H.length)(hn:ws.length≤10000) :
  M.run kJ [.ptr a 0] H=some (.ret (.slice .any 1 (ws.map fun x=>bJ x.1)),H):=by
 have hs:E.seq dw [.ptr (H.length+1) 0] (H++wsX H.length a [])=some (ws.map zk,L):=by
  rw [hZ.seq]
  obtain ⟨c0,c1,c2,c3,c4,c5,rfl⟩:∃ c0 c1 c2 c3 c4 c5,row=[c0,c1,c2,c3,c4,c5]:=by
   match row,hr with
   |[c0,c1,c2,c3,c4,c5],_=>exact ⟨c0,c1,c2,c3,c4,c5,rfl⟩
  have ha2:(H++wsX H.length a [])[a]?=some (.cells ([c0,c1,c2,c3,c4,c5]++[.ptr r 0]) T):=by rw [ZE (ZB.1 ha).1];exact ha
  have h1:(H++wsX H.length a [])[H.length+1]?=some (.cells [.ptr a 0] eZ):=by rw [List.getElem?_append_right (by omega)];simp [wsX]
  simp only [wF,h1,ha2,List.cons_append,List.nil_append];exact hw _
 rw [aN M hZ.morph_Analyzer_Words rfl (c:=od) rfl,od]
 have he:=fun (k:List Fra) (e:Env) (H0:List AObj) (he3:fv e 3 = .ptr H.length 0)=>by
  have hrr:=Uy M (H:=H) (a:=a) he3 ws [] L hL (by simpa using hn);rw [Z7] at hrr;exact OW (M:=M) (ps:=[7,8]) (fn:=cS) (k:=k) (a:=e) (H0:=H0) _ hs hZ.sar hrr
 cases ws with
 |nil=>
  simp only [wsX] at he;simp (maxSteps:=3000000) (maxDischargeDepth:=6) +contextual -implicitDefEqProofs only [amC M,↓amD,Nat.reduceBEq,Nat.reduceAdd,env,ab,kX,amG,AV.cell,Nat.reduceMul,Nat.reduceLeDiff,wi M hZ,he,rfnC_none,go_rfn,cY]
 |cons x ws=>
  simp only [wsX] at he;generalize x::ws=l at he ⊢;simp (maxSteps:=3000000) (maxDischargeDepth:=6) +contextual -implicitDefEqProofs only [amC M,↓amD,Nat.reduceBEq,Nat.reduceAdd,env,ab,kX,amG,AV.cell,Nat.reduceMul,Nat.reduceLeDiff,wi M hZ,he,rfnC_none,go_rfn,L7,implies_true,cut_app]
theorem Dc{H:List AObj}{a:Nat}{e:Env}(he3:fv e 3 = .ptr H.length 0):∀ (xs st:List (Str×Nat)) (L:List Nat),(∀ id∈L,id<H.length)→st.length+xs.length≤10000 →
  lu bN M.go (mr bL) [8,9] [[Sh.m 4 8],[Sh.m 5 9]] ea e L (H++wsX H.length a []) (xs.map zk) (H++wsX H.length a st)=some (none,H++wsX H.length a (st++xs.filter fun x=>decide (1<x.2)))
 |[],st,L,_,_=>by simp only [List.filter_nil,List.append_nil];rfl
 |x::xs,st,L,hL,hb=>by
  have q1:(mr bL).dfr=some ([],.c .unk,.bad):=rfl;have q2:(mr bL).mode = .keep:=rfl;have q3:(mr bL).res=[]:=rfl;cases hd:decide (1<x.2) with
  |false=>
   have hd2:decide ((1:Int)<(x.2:Int))=false:=by
    have:=of_decide_eq_false hd;exact decide_eq_false (by omega)
   have ih:=Dc (a:=a) he3 xs st L hL (by simp at hb ⊢;omega);rw [List.filter_cons,hd];refine Eh ?_ (Je H H.length a st) (Mj hL H.length a st) ih;generalize mr bL=rf at q1 q2 q3;simp only [zk,vL,List.map_cons,List.map_nil,List.nil_append,List.cons_append,kv_cons,kv_nil,ea];simp (maxSteps:=3000000) (maxDischargeDepth:=6) +contextual -implicitDefEqProofs only [amC M,↓amD,Nat.reduceBEq,Nat.reduceAdd,env,ab,fe,amG,AV.cell,Nat.reduceMul,Nat.reduceLeDiff,q1,q2,q3,he3,hd2]
  |true=>
  have hd2:decide ((1:Int)<(x.2:Int))=true:=by
   have:=of_decide_eq_true hd;exact decide_eq_true (by omega)
  rw [List.filter_cons,hd,if_pos rfl];have ih:=Dc (a:=a) he3 xs (st++[x]) L hL (by simp at hb ⊢;omega);rw [ZI] at ih;refine Eh ?_ (Je H H.length a (st++[x])) (Mj hL H.length a (st++[x])) ih;generalize mr bL=rf at q1 q2 q3;cases st with
  |nil=>
   simp only [List.nil_append,wsX,zk,vL,List.map_cons,List.map_nil,List.cons_append,kv_cons,kv_nil,ea];simp (maxSteps:=3000000) (maxDischargeDepth:=6) +contextual -implicitDefEqProofs only [amC M,↓amD,Nat.reduceBEq,Nat.reduceAdd,env,ab,fe,amG,AV.cell,Nat.reduceMul,Nat.reduceLeDiff,q1,q2,q3,he3,QL,hd2]
  |cons y st=>
   have hap:=fun u v=>QM H u v (l:=y::st) (by simp at hb ⊢;omega) x
   simp only [wsX,zk,vL,List.map_cons,List.map_nil,kv_cons,kv_nil,ea,List.nil_append,List.cons_append,List.length_cons] at hap ⊢;simp (maxSteps:=3000000) (maxDischargeDepth:=6) +contextual -implicitDefEqProofs only [amC M,↓amD,Nat.reduceBEq,Nat.reduceAdd,env,ab,fe,amG,AV.cell,Nat.reduceMul,Nat.reduceLeDiff,q1,q2,q3,he3,hap,hd2]
theorem GJ(hZ:PN E){H:List AObj}{a r:Nat}{row:List AV}{T:TypeId}{ws:List (Str×Nat)}{L:List Nat}(hr:row.length=6)(ha:H[a]?=some (.cells (row++[.ptr r 0]) T))(hw:∀ X,vM (H++X) 30 r []=some (ws.map zk,L))(hL:∀ id∈L,id<H.length)(hn:ws.length≤10000) :
  M.run iO [.ptr a 0] H=some (.ret (.slice .any 1 ((ws.filter fun x=>decide (1<x.2)).map fun x=>bJ x.1)),H):=by
 have hs:E.seq dw [.ptr (H.length+1) 0] (H++wsX H.length a [])=some (ws.map zk,L):=by
  rw [hZ.seq]
  obtain ⟨c0,c1,c2,c3,c4,c5,rfl⟩:∃ c0 c1 c2 c3 c4 c5,row=[c0,c1,c2,c3,c4,c5]:=by
   match row,hr with
   |[c0,c1,c2,c3,c4,c5],_=>exact ⟨c0,c1,c2,c3,c4,c5,rfl⟩
  have ha2:(H++wsX H.length a [])[a]?=some (.cells ([c0,c1,c2,c3,c4,c5]++[.ptr r 0]) T):=by rw [ZE (ZB.1 ha).1];exact ha
  have h1:(H++wsX H.length a [])[H.length+1]?=some (.cells [.ptr a 0] eZ):=by rw [List.getElem?_append_right (by omega)];simp [wsX]
  simp only [wF,h1,ha2,List.cons_append,List.nil_append];exact hw _
 rw [aN M hZ.morph_Analyzer_Ambiguous rfl (c:=lD) rfl,lD]
 have he:=fun (k:List Fra) (e:Env) (H0:List AObj) (he3:fv e 3 = .ptr H.length 0)=>by
  have hrr:=Dc M (H:=H) (a:=a) he3 ws [] L hL (by simpa using hn);rw [Z7] at hrr;exact OW (M:=M) (ps:=[8,9]) (fn:=bL) (k:=k) (a:=e) (H0:=H0) _ hs hZ.sar hrr
 generalize (ws.filter fun x=>decide (1<x.2))=ws at he ⊢;clear hs hw hn;cases ws with
 |nil=>
  simp only [wsX] at he;simp (maxSteps:=3000000) (maxDischargeDepth:=6) +contextual -implicitDefEqProofs only [amC M,↓amD,Nat.reduceBEq,Nat.reduceAdd,env,ab,fe,amG,AV.cell,Nat.reduceMul,Nat.reduceLeDiff,wi M hZ,he,rfnC_none,go_rfn,cY]
 |cons x ws=>
  simp only [wsX] at he;generalize x::ws=l at he ⊢;simp (maxSteps:=3000000) (maxDischargeDepth:=6) +contextual -implicitDefEqProofs only [amC M,↓amD,Nat.reduceBEq,Nat.reduceAdd,env,ab,fe,amG,AV.cell,Nat.reduceMul,Nat.reduceLeDiff,wi M hZ,he,rfnC_none,go_rfn,L7,implies_true,cut_app]
def afX(w:Str)(a:Nat)(v:Str)(b:Bool):List AObj:=[.cells [.str w] aE,.cells [.str v] aE,.cells [.bool b] LQ,.cells [.ptr a 0] eZ]
theorem Of(H:List AObj)(w:Str)(a:Nat)(v:Str)(b:Bool):DA (H++afX w a [] false) (H++afX w a v b)=true:=Jd H rfl
theorem QN{H:List AObj}{L:List Nat}(hL:∀ id∈L,id<H.length)(w:Str)(a:Nat)(v:Str)(b:Bool):∀ id∈L,id<(H++afX w a [] false).length→(H++afX w a v b)[id]?=(H++afX w a [] false)[id]? := fun id hid _=>by
 rw [ZE (hL id hid),ZE (hL id hid)]
theorem KR(w v:Str):(Op.bytesLess v w||v == w) = !Op.bytesLess w v:=by
 cases h:Op.bytesLess w v with
 |true=>rw [TH h,Bool.false_or,Bool.not_true];cases h2:v == w with
  |false=>rfl
  |true=>rw [eq_of_beq h2,ya] at h;cases h
 |false=>cases h2:Op.bytesLess v w with
  |true=>rfl
  |false=>rw [IF h2 h];simp
def Wq(H:List AObj)(w:Str)(a:Nat)(o:Option (Str×Nat)):Option AC×List AObj:=match o with
 |some x=>(some .ret,H++afX w a x.1 true)
 |none=>(none,H++afX w a [] false)
def Uz(o:Option (Str×Nat)):AV:=match o with
 |some x=>.tuple [.str x.1,.bool true]
 |none=>.tuple [.str [],.bool false]
theorem UA{H:List AObj}{a:Nat}{w:Str}{e:Env}(he3:fv e 3 = .ptr H.length 0)(he4:fv e 4 = .ptr (H.length+1) 0)(he5:fv e 5 = .ptr (H.length+2) 0):∀ (xs:List (Str×Nat)) (L:List Nat),(∀ id∈L,id<H.length) →
  lu bN M.go (mr cC) [9,10] [[Sh.m 6 9]] jK e L (H++afX w a [] false) (xs.map zk) (H++afX w a [] false)=some (Wq H w a (xs.find? fun x=>Op.bytesLess w x.1))
 |[],L,_=>rfl
 |x::xs,L,hL=>by
  have q1:(mr cC).dfr=some ([],.c .unk,.bad):=rfl;have q2:(mr cC).mode = .keep:=rfl;have q3:(mr cC).res=[]:=rfl;cases hd:Op.bytesLess w x.1 with
  |false=>
   have ih:=UA (a:=a) (w:=w) he3 he4 he5 xs L hL;rw [List.find?_cons,hd];refine Eh ?_ (Of H w a [] false) (QN hL w a [] false) ih;generalize mr cC=rf at q1 q2 q3;simp only [zk,afX,vL,List.map_cons,List.map_nil,List.nil_append,List.cons_append,kv_cons,kv_nil,jK];simp (maxSteps:=3000000) (maxDischargeDepth:=6) +contextual -implicitDefEqProofs only [amC M,↓amD,Nat.reduceBEq,Nat.reduceAdd,env,ab,kT,amG,AV.cell,Nat.reduceMul,Nat.reduceLeDiff,q1,q2,q3,he3,he4,he5,KR,hd]
  |true=>
   rw [List.find?_cons,hd];simp only [Wq];refine Wp (b:=true) ?_ (Of H w a x.1 true) (QN hL w a x.1 true);generalize mr cC=rf at q1 q2 q3;have hdf:∀ (e:Env) (H0 H:List AObj),Kf bN E M.go rf H0 e H (ub [Fra.blk 1,Fra.dr .nilp])=some (.ret (.bool true),H):=fun _ _ _=>rfl
   simp only [zk,afX,vL,List.map_cons,List.map_nil,List.nil_append,List.cons_append,kv_cons,kv_nil,jK];simp (maxSteps:=3000000) (maxDischargeDepth:=6) +contextual -implicitDefEqProofs only [amC M,↓amD,Nat.reduceBEq,Nat.reduceAdd,env,ab,kT,amG,AV.cell,Nat.reduceMul,Nat.reduceLeDiff,q1,q2,q3,he3,he4,he5,KR,hd,hdf]
theorem Og(hZ:PN E){H:List AObj}{a r:Nat}{row:List AV}{T:TypeId}{ws:List (Str×Nat)}{L:List Nat}(hr:row.length=6)(ha:H[a]?=some (.cells (row++[.ptr r 0]) T))(hw:∀ X,vM (H++X) 30 r []=some (ws.map zk,L))(hL:∀ id∈L,id<H.length)(w:Str) :
  M.run nS [.ptr a 0,.str w] H=some (.ret (Uz (ws.find? fun x=>Op.bytesLess w x.1)),H):=by
 have hs:E.seq dw [.ptr (H.length+3) 0] (H++afX w a [] false)=some (ws.map zk,L):=by
  rw [hZ.seq]
  obtain ⟨c0,c1,c2,c3,c4,c5,rfl⟩:∃ c0 c1 c2 c3 c4 c5,row=[c0,c1,c2,c3,c4,c5]:=by
   match row,hr with
   |[c0,c1,c2,c3,c4,c5],_=>exact ⟨c0,c1,c2,c3,c4,c5,rfl⟩
  have ha2:(H++afX w a [] false)[a]?=some (.cells ([c0,c1,c2,c3,c4,c5]++[.ptr r 0]) T):=by rw [ZE (ZB.1 ha).1];exact ha
  have h1:(H++afX w a [] false)[H.length+3]?=some (.cells [.ptr a 0] eZ):=by rw [List.getElem?_append_right (by omega)];simp [afX]
  simp only [wF,h1,ha2,List.cons_append,List.nil_append];exact hw _
 rw [aN M hZ.morph_Analyzer_After rfl (c:=oc) rfl,oc]
 have he:=fun (k:List Fra) (e:Env) (H0:List AObj) (he3:fv e 3 = .ptr H.length 0) (he4:fv e 4 = .ptr (H.length+1) 0) (he5:fv e 5 = .ptr (H.length+2) 0)=>by
  exact OW (M:=M) (ps:=[9,10]) (fn:=cC) (k:=k) (a:=e) (H0:=H0) _ hs hZ.sar (UA M (H:=H) (a:=a) (w:=w) he3 he4 he5 ws L hL)
 clear hs hw;generalize (ws.find? fun x=>Op.bytesLess w x.1)=o at he ⊢;cases o with
 |none=>
  simp only [afX,Wq,Uz] at he ⊢;simp (maxSteps:=3000000) (maxDischargeDepth:=6) +contextual -implicitDefEqProofs only [amC M,↓amD,Nat.reduceBEq,Nat.reduceAdd,env,ab,kT,amG,AV.cell,Nat.reduceMul,Nat.reduceLeDiff,wi M hZ,he,rfnC_none,go_rfn,wk_tuple,cut_app]
 |some x=>
  simp only [afX,Wq,Uz] at he ⊢;simp (maxSteps:=3000000) (maxDischargeDepth:=6) +contextual -implicitDefEqProofs only [amC M,↓amD,Nat.reduceBEq,Nat.reduceAdd,env,ab,kT,amG,AV.cell,Nat.reduceMul,Nat.reduceLeDiff,wi M hZ,he,Kg,go_rfn,wk_tuple,cut_app]
end
section
attribute [local congr] al br aJ ao aH aA aq ah aj aC aD
variable{E:aX}(M:bR bN E)
def rowS(x:Str×Nat):List AV:=bJ x.1
def rZ(st:List (Str×Nat)):List AV:=st.map fun x=>.int .i64 (x.2:Int)
theorem BS(n d:Nat):fT (some (.int .i64 (n:Int))) d=some n:=by simp [fT]
theorem BU(d:Nat):fT none d=some d:=rfl
theorem Wr{rows:List (List AV)}{tg:Tag}{n:Nat}(hn:n≤rows.length):∃ t,yq 1 (.slice tg 1 rows) none (some (.int .i64 (n:Int))) none=some (.slice t 1 (rows.take n)):=by
 simp only [yq,BS,BU];exact ⟨_,if_pos ⟨trivial,by omega,by omega,by omega⟩⟩
theorem Se{rows:List (List AV)}{tg:Tag}{n:Nat}(hn:n≤rows.length):∃ t,yq 1 (.slice tg 1 rows) (some (.int .i64 (n:Int))) none none=some (.slice t 1 (rows.drop n)):=by
 have e:(rows.drop n).take (rows.length-n)=rows.drop n:=List.take_of_length_le (by simp);simp only [yq,BS,BU,e];exact ⟨_,if_pos ⟨trivial,by omega,by omega,by omega⟩⟩
theorem Sf{st:List (Str×Nat)}{tg:Tag}(htg:tg≠.some)(hl:st.length≤10000){n:Nat}(hn:n≤st.length)(w:Str)(G:List AObj) :
  ∃ b1 b2 u1 G1 u2 G2,yq 1 (.slice tg 1 (st.map rowS)) none (some (.int .i64 (n:Int))) none=some b1∧yq 1 (.slice tg 1 (st.map rowS)) (some (.int .i64 (n:Int))) none none=some b2 ∧
   rap false G aE 1 16 false (.slice .nil 1 []) b1=some (u1,G1)∧rap false G1 aE 1 16 false u1 (.slice .full 1 [[.str w]])=some (u2,G2) ∧
   rap false G2 aE 1 16 false u2 b2=some (.slice (.own G.length) 1 ((st.take n++(w,1)::st.drop n).map rowS),G++[.tok ((st.length+1)*1) aE]):=by
 obtain ⟨t1,h1⟩:=Wr (rows:=st.map rowS) (tg:=tg) (n:=n) (by simpa using hn);obtain ⟨t2,h2⟩:=Se (rows:=st.map rowS) (tg:=tg) (n:=n) (by simpa using hn);rw [← List.map_take] at h1;rw [← List.map_drop] at h2;have hm:∀ l:List (Str×Nat),∀ x∈l,(rowS x).length=1∧(rowS x).all AV.cell=true:=fun l x _=>⟨rfl,rfl⟩
 have hs:∀ l:List (Str×Nat),∀ x∈l,(rowS x).map AV.strip=rowS x:=fun l x _=>rfl
 have h5:=Ua (row:=rowS) (l:=st.take n++[(w,1)]) (m:=st.drop n) (tg:=t2) (sz:=1) (bytes:=16) (e:=aE) G [] (hm _) (hs _) (by simp;omega) (by simp;omega);have e5:(st.take n++[(w,1)]++st.drop n)=st.take n++(w,1)::st.drop n:=by simp
 have e6:(st.take n++(w,1)::st.drop n).length=st.length+1:=by rw [ZH,ZP,List.length_take,ZZ];omega
 rw [e5,e6] at h5;cases n with
 |zero=>
  refine ⟨_,_,.slice .nil 1 [],G,.slice (.own G.length) 1 [rowS (w,1)],G++[.tok 1 aE],h1,h2,by simp [rap,xE,uq,nj],by simp [rap,xE,uq,nj,AV.cell,AV.strip,rowS,bJ], ?_⟩;simpa using h5
 |succ k=>
  have h0:st.take (k+1)≠[]:=fun e=>by
   have:=congrArg List.length e;rw [List.length_take,List.length_nil] at this;omega
  have h3:=V5 (row:=rowS) (m:=st.take (k+1)) (tg:=t1) (sz:=1) (bytes:=16) (e:=aE) G h0 (hm _) (hs _) (by simp;omega) (by simp;omega);have h4:=GQ (row:=rowS) (l:=st.take (k+1)) (x:=(w,1)) (r:=[.str w]) (sz:=1) (bytes:=16) (e:=aE) G [] rfl rfl rfl (by simp;omega) (by simp;omega);exact ⟨_,_,_,_,_,_,h1,h2,h3,h4,h5⟩
def zl(id:Nat)(st:List (Str×Nat)):AV:=match st with
 |[]=>.slice .nil 1 []
 |x::l=>.rslice id 0 (x::l).length 1 true
def Ei(b:Nat)(G:List AObj)(id:Nat)(st:List (Str×Nat)):Prop:=st=[]∨(b≤id∧G[id]?=some (.cells (rZ st) uR))
theorem GU:∀ (n:Nat) (cs:List AV),n≤cs.length→lr 1 n cs=(cs.take n).map fun c=>[c]
 |0,_,_=>by simp [lr]
 |n+1,[],h=>by simp at h
 |n+1,c::cs,h=>by
  have:=GU n cs (by simpa using h);rw [List.take_succ_cons,ZQ,← this];rfl
theorem W9(cs:List AV):(cs.map fun c=>[c]).flatten=cs:=by
 induction cs with
 |nil=>rfl
 |cons c cs ih=>simp [ih]
def MO(N:Nat)(v:AV)(G:List AObj)(cs:List AV):Prop:=(cs=[]∧v = .slice .full 1 [])∨∃ i,N≤i∧v = .rslice i 0 cs.length 1 true∧G[i]?=some (.cells cs uR)
theorem apM{N:Nat}{v x:AV}{G:List AObj}{cs new:List AV}(h:MO N v G cs)(hN:N≤G.length)(hx:uq G 1 false x=some (new.map fun c=>[c]))(hc:∀ c∈new,c.cell=true)(hl:cs.length+new.length≤20000) :
  ∃ v' G',rap true G uR 1 8 false v x=some (v',G')∧MO N v' G' (cs++new)∧N≤G'.length∧∀ i,i<N→G'[i]?=G[i]? := by
 have hr:nj 1 (new.map fun c=>[c])=true:=by simpa [nj] using hc
 rcases h with ⟨rfl,rfl⟩ | ⟨i,hi,rfl,hg⟩
 ·simp only [rap,A8,hx,hr,if_true,List.length_nil,List.length_map,Nat.zero_add,true_or,true_and,List.nil_append]
  cases new with
  |nil=>exact ⟨_,G,by simp,.inl ⟨rfl,rfl⟩,hN,fun _ _=>rfl⟩
  |cons c l=>
   rw [if_pos ⟨by simp at hl ⊢;omega,by simp at hl ⊢;omega,by simp⟩,W9];refine ⟨_,_,rfl,.inr ⟨G.length,hN,rfl,by simp⟩,by simp;omega,fun i hi => ?_⟩;rw [ZE (by omega)]
 ·simp only [rap,A8,hx,hr,if_true,hg,List.length_map,true_and,Nat.mul_one]
  rw [if_pos ⟨ZO _,by omega,by omega⟩,W9,List.take_length];refine ⟨_,_,rfl,.inr ⟨G.length,hN,by rw [List.length_append], ?_⟩,by simp;omega,fun j hj => ?_⟩
  ·rw [List.getElem?_append_right (by simp)];simp
  ·rw [List.getElem?_append_left (by simp;omega),List.getElem?_set_ne (by omega)]
theorem KS(l:List (Str×Nat)):∀ c∈rZ l,c.cell=true:=fun c hc=>by
 obtain ⟨x,_,rfl⟩:=ZW.1 hc;rfl
theorem UB{b:Nat}{G:List AObj}{id:Nat}{st:List (Str×Nat)}(hm:Ei b G id st)(hb:b≤G.length)(hl:st.length≤10000){n:Nat}(hn:n≤st.length)(w:Str) :
  ∃ b1 b2 v1 G1 v2 G2 id' G3,yq 1 (zl id st) none (some (.int .i64 (n:Int))) none=some b1∧yq 1 (zl id st) (some (.int .i64 (n:Int))) none none=some b2 ∧
   rap true G uR 1 8 false (.slice .nil 1 []) b1=some (v1,G1)∧rap true G1 uR 1 8 false v1 (.slice .full 1 [[.int .i64 1]])=some (v2,G2) ∧
   rap true G2 uR 1 8 false v2 b2=some (zl id' (st.take n++(w,1)::st.drop n),G3)∧Ei b G3 id' (st.take n++(w,1)::st.drop n) ∧
   b≤G3.length∧∀ i,i<b→G3[i]?=G[i]? := by
 obtain ⟨b1,h1,k1⟩:∃ b1,yq 1 (zl id st) none (some (.int .i64 (n:Int))) none=some b1∧uq G 1 false b1=some ((rZ (st.take n)).map fun c=>[c]):=by
  cases st with
  |nil=>
   have:n=0:=by simpa using hn
   subst this;exact ⟨_,rfl,rfl⟩
  |cons x l=>
   rcases hm with h | ⟨hid,hg⟩
   ·cases h
   refine ⟨.rslice id 0 n 1 true, ?_, ?_⟩
   ·simp only [zl,yq,BS,BU]
    rw [if_pos (by simp at hn ⊢;omega)];simp
   ·simp only [uq,hg]
    have hcl:(rZ (x::l)).length=(x::l).length:=by simp [rZ]
    rw [if_pos (by simp at hcl hn ⊢;omega),List.drop_zero,GU _ _ (by omega)];simp [rZ,List.map_take]
 have h2:∃ b2,yq 1 (zl id st) (some (.int .i64 (n:Int))) none none=some b2∧∀ G2:List AObj,(∀ i,i<G.length→G2[i]?=G[i]?)→uq G2 1 false b2=some ((rZ (st.drop n)).map fun c=>[c]):=by
  cases st with
  |nil=>
   have:n=0:=by simpa using hn
   subst this;exact ⟨_,rfl,fun _ _=>rfl⟩
  |cons x l=>
   rcases hm with h | ⟨hid,hg⟩
   ·cases h
   have hcl:(rZ (x::l)).length=(x::l).length:=by simp [rZ]
   by_cases hlt:n<(x::l).length
   ·refine ⟨.rslice id n ((x::l).length-n) 1 true, ?_,fun G2 hk => ?_⟩
    ·simp only [zl,yq,BS,BU]
     rw [if_pos ⟨trivial,.inl hlt,ZO _⟩];simp
    ·have hg2:G2[id]?=some (.cells (rZ (x::l)) uR):=by rw [hk id (ZB.1 hg).1];exact hg
     simp only [uq,hg2];rw [if_pos ⟨trivial,by omega⟩,GU _ _ (by rw [ZZ];omega),List.take_of_length_le (by rw [ZZ];omega)];simp [rZ,List.map_drop]
   ·have e:n=(x::l).length:=by omega
    refine ⟨.slice .any 1 [], ?_,fun G2 _ => ?_⟩
    ·simp only [zl,yq,BS,BU]
     rw [if_neg (by simp;simp at e;omega),if_pos ⟨trivial,e,Nat.le_refl _⟩]
    ·rw [e,List.drop_length];rfl
 obtain ⟨b2,h2,k2⟩:=h2;have hcl:∀ l:List (Str×Nat),(rZ l).length=l.length:=fun l=>by simp [rZ]
 obtain ⟨v1,G1,e1,m1,n1,q1⟩:=apM (N:=G.length) (v:=.slice .full 1 []) (.inl ⟨rfl,rfl⟩) (Nat.le_refl _) k1 (KS _) (by rw [hcl];simp;omega);obtain ⟨v2,G2,e2,m2,n2,q2⟩:=apM m1 n1 (x:=.slice .full 1 [[.int .i64 1]]) (new:=[.int .i64 1]) (by rfl) (by simp [AV.cell]) (by simp [rZ];omega);obtain ⟨v3,G3,e3,m3,n3,q3⟩:=apM m2 n2 (k2 G2 fun i hi=>by rw [q2 i hi,q1 i hi]) (KS _) (by simp [rZ];omega);have ec:[]++rZ (st.take n)++[AV.int .i64 1]++rZ (st.drop n)=rZ (st.take n++(w,1)::st.drop n):=by simp [rZ]
 rw [ec] at m3;rcases m3 with ⟨h,_⟩ | ⟨id',hid,rfl,hg⟩
 ·have:=congrArg List.length h
  simp [rZ] at this
 ·refine ⟨b1,b2,v1,G1,v2,G2,id',G3,h1,h2,e1,e2, ?_,.inr ⟨by omega,hg⟩,by omega,fun i hi=>by rw [q3 i (by omega),q2 i (by omega),q1 i (by omega)]⟩
  rw [e3,hcl];cases hs:st.take n++(w,1)::st.drop n with
  |nil=>simp at hs
  |cons y m=>rfl
end
section
attribute [local congr] al br aJ ao aH aA aq ah aj aC aD
variable{E:aX}(M:bR bN E)
def uD:List Str→List (Str×Nat)→List (Str×Nat)
 |[],st=>st
 |w::ws,st=>uD ws (if (w == [])=true then st else tZ w st)
def Few(B:Nat)(st:List (Str×Nat)):Prop:=st.length≤B∧∀ x∈st,x.2≤B
theorem QO{B:Nat}{st:List (Str×Nat)}(h:Few B st)(w:Str):Few (B+1) (tZ w st):=by
 have h1:∀ l:List (Str×Nat),(tZ w l).length≤l.length+1∧∀ B,(∀ x∈l,x.2≤B)→∀ x∈tZ w l,x.2≤B+1:=fun l=>by
  induction l with
  |nil=>
   refine ⟨ZO _,fun B _ x hx => ?_⟩;simp only [tZ,List.mem_singleton] at hx;subst hx;show 1≤B+1;omega
  |cons y l ih=>
   rw [tZ];refine ⟨?_,fun B hB x hx => ?_⟩
   ·split
    ·simp only [List.length_cons];omega
    ·split<;>simp
   ·split at hx
    ·rcases ZY.1 hx with rfl | hx
     ·have:=hB _ (List.mem_cons_self ..);omega
     ·exact ih.2 B (fun z hz=>hB z (List.mem_cons_of_mem _ hz)) x hx
    ·split at hx
     ·rcases ZY.1 hx with rfl | hx
      ·have:=hB _ (List.mem_cons_self ..);show y.2+1≤B+1;omega
      ·have:=hB x (List.mem_cons_of_mem _ hx);omega
     ·rcases ZY.1 hx with rfl | hx
      ·show 1≤B+1;omega
      ·have:=hB x hx;omega
 exact ⟨by have:=(h1 st).1;have:=h.1;omega,(h1 st).2 B h.2⟩
theorem BV{B B':Nat}{st:List (Str×Nat)}(h:Few B st)(hb:B≤B'):Few B' st:=⟨ZU h.1 hb,fun x hx=>ZU (h.2 x hx) hb⟩
theorem Mk{id:Nat}{st:List (Str×Nat)}(h:st≠[]):zl id st = .rslice id 0 st.length 1 true:=by
 cases st with
 |nil=>exact absurd rfl h
 |cons x l=>rfl
theorem QP(a:Env)(e:TypeId)(sz n by_:Nat)(str:Bool)(x:RX)(T L:List Nat):mW false .keep a (.ap false e sz by_ str (.c (.slice .nil n [])) x) T L=some (T,L):=rfl
theorem Ws{id L k:Nat}(hk:k<L):Eu 1 (.rslice id 0 L 1 true) (.int .i64 (k:Int))=some (.ptr id k):=by
 simp only [Eu];rw [if_pos ⟨trivial,by omega,by omega⟩];simp
theorem rw0{st:List (Str×Nat)}{tg:Tag}{w:Str}(hl:st.length≤10000){a5 a6 a7 a8:AV}{H0:List AObj}(k:List Fra):∀ (n i:Nat) (G He:List AObj),i+n=st.length →
  M.go cg H0 (.c eQ :: .lp ⟨(some [4,5,6,7,8,9,10]),[],false⟩ eQ He :: .blk 4 :: .c (.lv [4,5,6,7,8,9,10])::k) (kv [(4,.slice tg 1 (st.map rowS)),(5,a5),(6,a6),(7,a7),(8,a8),(9,.str w),(10,.int .i64 i)]) G =
   M.go cg H0 k (kv [(4,.slice tg 1 (st.map rowS)),(5,a5),(6,a6),(7,a7),(8,a8),(9,.str w),(10,.int .i64 ((i+kW w (st.drop i):Nat):Int))]) G
 |0,i,G,He,h=>by
  have e:i=st.length:=by omega
  subst e;rw [List.drop_length,kW,Nat.add_zero];rw [ag M eQ.eq_1];simp (maxSteps:=3000000) (maxDischargeDepth:=6) +contextual -implicitDefEqProofs only [amC M,↓amD,Nat.reduceBEq,Nat.reduceAdd,env,ab,cj,Nat.lt_irrefl]
 |n+1,i,G,He,h=>by
  have hi:i<st.length:=by omega
  have hx:st[i]?=some st[i]:=ZC hi;have hd:st.drop i=st[i]::st.drop (i+1):=ZD hi;rw [hd,kW];generalize st[i]=x at hx;have hws:=aZ hi (show st.length≤aQ by simp only [aQ];omega);cases hb:Op.bytesLess x.1 w with
  |true=>
   have ih:=fun He=>rw0 (tg:=tg) (w:=w) hl (a5:=a5) (a6:=a6) (a7:=a7) (a8:=a8) (H0:=H0) k n (i+1) G He (by omega)
   rw [show i+1+kW w (st.drop (i+1))=i+(kW w (st.drop (i+1))+1) by omega] at ih;simp only [kv_cons,kv_nil,if_true] at ih ⊢;rw [ag M eQ.eq_1];simp (maxSteps:=3000000) (maxDischargeDepth:=6) +contextual -implicitDefEqProofs only [amC M,↓amD,Nat.reduceBEq,Nat.reduceAdd,env,ab,cj,hi,hx,aF hi,rowS,bJ,hb,ih,hws]
  |false=>
   simp only [kv_cons,kv_nil,Bool.false_eq_true,if_false,Nat.add_zero];rw [ag M eQ.eq_1];simp (maxSteps:=3000000) (maxDischargeDepth:=6) +contextual -implicitDefEqProofs only [amC M,↓amD,Nat.reduceBEq,Nat.reduceAdd,env,ab,cj,hi,hx,aF hi,rowS,bJ,hb]
theorem rw1{fs:List (List Str)}{ws:List Str}{i7:Nat}(hf:fs[i7]?=some ws)(hfl:fs.length≤10000)(hwl:ws.length≤10000){b:Nat}{H0:List AObj}:∀ (n i B:Nat) (G:List AObj) (st:List (Str×Nat)) (tg:Tag) (id:Nat),i+n=ws.length→Few B st→B+n≤10000→tg≠.some→Ei b G id st→b≤G.length →
  ∃ G' tg' id',Ei b G' id' (uD (ws.drop i) st)∧tg'≠.some∧b≤G'.length∧(∀ j,j<b→G'[j]?=G[j]?)∧Few (B+n) (uD (ws.drop i) st)∧∀ (k:List Fra) (He:List AObj),
  M.go cg H0 (.c cN :: .lp ⟨(some [4,5,6,7,8]),[],false⟩ cN He :: .blk 2 :: .c (.lv [4,5,6,7])::k) (kv [(4,.slice tg 1 (st.map rowS)),(5,zl id st),(6,.slice .any 1 (fs.map l6)),(7,.int .i64 i7),(8,.int .i64 i)]) G =
   M.go cg H0 k (kv [(4,.slice tg' 1 ((uD (ws.drop i) st).map rowS)),(5,zl id' (uD (ws.drop i) st)),(6,.slice .any 1 (fs.map l6)),(7,.int .i64 i7)]) G'
 |0,i,B,G,st,tg,id,h,hB,hB2,ht,hm,hb=>by
  have e:i=ws.length:=by omega
  subst e;rw [List.drop_length,uD];refine ⟨G,tg,id,hm,ht,hb,fun _ _=>rfl,hB,fun k He => ?_⟩;have hi7:i7<fs.length:=(ZB.1 hf).1;rw [ag M cN.eq_1];simp (maxSteps:=3000000) (maxDischargeDepth:=6) +contextual -implicitDefEqProofs only [amC M,↓amD,Nat.reduceBEq,Nat.reduceAdd,env,ab,cj,Nat.lt_irrefl,hf,hi7,aF hi7,l6]
 |n+1,i,B,G,st,tg,id,h,hB,hB2,ht,hm,hb=>by
  have hi:i<ws.length:=by omega
  have hx:ws[i]?=some ws[i]:=ZC hi;have hd:ws.drop i=ws[i]::ws.drop (i+1):=ZD hi;have hi7:i7<fs.length:=(ZB.1 hf).1;rw [hd,uD];generalize ws[i]=w at hx;have hws:=aZ hi (show ws.length≤aQ by simp only [aQ];omega);cases he:w == [] with
  |true=>
   obtain ⟨G',tg',id',k1,k2,k3,k4,k5,ih⟩:=rw1 hf hfl hwl (H0:=H0) n (i+1) B G st tg id (by omega) hB (by omega) ht hm hb;simp only [if_true];refine ⟨G',tg',id',k1,k2,k3,k4,BV k5 (by omega),fun k He => ?_⟩;have ih:=ih k;simp only [kv_cons,kv_nil] at ih ⊢;rw [ag M cN.eq_1];simp (maxSteps:=3000000) (maxDischargeDepth:=6) +contextual -implicitDefEqProofs only [amC M,↓amD,Nat.reduceBEq,Nat.reduceAdd,env,ab,cj,hi,hi7,hf,hx,aF hi,aF hi7,l6,bJ,he,ih,hws]
  |false=>
   simp only [Bool.false_eq_true,if_false];have hkl:=W8 w st;have hsl:=hB.1;have hsc:=fun k He=>rw0 M (st:=st) (tg:=tg) (w:=w) (by omega) (a5:=zl id st) (a6:=.slice .any 1 (fs.map l6)) (a7:=.int .i64 i7) (a8:=.int .i64 i) (H0:=H0) k st.length 0 G He (by omega)
   simp only [Int.ofNat_zero,List.drop_zero,Nat.zero_add] at hsc
   have hins:(∀ x,st[kW w st]?=some x→(x.1 == w)=false)→tZ w st=st.take (kW w st)++(w,1)::st.drop (kW w st):=fun hno=>by
    rw [Mi];split
    ·rename_i x hx2
     rw [hno x hx2];rfl
    ·rfl
   have hset:=fun x (hx:st[kW w st]?=some x) (h:(x.1 == w)=true)=>(show tZ w st=st.set (kW w st) (w,x.2+1) by rw [Mi,hx];simp only;rw [if_pos h])
   have hfw:=QO hB w;generalize kW w st=c at hkl hsc hins hset
   have key:(∀ x,st[c]?=some x→(x.1 == w)=false)→∃ G' tg' id',Ei b G' id' (uD (ws.drop (i+1)) (tZ w st))∧tg'≠.some∧b≤G'.length∧(∀ j,j<b→G'[j]?=G[j]?)∧Few (B+(n+1)) (uD (ws.drop (i+1)) (tZ w st))∧∀ (k:List Fra) (He:List AObj),
     M.go cg H0 (.c cN :: .lp ⟨(some [4,5,6,7,8]),[],false⟩ cN He :: .blk 2 :: .c (.lv [4,5,6,7])::k) (kv [(4,.slice tg 1 (st.map rowS)),(5,zl id st),(6,.slice .any 1 (fs.map l6)),(7,.int .i64 i7),(8,.int .i64 i)]) G =
     M.go cg H0 k (kv [(4,.slice tg' 1 ((uD (ws.drop (i+1)) (tZ w st)).map rowS)),(5,zl id' (uD (ws.drop (i+1)) (tZ w st))),(6,.slice .any 1 (fs.map l6)),(7,.int .i64 i7)]) G':=fun hno=>by
    have hin:=hins hno;obtain ⟨b1,b2,u1,G1,u2,G2,e1,e2,e3,e4,e5⟩:=Sf ht (by omega) hkl w G;have hb':b≤(G++[AObj.tok ((st.length+1)*1) aE]).length:=by simp;omega
    have hm':Ei b (G++[AObj.tok ((st.length+1)*1) aE]) id st:=by
     rcases hm with h | ⟨h1,h2⟩
     ·exact .inl h
     ·exact .inr ⟨h1,by rw [ZE (ZB.1 h2).1];exact h2⟩
    obtain ⟨c1,c2,v1,K1,v2,K2,id2,K3,m1,m2,m3,m4,m5,m6,m7,m8⟩:=UB hm' hb' (by omega) hkl w;rw [← hin] at e5 m5 m6;obtain ⟨G',tg',id',k1,k2,k3,k4,k5,ih⟩:=rw1 hf hfl hwl (H0:=H0) n (i+1) (B+1) K3 (tZ w st) (.own G.length) id2 (by omega) hfw (by omega) (by simp) m6 m7;refine ⟨G',tg',id',k1,k2,k3,fun j hj => ?_,BV k5 (by omega),fun k He => ?_⟩
    ·rw [k4 j hj,m8 j hj,ZE (by omega)]
    have ih:=ih k;simp only [kv_cons,kv_nil] at ih hsc ⊢;rw [ag M cN.eq_1];cases hlt:decide (c<st.length) with
    |false=>
     have hnl:¬ c<st.length:=of_decide_eq_false hlt;simp (maxSteps:=3000000) (maxDischargeDepth:=6) +contextual -implicitDefEqProofs only [amC M,↓amD,Nat.reduceBEq,Nat.reduceAdd,env,ab,cj,amG,AV.cell,Nat.reduceMul,Nat.reduceLeDiff,hi,hi7,hf,hx,aF hi,aF hi7,l6,bJ,he,hsc,ih,hws,hlt,hnl,QP,e1,e2,e3,e4,e5,m1,m2,m3,m4,m5]
    |true=>
     have hlt2:c<st.length:=of_decide_eq_true hlt;have hcx:st[c]?=some st[c]:=ZC hlt2;have hne:=hno _ hcx;generalize st[c]=x at hcx hne;simp (maxSteps:=3000000) (maxDischargeDepth:=6) +contextual -implicitDefEqProofs only [amC M,↓amD,Nat.reduceBEq,Nat.reduceAdd,env,ab,cj,amG,AV.cell,Nat.reduceMul,Nat.reduceLeDiff,hi,hi7,hf,hx,aF hi,aF hi7,l6,bJ,he,hsc,ih,hws,hlt,hlt2,hcx,aF hlt2,rowS,hne,QP,e1,e2,e3,e4,e5,m1,m2,m3,m4,m5]
   cases hc:st[c]? with
   |none=>exact key fun x h=>by rw [hc] at h;cases h
   |some x=>
    cases hxe:x.1 == w with
    |false=>exact key fun y h=>by rw [hc] at h;cases h;exact hxe
    |true=>
     have hlt2:c<st.length:=(ZB.1 hc).1;have hlt:decide (c<st.length)=true:=decide_eq_true hlt2;have hne:st≠[]:=fun e=>by rw [e] at hlt2;simp at hlt2
     rcases hm with h | ⟨hid,hg⟩
     ·exact absurd h hne
     have hsw:=hset x hc hxe;have hw:=eq_of_beq hxe;have hcc:(rZ st)[c]?=some (.int .i64 (x.2:Int)):=by simp [rZ,hc]
     have hld:=jW hcc;have hx2:=hB.2 x (ZG hc);have hw1:IntKind.i64.wrap ((x.2:Int)+1)=((x.2+1:Nat):Int):=by rw [dZ (by omega) (by omega)];omega
     have hst:=yf (o:=c) (v:=.int .i64 ((x.2+1:Nat):Int)) hg (by simp [rZ];exact hlt2) rfl;rw [hg] at hst;have hcs:(rZ st).set c (.int .i64 ((x.2+1:Nat):Int))=rZ (tZ w st):=by rw [hsw];simp [rZ,List.map_set]
     rw [hcs] at hst
     have hrw:(tZ w st).map rowS=st.map rowS:=by
      rw [hsw,List.map_set];apply List.ext_getElem?;intro j
      by_cases ej:j=c
      ·subst ej
       rw [List.getElem?_set_self (by simpa using hlt2),List.getElem?_map,hc];simp [rowS,hw]
      ·rw [ZR (Ne.symm ej)]
     have hmv:=Mk (id:=id) hne
     have hmv2:zl id (tZ w st) = .rslice id 0 st.length 1 true:=by
      rw [Mk (fun e=>by rw [hsw] at e;have:=congrArg List.length e;simp at this;exact hne this),hsw,List.length_set]
     have hilt:=(ZB.1 hg).1;have hm2:Ei b (G.set id (.cells (rZ (tZ w st)) uR)) id (tZ w st):=.inr ⟨hid,ZS hilt⟩;obtain ⟨G',tg',id',k1,k2,k3,k4,k5,ih⟩:=rw1 hf hfl hwl (H0:=H0) n (i+1) (B+1) _ (tZ w st) tg id (by omega) hfw (by omega) ht hm2 (by simpa using hb);refine ⟨G',tg',id',k1,k2,by simpa using k3,fun j hj => ?_,BV k5 (by omega),fun k He => ?_⟩
     ·rw [k4 j hj,ZR (by omega)]
     have ih:=ih k;rw [hrw,hmv2] at ih;rw [hmv] at hsc ⊢;simp only [kv_cons,kv_nil] at ih hsc ⊢;rw [ag M cN.eq_1];simp (maxSteps:=3000000) (maxDischargeDepth:=6) +contextual -implicitDefEqProofs only [amC M,↓amD,Nat.reduceBEq,Nat.reduceAdd,env,ab,cj,amG,AV.cell,Nat.reduceMul,Nat.reduceLeDiff,hi,hi7,hf,hx,aF hi,aF hi7,l6,bJ,he,hsc,ih,hws,hlt,hlt2,hc,aF hlt2,Ws hlt2,rowS,hxe,hg,hld,hw1,hst]
theorem rw2{fs:List (List Str)}(hfl:fs.length≤130)(hwl:∀ ws∈fs,ws.length≤50){b:Nat}{H0:List AObj}:∀ (n i B:Nat) (G:List AObj) (st:List (Str×Nat)) (tg:Tag) (id:Nat),i+n=fs.length→Few B st→B+50*n≤10000→tg≠.some→Ei b G id st→b≤G.length →
  ∃ G' tg' id',Ei b G' id' ((fs.drop i).foldl (fun st ws=>uD ws st) st)∧b≤G'.length∧(∀ j,j<b→G'[j]?=G[j]?)∧Few 10000 ((fs.drop i).foldl (fun st ws=>uD ws st) st)∧∀ (k:List Fra) (He:List AObj),
  M.go cg H0 (.c im :: .lp ⟨(some [4,5,6,7]),[],false⟩ im He :: .blk 0 :: .c (.lv [4,5])::k) (kv [(4,.slice tg 1 (st.map rowS)),(5,zl id st),(6,.slice .any 1 (fs.map l6)),(7,.int .i64 i)]) G =
   M.go cg H0 k (kv [(4,.slice tg' 1 (((fs.drop i).foldl (fun st ws=>uD ws st) st).map rowS)),(5,zl id' ((fs.drop i).foldl (fun st ws=>uD ws st) st))]) G'
 |0,i,B,G,st,tg,id,h,hB,hB2,ht,hm,hb=>by
  have e:i=fs.length:=by omega
  subst e;rw [List.drop_length,List.foldl_nil];refine ⟨G,tg,id,hm,hb,fun _ _=>rfl,BV hB (by omega),fun k He => ?_⟩;rw [ag M im.eq_1];simp (maxSteps:=3000000) (maxDischargeDepth:=6) +contextual -implicitDefEqProofs only [amC M,↓amD,Nat.reduceBEq,Nat.reduceAdd,env,ab,cj,Nat.lt_irrefl]
 |n+1,i,B,G,st,tg,id,h,hB,hB2,ht,hm,hb=>by
  have hi:i<fs.length:=by omega
  have hx:fs[i]?=some fs[i]:=ZC hi;have hd:fs.drop i=fs[i]::fs.drop (i+1):=ZD hi;have hwl2:=hwl _ (ZJ hi);rw [hd,List.foldl_cons];generalize fs[i]=ws at hx hwl2;have hws:=aZ hi (show fs.length≤aQ by simp only [aQ];omega);obtain ⟨G1,tg1,id1,k1,k2,k3,k4,k5,hin⟩:=rw1 M hx (by omega) (by omega) (H0:=H0) ws.length 0 B G st tg id (by omega) hB (by omega) ht hm hb;rw [List.drop_zero] at k1 k5 hin;obtain ⟨G',tg',id',j1,j2,j3,j4,ih⟩:=rw2 hfl hwl (H0:=H0) n (i+1) (B+ws.length) G1 _ tg1 id1 (by omega) k5 (by omega) k2 k1 k3
  refine ⟨G',tg',id',j1,j2,fun j hj=>by rw [j3 j hj,k4 j hj],j4,fun k He => ?_⟩;have ih:=ih k;simp only [kv_cons,kv_nil,Int.ofNat_zero] at ih hin ⊢;rw [ag M im.eq_1];simp (maxSteps:=3000000) (maxDischargeDepth:=6) +contextual -implicitDefEqProofs only [amC M,↓amD,Nat.reduceBEq,Nat.reduceAdd,env,ab,cj,amG,AV.cell,Nat.reduceMul,Nat.reduceLeDiff,hi,ih,hin,hws]
theorem PO(hN:bu E)(hR:V4 E)(hE2:uB E)(hQ:Cn E)(hF:ui E)(hZ:PN E){l:Lex}(hl:l.ok 0)(hk:c7 l=0)(hfl:(yd l l.entries.l).length≤130)(hwl:∀ ws∈yd l l.entries.l,ws.length≤50)(H:List AObj) :
  M.run lL [.agg l.row] H=some (.ret (.tuple [.slice .any 1 (((yd l l.entries.l).foldl (fun st ws=>uD ws st) []).map rowS),.slice .any 1 ((rZ ((yd l l.entries.l).foldl (fun st ws=>uD ws st) [])).map fun c=>[c])]),H):=by
 rw [aN M hZ.ref rfl (c:=pJ) rfl,pJ];have ha:=fun H=>Ue M hN hR hE2 hQ hF hl hk H
 generalize yd l l.entries.l=fs at hfl hwl ha ⊢;obtain ⟨G',tg',id',j1,j2,j3,j4,h2⟩:=rw2 M hfl hwl (b:=H.length) (H0:=H) fs.length 0 0 (H++[.cells l.row ae]) [] .nil 0 (by omega) ⟨Nat.le_refl _,fun _ h=>by cases h⟩ (by omega) (by simp) (.inl rfl) (by simp);rw [List.drop_zero] at j1 j4 h2;generalize fs.foldl (fun st ws=>uD ws st) []=st at j1 j4 h2 ⊢
 have htake:G'.take H.length=H:=by
  apply List.ext_getElem?;intro i
  by_cases hi:i<H.length
  ·rw [List.getElem?_take_of_lt hi,j3 i hi,ZE hi]
  ·rw [List.getElem?_eq_none (by simp;omega),List.getElem?_eq_none (by omega)]
 have hfz:wA bN .frz H G' (.tuple [.slice tg' 1 (st.map rowS),zl id' st])=some (.tuple [.slice .any 1 (st.map rowS),.slice .any 1 ((rZ st).map fun c=>[c])],H):=by
  rcases j1 with rfl | ⟨h1,hg⟩
  ·have:=Bj (tg:=tg') (tg2:=.nil) (H0:=H) (H1:=G') ⟨j2,fun i x hlt h=>.inl (by rw [← htake,List.getElem?_take_of_lt hlt];exact h)⟩
   rw [htake] at this;exact this
  ·by_cases hne:st=[]
   ·subst hne
    have:=Bj (tg:=tg') (tg2:=.nil) (H0:=H) (H1:=G') ⟨j2,fun i x hlt h=>.inl (by rw [← htake,List.getElem?_take_of_lt hlt];exact h)⟩;rw [htake] at this;exact this
   ·have hcl:(rZ st).length=st.length:=by simp [rZ]
    rw [Mk hne,HP h1 hg j2 htake (by omega) (fun c hc=>by
     obtain ⟨x,_,rfl⟩:=ZW.1 hc;exact wk_int _ _ _) (by rw [rowsWk_map];exact fun x _=>⟨wk_str _ _,trivial⟩),GU _ _ (by omega),← hcl,List.take_length]
 have hm0:zl 0 [] = .slice .nil 1 []:=rfl;generalize zl id' st=mv at h2 hfz;simp only [kv_cons,kv_nil,Int.ofNat_zero,List.map_nil,hm0] at h2;simp (maxSteps:=3000000) (maxDischargeDepth:=6) +contextual -implicitDefEqProofs only [amC M,↓amD,Nat.reduceBEq,Nat.reduceAdd,env,ab,cj,amG,AV.cell,Nat.reduceMul,Nat.reduceLeDiff,ha,h2,hfz,bH]
end
end Go.Am
