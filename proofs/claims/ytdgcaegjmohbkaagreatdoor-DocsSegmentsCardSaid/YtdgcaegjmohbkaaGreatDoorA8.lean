import Derived.Test.YtdgcaegjmohbkaaGreatDoorA7
import Derived.Test.YtdgcaegjmohbkaaGreatDoorChecked
import Derived.Shelf.Unicode.DecodeAny
import Derived.Lib.LaidU8T
import Derived.KernelRfl
/-
  Part 8 of the tool: an abstract machine over the model, proved sound, and what it says of the functions that the law reaches. Condition: none but those that each theorem names.
-/
set_option linter.unusedVariables false
set_option linter.unusedSimpArgs false
set_option maxRecDepth 100000
set_option maxHeartbeats 4000000
namespace Go.Am
open Go.RowKit
section
attribute [local congr] aI bR aZ aJ aY aR aK aC aD aS aT
variable{E:bG}(M:cJ cM E)
theorem Jb{bl:List aF}{pv:Option Int}{s:bq} (c4:(match pv with
  |none=>false
  |some q=>decide (s.block<q))=false) (c1:decide (s.block<0)=false) (c2:decide ((bl.length:Int)≤s.block)=false) (c3:I8 bl s.block=false):xV bl pv s=false:=by
 unfold xV;rw [c1,c2,c3];cases pv with
 |none=>rfl
 |some q=>exact c4
theorem Ll(s:bq):[AV.slice s.pieces.tag.strip 3 (s.pieces.l.map ag.row)].map AV.strip=dD (prt s):=by
 rw [List.map_cons,List.map_nil,ec,Bs];rfl
theorem Jc{f:Nat→List (Sl ag)}{q:Nat}{s:bq}(hq:s.block=(q:Int))(l:List bq) :
  (fun j=>(if j=q then f q++[prt s] else f j)++bF (j:Int) l)=fun j=>f j++bF (j:Int) (s::l):=by
 funext j;rw [z8,hq]
 by_cases h:j=q
 ·subst h;rw [if_pos rfl,beq_self_eq_true,sel_true];simp
 ·rw [if_neg h,beq_eq_false_iff_ne.2 (fun e=>h (by omega)),sel_false];rfl
theorem dr0{sl:List bq}{ts tg:Tag}(hsl:sl.length≤1000000){bl:List aF}(hbl:bl.length≤1000000){H0:List AObj}{R:Nat→Prop}(hR0:∀ j,j<H0.length→R j){p r P:Nat}(hRp:R p)(hRr:R r):∀ (n i:Nat) (G:List AObj) (f:Nat→List (Sl ag)) (vs:List AV),i+n=sl.length→(∀ k,(f k).length≤i)→ru R G P bl.length f vs →
  G[p]?=some (.cells [.slice tg 2 (bl.map aF.row)] ae)→G[r]?=some (.cells [.slice .nil 2 []] ae)→(∀ j,R j→j<G.length)→H0.length≤G.length→(∀ m,m<H0.length→G[m]?=H0[m]?) →
  ∃ G' vs',(∀ (k:List Fra) (He:List AObj),M.go cS H0 (.c bB :: .lp ⟨(some [1,2,4,7,27,28,29]),[],false⟩ bB He :: .blk 0 :: .c (.lv [2,4,7])::k) (kv [(1,.slice ts 2 (sl.map bq.row)),(2,.ptr p 0),(4,.ptr r 0),(7,.rslice P 0 bl.length 1 true),(27,.slice ts 2 (sl.map bq.row)),(28,.int .i64 sl.length),(29,.int .i64 i)]) G =
   sel (z7 bl (vS sl i) (sl.drop i)) (some (.ret (.tuple [.agg [.slice .nil 2 []],.int .u8 1]),H0)) (M.go cS H0 k (kv [(2,.ptr p 0),(4,.ptr r 0),(7,.rslice P 0 bl.length 1 true)]) G')) ∧
   (z7 bl (vS sl i) (sl.drop i)=false→ru R G' P bl.length (fun k=>f k++bF (k:Int) (sl.drop i)) vs'∧G.length≤G'.length∧∀ m,R m→G'[m]?=G[m]?)
 |0,i,G,f,vs,h,hf,hp,hgp,hgr,hRl,hl,hlow=>by
  have e:i=sl.length:=by omega
  subst e;refine ⟨G,vs,fun k He => ?_,fun _=>⟨?_,Nat.le_refl _,fun _ _=>rfl⟩⟩
  ·rw [List.drop_length,z7,sel_false]
   rw [ak M bB.eq_1];simp (maxSteps:=3000000) (maxDischargeDepth:=6) +contextual -implicitDefEqProofs only [amC M,↓amD,Nat.reduceBEq,Nat.reduceAdd,env,aj,bp,Nat.lt_irrefl]
  ·rw [List.drop_length]
   simpa [bF] using hp
 |n+1,i,G,f,vs,h,hf,hp,hgp,hgr,hRl,hl,hlow=>by
  have hi:i<sl.length:=by omega
  have hx:sl[i]?=some sl[i]:=List.getElem?_eq_getElem hi;have hd:(sl.drop i)=sl[i]::sl.drop (i+1):=List.drop_eq_getElem_cons hi;have hwi:=bt (n:=sl.length) hi (by simp only [aX];omega);have hir:=aA (row:=bq.row) (tag:=ts) (sz:=2) (k:=.i64) hi;have hprv:vS sl (i+1)=some sl[i].block:=by simp [vS,hx]
  rw [hd,z7];generalize hss2:sl[i]=s at *
  have gx:=aL G [AObj.cells s.row aP];rw [List.getElem?_cons_zero] at gx;have hgp1:∀ X,(G++X)[p]?=_:=fun X=>bD hgp
  have hgr1:∀ X,(G++X)[r]?=_:=fun X=>bD hgr
  have hP1:∀ X,(G++X)[P]?=_:=fun X=>bD hp.cell
  have low1:∀ m,m<H0.length→(G++[AObj.cells s.row aP])[m]?=H0[m]? := fun m hm=>by rw [List.getElem?_append_left (by omega),hlow m hm]
  obtain ⟨hct,htk⟩:=rY (show H0.length≤(G++[AObj.cells s.row aP]).length by simp;omega) low1;have l1:∀ x:AV,bn none [x] 0=some x:=fun _=>rfl
  have hst:=stO_cells (sz:=1) (H:=G++[AObj.cells s.row aP]) (id:=r) (off:=0) (cs:=[.slice .nil 2 []]) (T:=ae) (old:=[.slice .nil 2 []]) rfl (by simp) rfl;have hss:bf [AV.slice .nil 2 []] 0 [.slice .nil 2 []]=[.slice .nil 2 []]:=rfl;rw [hss] at hst
  have hself:(G++[AObj.cells s.row aP]).set r (.cells [.slice .nil 2 []] ae)=G++[AObj.cells s.row aP]:=by
   refine List.ext_getElem? fun j => ?_
   by_cases hj:j=r
   ·subst hj;rw [List.getElem?_set_self (cg (hgr1 _)),hgr1]
   ·rw [List.getElem?_set_ne (fun e=>hj e.symm)]
  rw [hself] at hst;have hh:=Br hct 1;rw [htk] at hh
  have bad:∀ (hb:xV bl (vS sl i) s=true),(∀ (k:List Fra) (He:List AObj),M.go cS H0 (.c bB :: .lp ⟨(some [1,2,4,7,27,28,29]),[],false⟩ bB He :: .blk 0 :: .c (.lv [2,4,7])::k) (kv [(1,.slice ts 2 (sl.map bq.row)),(2,.ptr p 0),(4,.ptr r 0),(7,.rslice P 0 bl.length 1 true),(27,.slice ts 2 (sl.map bq.row)),(28,.int .i64 sl.length),(29,.int .i64 i)]) G=some (.ret (.tuple [.agg [.slice .nil 2 []],.int .u8 1]),H0))→∃ G' vs',(∀ (k:List Fra) (He:List AObj),M.go cS H0 (.c bB :: .lp ⟨(some [1,2,4,7,27,28,29]),[],false⟩ bB He :: .blk 0 :: .c (.lv [2,4,7])::k) (kv [(1,.slice ts 2 (sl.map bq.row)),(2,.ptr p 0),(4,.ptr r 0),(7,.rslice P 0 bl.length 1 true),(27,.slice ts 2 (sl.map bq.row)),(28,.int .i64 sl.length),(29,.int .i64 i)]) G =
    sel (xV bl (vS sl i) s||z7 bl (some s.block) (sl.drop (i+1))) (some (.ret (.tuple [.agg [.slice .nil 2 []],.int .u8 1]),H0)) (M.go cS H0 k (kv [(2,.ptr p 0),(4,.ptr r 0),(7,.rslice P 0 bl.length 1 true)]) G')) ∧
    ((xV bl (vS sl i) s||z7 bl (some s.block) (sl.drop (i+1)))=false→ru R G' P bl.length (fun k=>f k++bF (k:Int) (s::sl.drop (i+1))) vs'∧G.length≤G'.length∧∀ m,R m→G'[m]?=G[m]?):=fun hb hgo=>
   ⟨G,vs,fun k He=>by rw [hb,Bool.true_or,sel_true];exact hgo k He,fun e=>by rw [hb] at e;cases e⟩
  cases i with
  |zero=>
   have d3:decide ((0:Int)<((0:Nat):Int))=false:=rfl;cases c1:decide (s.block<0) with
   |true=>
    refine bad (by unfold xV;rw [c1];rfl) fun k He => ?_
    rw [ak M bB.eq_1];simp (maxSteps:=3000000) (maxDischargeDepth:=6) +contextual -implicitDefEqProofs only [amC M,↓amD,Nat.reduceBEq,Nat.reduceAdd,env,aj,bp,amG,AV.cell,Nat.reduceMul,Nat.reduceLeDiff,hi,hx,hss2,hir,hwi,ks,gx,d3,hgp1,hgr1,l1,ct,c1,hst,hss,hself,List.length_map,hh]
   |false=>
   cases c2:decide ((bl.length:Int)≤s.block) with
   |true=>
    refine bad (by unfold xV;rw [c2];simp) fun k He => ?_
    rw [ak M bB.eq_1];simp (maxSteps:=3000000) (maxDischargeDepth:=6) +contextual -implicitDefEqProofs only [amC M,↓amD,Nat.reduceBEq,Nat.reduceAdd,env,aj,bp,amG,AV.cell,Nat.reduceMul,Nat.reduceLeDiff,hi,hx,hss2,hir,hwi,ks,gx,d3,hgp1,hgr1,l1,ct,c1,c2,hst,hss,hself,List.length_map,hh]
   |false=>
   have z1:=of_decide_eq_false c1;have z2:=of_decide_eq_false c2;obtain ⟨q,hq⟩:∃ q:Nat,s.block=(q:Int):=⟨s.block.toNat,by omega⟩
   have hqb:q<bl.length:=by omega
   have hxq:bl[q]?=some bl[q]:=List.getElem?_eq_getElem hqb;have hirq:=aA (row:=aF.row) (tag:=tg) (sz:=2) (k:=.i64) hqb;have hkd:I8 bl s.block=(bl[q].kind == 6):=by unfold I8;rw [hq,Int.toNat_natCast,hxq]
   have l4:bn none (bq.row s) 0=some (.int .i64 (q:Int)):=by rw [← hq];rfl
   rw [hq] at c1 c2;have d5:decide (bl.length≤q)=false:=decide_eq_false (by omega);cases c3:bl[q].kind == 6 with
   |true=>
    refine bad (by unfold xV;rw [hkd,c3];simp) fun k He => ?_
    rw [ak M bB.eq_1];simp (maxSteps:=3000000) (maxDischargeDepth:=6) +contextual -implicitDefEqProofs only [amC M,↓amD,Nat.reduceBEq,Nat.reduceAdd,env,aj,bp,amG,AV.cell,Nat.reduceMul,Nat.reduceLeDiff,hi,hx,hss2,hir,hwi,ks,gx,d3,hgp1,hgr1,l1,ct,l4,hq,c1,c2,d5,hxq,hirq,hqb,c3,hst,hss,hself,List.length_map,hh]
   |false=>
   have hbf:xV bl (vS sl 0) s=false:=Jb rfl (by rw [hq];exact c1) (by rw [hq];exact c2) (by rw [hkd];exact c3);have hqv:q<vs.length:=by rw [hp.len];exact hqb
   have hv:vs[q]?=some vs[q]:=List.getElem?_eq_getElem hqv;obtain ⟨w,G2,m1,m2,⟨tw,qw,hw⟩,m4,m5,m6⟩:=(hp.app [AObj.cells s.row aP]).push (fun j hj=>by have:=hRl j hj;simp;omega) hv (by have:=hf q;omega) (x:=prt s) (r:=[.slice s.pieces.tag.strip 3 (s.pieces.l.map ag.row)]) rfl rfl (Ll s);have hlen1:(G++[AObj.cells s.row aP]).length=G.length+1:=by simp
   have low2:∀ m,R m→(G2.set P (.cells (vs.set q w) bu))[m]?=G[m]? := fun m hm=>by rw [m6 m hm,List.getElem?_append_left (hRl m hm)]
   obtain ⟨G3,vs3,i1,i2⟩:=dr0 hsl hbl (ts:=ts) (tg:=tg) hR0 hRp hRr n (0+1) (G2.set P (.cells (vs.set q w) bu)) _ _ (by omega) (fun k=>by
    have:=hf k
    by_cases hk:k=q
    ·rw [if_pos hk,← hk,List.length_append,List.length_singleton];omega
    ·rw [if_neg hk];omega) m4 (by rw [low2 p hRp];exact hgp) (by rw [low2 r hRr];exact hgr) (fun j hj=>by have:=hRl j hj;simp;omega) (by simp;omega) (fun m hm=>by rw [low2 m (hR0 m hm)];exact hlow m hm)
   rw [hprv,Jc hq] at i2;have i3:=fun k=>i1 k
   rw [hprv] at i3;simp only [kv_cons,kv_nil] at i3;have hia:=qz (id:=P) hqb .i64;have hld:bn none vs q=some vs[q]:=by simp only [bn,hv]
   have stw:stO 1 G2 P q [w] (some (.cells vs bu))=some (G2.set P (.cells (vs.set q w) bu)):=by
    rw [stO_cells (sz:=1) rfl (by show q+1≤vs.length;omega) (by rw [hw];rfl),setRow_cons,setRow_nil]
   have cw:cP w=some [w]:=by rw [hw];rfl
   have ncP:G.length≠P:=by have:=cg hp.cell;omega
   have hab:ig vs[q]=none∨∃ t,ig vs[q]=some t∧G.length≠t:=by
    rcases hp.own q _ hv with ⟨_,z,e⟩ | ⟨t,e,g⟩
    ·exact .inl (by rw [e];rfl)
    ·exact .inr ⟨t,by rw [e];rfl,by have:=cg g;omega⟩
   have r1:∀ H,oW (some H)=some (eB,H):=fun _=>rfl
   refine ⟨G3,vs3,fun k He => ?_,fun e => ?_⟩
   ·rw [hbf,Bool.false_or]
    generalize vs[q]=v at *
    rcases hab with ab | ⟨t,ab,nt⟩
    ·have aa:=r6 (D8 ncP)
     rw [ak M bB.eq_1];simp (maxSteps:=3000000) (maxDischargeDepth:=6) +contextual -implicitDefEqProofs only [amC M,↓amD,Nat.reduceBEq,Nat.reduceAdd,env,aj,bp,amG,AV.cell,Nat.reduceMul,Nat.reduceLeDiff,hi,hx,hss2,hir,hwi,ks,gx,d3,hgp1,hgr1,hP1,l1,ct,l4,hq,c1,c2,d5,hxq,hirq,hqb,c3,hia,hld,ec,m1,m2,stw,cw,r1,dyK,amZ,ab,aa,List.length_map,i3]
    ·have aa:=r6 (D7 ncP nt)
     rw [ak M bB.eq_1];simp (maxSteps:=3000000) (maxDischargeDepth:=6) +contextual -implicitDefEqProofs only [amC M,↓amD,Nat.reduceBEq,Nat.reduceAdd,env,aj,bp,amG,AV.cell,Nat.reduceMul,Nat.reduceLeDiff,hi,hx,hss2,hir,hwi,ks,gx,d3,hgp1,hgr1,hP1,l1,ct,l4,hq,c1,c2,d5,hxq,hirq,hqb,c3,hia,hld,ec,m1,m2,stw,cw,r1,dyK,amZ,ab,aa,List.length_map,i3]
   ·rw [hbf,Bool.false_or] at e
    obtain ⟨e1,e2,e3⟩:=i2 e;exact ⟨e1,by rw [List.length_set] at e2;omega,fun m hm=>by rw [e3 m hm,low2 m hm]⟩
  |succ i=>
   have hi0:i<sl.length:=by omega
   have hx0:sl[i]?=some sl[i]:=List.getElem?_eq_getElem hi0;have hir0:=aA (row:=bq.row) (tag:=ts) (sz:=2) (k:=.i64) hi0;have d3:decide ((0:Int)<((i+1:Nat):Int))=true:=decide_eq_true (by omega);have hw3:IntKind.i64.wrap (((i+1:Nat):Int)-1)=(i:Int):=by rw [bK (by omega) (by omega)];omega
   cases c4:decide (s.block<sl[i].block) with
   |true=>
    refine bad (by unfold xV;simp only [vS,hx0,Option.map_some];rw [c4];simp) fun k He => ?_
    rw [ak M bB.eq_1];simp (maxSteps:=3000000) (maxDischargeDepth:=6) +contextual -implicitDefEqProofs only [amC M,↓amD,Nat.reduceBEq,Nat.reduceAdd,env,aj,bp,amG,AV.cell,Nat.reduceMul,Nat.reduceLeDiff,hi,hx,hss2,hir,hwi,ks,gx,d3,hw3,hi0,hx0,hir0,c4,hgr1,l1,hst,hss,hself,List.length_map,hh]
   |false=>
   cases c1:decide (s.block<0) with
   |true=>
    refine bad (by unfold xV;rw [c1];rfl) fun k He => ?_
    rw [ak M bB.eq_1];simp (maxSteps:=3000000) (maxDischargeDepth:=6) +contextual -implicitDefEqProofs only [amC M,↓amD,Nat.reduceBEq,Nat.reduceAdd,env,aj,bp,amG,AV.cell,Nat.reduceMul,Nat.reduceLeDiff,hi,hx,hss2,hir,hwi,ks,gx,d3,hw3,hi0,hx0,hir0,c4,hgp1,hgr1,l1,ct,c1,hst,hss,hself,List.length_map,hh]
   |false=>
   cases c2:decide ((bl.length:Int)≤s.block) with
   |true=>
    refine bad (by unfold xV;rw [c2];simp) fun k He => ?_
    rw [ak M bB.eq_1];simp (maxSteps:=3000000) (maxDischargeDepth:=6) +contextual -implicitDefEqProofs only [amC M,↓amD,Nat.reduceBEq,Nat.reduceAdd,env,aj,bp,amG,AV.cell,Nat.reduceMul,Nat.reduceLeDiff,hi,hx,hss2,hir,hwi,ks,gx,d3,hw3,hi0,hx0,hir0,c4,hgp1,hgr1,l1,ct,c1,c2,hst,hss,hself,List.length_map,hh]
   |false=>
   have z1:=of_decide_eq_false c1;have z2:=of_decide_eq_false c2;obtain ⟨q,hq⟩:∃ q:Nat,s.block=(q:Int):=⟨s.block.toNat,by omega⟩
   have hqb:q<bl.length:=by omega
   have hxq:bl[q]?=some bl[q]:=List.getElem?_eq_getElem hqb;have hirq:=aA (row:=aF.row) (tag:=tg) (sz:=2) (k:=.i64) hqb;have hkd:I8 bl s.block=(bl[q].kind == 6):=by unfold I8;rw [hq,Int.toNat_natCast,hxq]
   have l4:bn none (bq.row s) 0=some (.int .i64 (q:Int)):=by rw [← hq];rfl
   rw [hq] at c1 c2 c4;have d5:decide (bl.length≤q)=false:=decide_eq_false (by omega);cases c3:bl[q].kind == 6 with
   |true=>
    refine bad (by unfold xV;rw [hkd,c3];simp) fun k He => ?_
    rw [ak M bB.eq_1];simp (maxSteps:=3000000) (maxDischargeDepth:=6) +contextual -implicitDefEqProofs only [amC M,↓amD,Nat.reduceBEq,Nat.reduceAdd,env,aj,bp,amG,AV.cell,Nat.reduceMul,Nat.reduceLeDiff,hi,hx,hss2,hir,hwi,ks,gx,d3,hw3,hi0,hx0,hir0,c4,hgp1,hgr1,l1,ct,l4,hq,c1,c2,d5,hxq,hirq,hqb,c3,hst,hss,hself,List.length_map,hh]
   |false=>
   have hbf:xV bl (vS sl (i+1)) s=false:=Jb (by simp only [vS,hx0,Option.map_some];rw [hq];exact c4) (by rw [hq];exact c1) (by rw [hq];exact c2) (by rw [hkd];exact c3);have hqv:q<vs.length:=by rw [hp.len];exact hqb
   have hv:vs[q]?=some vs[q]:=List.getElem?_eq_getElem hqv;obtain ⟨w,G2,m1,m2,⟨tw,qw,hw⟩,m4,m5,m6⟩:=(hp.app [AObj.cells s.row aP]).push (fun j hj=>by have:=hRl j hj;simp;omega) hv (by have:=hf q;omega) (x:=prt s) (r:=[.slice s.pieces.tag.strip 3 (s.pieces.l.map ag.row)]) rfl rfl (Ll s);have hlen1:(G++[AObj.cells s.row aP]).length=G.length+1:=by simp
   have low2:∀ m,R m→(G2.set P (.cells (vs.set q w) bu))[m]?=G[m]? := fun m hm=>by rw [m6 m hm,List.getElem?_append_left (hRl m hm)]
   obtain ⟨G3,vs3,i1,i2⟩:=dr0 hsl hbl (ts:=ts) (tg:=tg) hR0 hRp hRr n (i+1+1) (G2.set P (.cells (vs.set q w) bu)) _ _ (by omega) (fun k=>by
    have:=hf k
    by_cases hk:k=q
    ·rw [if_pos hk,← hk,List.length_append,List.length_singleton];omega
    ·rw [if_neg hk];omega) m4 (by rw [low2 p hRp];exact hgp) (by rw [low2 r hRr];exact hgr) (fun j hj=>by have:=hRl j hj;simp;omega) (by simp;omega) (fun m hm=>by rw [low2 m (hR0 m hm)];exact hlow m hm)
   rw [hprv,Jc hq] at i2;have i3:=fun k=>i1 k
   rw [hprv] at i3;simp only [kv_cons,kv_nil] at i3;have hia:=qz (id:=P) hqb .i64;have hld:bn none vs q=some vs[q]:=by simp only [bn,hv]
   have stw:stO 1 G2 P q [w] (some (.cells vs bu))=some (G2.set P (.cells (vs.set q w) bu)):=by
    rw [stO_cells (sz:=1) rfl (by show q+1≤vs.length;omega) (by rw [hw];rfl),setRow_cons,setRow_nil]
   have cw:cP w=some [w]:=by rw [hw];rfl
   have ncP:G.length≠P:=by have:=cg hp.cell;omega
   have hab:ig vs[q]=none∨∃ t,ig vs[q]=some t∧G.length≠t:=by
    rcases hp.own q _ hv with ⟨_,z,e⟩ | ⟨t,e,g⟩
    ·exact .inl (by rw [e];rfl)
    ·exact .inr ⟨t,by rw [e];rfl,by have:=cg g;omega⟩
   have r1:∀ H,oW (some H)=some (eB,H):=fun _=>rfl
   refine ⟨G3,vs3,fun k He => ?_,fun e => ?_⟩
   ·rw [hbf,Bool.false_or]
    generalize vs[q]=v at *
    rcases hab with ab | ⟨t,ab,nt⟩
    ·have aa:=r6 (D8 ncP)
     rw [ak M bB.eq_1];simp (maxSteps:=3000000) (maxDischargeDepth:=6) +contextual -implicitDefEqProofs only [amC M,↓amD,Nat.reduceBEq,Nat.reduceAdd,env,aj,bp,amG,AV.cell,Nat.reduceMul,Nat.reduceLeDiff,hi,hx,hss2,hir,hwi,ks,gx,d3,hw3,hi0,hx0,hir0,c4,hgp1,hgr1,hP1,l1,ct,l4,hq,c1,c2,d5,hxq,hirq,hqb,c3,hia,hld,ec,m1,m2,stw,cw,r1,dyK,amZ,ab,aa,List.length_map,i3]
    ·have aa:=r6 (D7 ncP nt)
     rw [ak M bB.eq_1];simp (maxSteps:=3000000) (maxDischargeDepth:=6) +contextual -implicitDefEqProofs only [amC M,↓amD,Nat.reduceBEq,Nat.reduceAdd,env,aj,bp,amG,AV.cell,Nat.reduceMul,Nat.reduceLeDiff,hi,hx,hss2,hir,hwi,ks,gx,d3,hw3,hi0,hx0,hir0,c4,hgp1,hgr1,hP1,l1,ct,l4,hq,c1,c2,d5,hxq,hirq,hqb,c3,hia,hld,ec,m1,m2,stw,cw,r1,dyK,amZ,ab,aa,List.length_map,i3]
   ·rw [hbf,Bool.false_or] at e
    obtain ⟨e1,e2,e3⟩:=i2 e;exact ⟨e1,by rw [List.length_set] at e2;omega,fun m hm=>by rw [e3 m hm,low2 m hm]⟩
end
section
attribute [local congr] aI bR aZ aJ aY aR aK aC aD aS aT
variable{E:bG}(M:cJ cM E)
def Aa(ps:List (Sl ag)):Int:=sel (decide (ps.length=0)) 1 (sel (p8 ps == 0) (sel (vQ ps) (sel (nR (ur ps.length 0 [] ps)) 3 0) 10) (p8 ps))
def pQ(ps:List (Sl ag)):List ag:=sel (Aa ps == 0) (ur ps.length 0 [] ps) []
theorem Lm(ps:List (Sl ag)):zY ps = .tuple [.slice (pO (pQ ps)) 3 ((pQ ps).map ag.row),.int .u8 (Aa ps)]:=by
 unfold pQ;generalize hg:Aa ps=g;unfold Aa at hg;unfold zY;cases c0:decide (ps.length=0) with
 |true=>rw [c0,sel_true] at hg;subst hg;rfl
 |false=>
 rw [c0,sel_false] at hg;cases c1:p8 ps == 0 with
 |false=>
  rw [c1,sel_false] at hg;rw [sel_false,sel_false,← hg,c1,sel_false];rfl
 |true=>
 rw [c1,sel_true] at hg;cases c2:vQ ps with
 |false=>rw [c2,sel_false] at hg;subst hg;rfl
 |true=>
 rw [c2,sel_true] at hg;cases c3:nR (ur ps.length 0 [] ps) with
 |true=>rw [c3,sel_true] at hg;subst hg;rfl
 |false=>rw [c3,sel_false] at hg;subst hg;rfl
def qP(f:Nat→List (Sl ag)):Nat→List aF→Int
 |_,[]=>0
 |i,b::t=>sel (b.kind == 6) (qP f (i+1) t) (sel (Aa (f i) == 0) (sel (nf (pQ (f i))) (qP f (i+1) t) 8) (Aa (f i)))
def qq(g:List ag→Tag)(f:Nat→List (Sl ag)):Nat→List aF→List aF
 |_,[]=>[]
 |i,b::t=>sel (b.kind == 6) ⟨b.kind,⟨g b.pieces.l,b.pieces.l⟩⟩ ⟨b.kind,⟨pO (pQ (f i)),pQ (f i)⟩⟩::qq g f (i+1) t
theorem Ab(g:List ag→Tag)(f:Nat→List (Sl ag)):∀ (i:Nat) (l:List aF),(qq g f i l).length=l.length
 |_,[]=>rfl
 |i,b::t=>by simp only [qq,List.length_cons,Ab g f (i+1) t]
def AZ(n:Nat)(H:List AObj)(v:AV)(l:List aF):Prop:=(l=[]∧v = .slice .nil 2 [])∨(l≠[]∧∃ t,n≤t∧v = .slice (.own t) 2 (l.map aF.row)∧H[t]?=some (.tok (l.length*2) aM))
theorem AZ.app{n:Nat}{H:List AObj}{v:AV}{l:List aF}(h:AZ n H v l)(X:List AObj):AZ n (H++X) v l:=by
 rcases h with h | ⟨h0,t,h1,h2,h3⟩
 ·exact .inl h
 ·exact .inr ⟨h0,t,h1,h2,bD h3⟩
theorem AZ.push{n:Nat}{H:List AObj}{v:AV}{l:List aF}(h:AZ n H v l)(hn:n≤H.length)(hb:l.length≤1000000){x:aF}{r:List AV}(h1:r.length=2)(h2:r.all AV.cell=true)(h3:r.map AV.strip=x.row) :
  ∃ t G,rap false H aM 2 32 false v (.slice .full 2 [r])=some (.slice (.own t) 2 ((l++[x]).map aF.row),G)∧n≤t∧G[t]?=some (.tok ((l++[x]).length*2) aM)∧H.length≤G.length∧(∀ (i:Nat) (y:AObj),H[i]?=some y→(∀ m e,y≠AObj.tok m e)→G[i]?=some y)∧∀ i:Nat,i<n→G[i]?=H[i]? := by
 rcases h with ⟨rfl,rfl⟩ | ⟨_,t,hnt,rfl,hg⟩
 ·refine ⟨H.length,H++[.tok 2 aM], ?_,hn,by rw [aL];rfl,by simp,fun i y hi _=>bD hi,fun i hi=>List.getElem?_append_left (by omega)⟩
  simp [rap,vw,pS,om h1 h2,h3]
 ·have hlt:=cg hg
  refine ⟨t,H.set t (.tok ((l++[x]).length*2) aM), ?_,hnt,List.getElem?_set_self hlt,by simp,fun i y hi hy => ?_,fun i hi=>List.getElem?_set_ne (by omega)⟩
  ·have e1:(l.length+1)*32≤140737488355328:=by omega
   have e2:l.length+1≤4611686018427387904:=by omega
   simp only [rap,vw,pS,List.length_map,List.length_cons,List.length_nil,Nat.zero_add,or_true,if_true,e1,e2,om h1 h2,and_true,true_and,hg,List.map_cons,List.map_nil,h3,List.map_append,List.length_append,Nat.add_mul,Nat.one_mul,Nat.mul_one];rw [Nat.add_mul] at e1;rw [if_pos e1]
  ·rw [List.getElem?_set_ne (fun e=>by subst e;rw [hg] at hi;cases hi;exact hy _ _ rfl)];exact hi
theorem dr2(hB:gA E)(hX:vO M)(hC:jT E)(hS:qO E){bl:List aF}{tg:Tag}(hbl:bl.length≤1000000)(hkn:∀ b∈bl,b.pieces.kn∧b.pieces.l.length≤1000000){H0:List AObj}{P r o:Nat}{f:Nat→List (Sl ag)}{vs:List AV}(hvl:vs.length=bl.length)(hvs:∀ (k:Nat) (v:AV),vs[k]?=some v→f k≠[]→∃ tg,v = .slice tg 1 ((f k).map dD))
  (hfn:∀ k,(f k).length≤1000000∧(∀ p∈f k,p.l.length≤1000000∧nz p.l)∧szL (f k)≤100000000) (hro:r≠o) (ho0:H0.length≤o):∀ (n i:Nat) (G:List AObj) (acc:List aF) (v:AV),i+n=bl.length→Bt f i (bl.drop i)=false→acc.length≤i→G[P]?=some (.cells vs bu) →
  G[r]?=some (.cells [.slice .nil 2 []] ae)→G[o]?=some (.cells [v] ae)→AZ H0.length G v acc→H0.length≤G.length→(∀ m,m<H0.length→G[m]?=H0[m]?) →
  ∃ G' w,(∀ (k:List Fra) (He:List AObj),M.go cS H0 (.c dE :: .lp ⟨(some [4,7,12,107,108,109]),[],false⟩ dE He :: .blk 4 :: .c (.lv [4,12])::k) (kv [(4,.ptr r 0),(7,.rslice P 0 bl.length 1 true),(12,.ptr o 0),(107,.slice tg 2 (bl.map aF.row)),(108,.int .i64 bl.length),(109,.int .i64 i)]) G =
   sel (qP f i (bl.drop i) == 0) (M.go cS H0 k (kv [(4,.ptr r 0),(12,.ptr o 0)]) G') (some (.ret (.tuple [.agg [.slice .nil 2 []],.int .u8 (qP f i (bl.drop i))]),H0))) ∧
   ((qP f i (bl.drop i) == 0)=true→G'[r]?=some (.cells [.slice .nil 2 []] ae)∧G'[o]?=some (.cells [w] ae)∧AZ H0.length G' w (acc++qq (fun _=>.any) f i (bl.drop i))∧H0.length≤G'.length∧∀ m,m<H0.length→G'[m]?=H0[m]?)
 |0,i,G,acc,v,h,hlk,hacc,hP,hr,ho,hw,hl,hlow=>by
  have e:i=bl.length:=by omega
  subst e;refine ⟨G,v,fun k He => ?_,fun _=>⟨hr,ho, ?_,hl,hlow⟩⟩
  ·rw [List.drop_length,show qP f bl.length []=0 from rfl,show ((0:Int) == 0)=true from rfl,sel_true]
   rw [ak M dE.eq_1];simp (maxSteps:=3000000) (maxDischargeDepth:=6) +contextual -implicitDefEqProofs only [amC M,↓amD,Nat.reduceBEq,Nat.reduceAdd,env,aj,bp,Nat.lt_irrefl]
  ·rw [List.drop_length,show qq (fun _=>.any) f bl.length []=[] from rfl,List.append_nil];exact hw
 |n+1,i,G,acc,v,h,hlk,hacc,hP,hr,ho,hw,hl,hlow=>by
  have hi:i<bl.length:=by omega
  have hx:bl[i]?=some bl[i]:=List.getElem?_eq_getElem hi;have hd:(bl.drop i)=bl[i]::bl.drop (i+1):=List.drop_eq_getElem_cons hi;have hwi:=bt (n:=bl.length) hi (by simp only [aX];omega);have hir:=aA (row:=aF.row) (tag:=tg) (sz:=2) (k:=.i64) hi;have hia:=qz (id:=P) hi .i64;have hiv:i<vs.length:=by rw [hvl];exact hi
  have hv:vs[i]?=some vs[i]:=List.getElem?_eq_getElem hiv;obtain ⟨kn1,kn2⟩:=hkn _ (List.getElem_mem hi);obtain ⟨f1,f2,f3⟩:=hfn i;have l1:∀ x:AV,bn none [x] 0=some x:=fun _=>rfl
  rw [hd,Bt,Bool.or_eq_false_iff] at hlk;obtain ⟨hlk1,hlk2⟩:=hlk;rw [hd];generalize hbb:bl[i]=b at *
  have gx:=aL G [AObj.cells b.row aM];rw [List.getElem?_cons_zero] at gx;have hP1:∀ X,(G++X)[P]?=_:=fun X=>bD hP
  have hr1:∀ X,(G++X)[r]?=_:=fun X=>bD hr
  have ho1:∀ X,(G++X)[o]?=_:=fun X=>bD ho
  have low1:∀ m,m<H0.length→(G++[AObj.cells b.row aM])[m]?=H0[m]? := fun m hm=>by rw [List.getElem?_append_left (by omega),hlow m hm]
  obtain ⟨hct,htk⟩:=rY (show H0.length≤(G++[AObj.cells b.row aM]).length by simp;omega) low1;have hst:=stO_cells (sz:=1) (H:=G++[AObj.cells b.row aM]) (id:=r) (off:=0) (cs:=[.slice .nil 2 []]) (T:=ae) (old:=[.slice .nil 2 []]) rfl (by simp) rfl;have hss:bf [AV.slice .nil 2 []] 0 [.slice .nil 2 []]=[.slice .nil 2 []]:=rfl;rw [hss] at hst
  have hself:(G++[AObj.cells b.row aM]).set r (.cells [.slice .nil 2 []] ae)=G++[AObj.cells b.row aM]:=by
   refine List.ext_getElem? fun j => ?_
   by_cases hj:j=r
   ·subst hj;rw [List.getElem?_set_self (cg (hr1 _)),hr1]
   ·rw [List.getElem?_set_ne (fun e=>hj e.symm)]
  rw [hself] at hst;have hh:=fun e=>Br hct e
  simp only [htk] at hh;have k1:=fun H=>Ja M hS kn1 kn2 H
  have more:∀ {x:aF}{rr:List AV},rr.length=2→rr.all AV.cell=true→rr.map AV.strip=x.row→∃ w G2,rap false (G++[AObj.cells b.row aM]) aM 2 32 false v (.slice .full 2 [rr])=some (w,G2)∧G2[o]?=some (.cells [v] ae)∧cP w=some [w] ∧
    stO 1 G2 o 0 [w] (some (.cells [v] ae))=some (G2.set o (.cells [w] ae)) ∧
    ∃ G' w',(∀ (k:List Fra) (He:List AObj),M.go cS H0 (.c dE :: .lp ⟨(some [4,7,12,107,108,109]),[],false⟩ dE He :: .blk 4 :: .c (.lv [4,12])::k) (kv [(4,.ptr r 0),(7,.rslice P 0 bl.length 1 true),(12,.ptr o 0),(107,.slice tg 2 (bl.map aF.row)),(108,.int .i64 bl.length),(109,.int .i64 ((i+1:Nat):Int))]) (G2.set o (.cells [w] ae)) =
     sel (qP f (i+1) (bl.drop (i+1)) == 0) (M.go cS H0 k (kv [(4,.ptr r 0),(12,.ptr o 0)]) G') (some (.ret (.tuple [.agg [.slice .nil 2 []],.int .u8 (qP f (i+1) (bl.drop (i+1)))]),H0))) ∧
     ((qP f (i+1) (bl.drop (i+1)) == 0)=true→G'[r]?=some (.cells [.slice .nil 2 []] ae)∧G'[o]?=some (.cells [w'] ae)∧AZ H0.length G' w' (acc++(x::qq (fun _=>.any) f (i+1) (bl.drop (i+1))))∧H0.length≤G'.length∧∀ m,m<H0.length→G'[m]?=H0[m]?):=fun {x rr} h1 h2 h3=>by
   obtain ⟨t,G2,m1,m2,m3,m4,m5,m6⟩:=(hw.app [AObj.cells b.row aM]).push (by simp;omega) (by omega) h1 h2 h3;have hlt:(G++[AObj.cells b.row aM]).length=G.length+1:=by simp
   have cl:∀ {j:Nat}{cs:List AV}{T:TypeId},G[j]?=some (.cells cs T)→G2[j]?=some (.cells cs T):=fun hj=>m5 _ _ (bD hj) fun _ _ e=>(by cases e)
   have hoG:=cl ho;have holt:=cg hoG;refine ⟨_,G2,m1,hoG,rfl,by rw [stO_cells (sz:=1) rfl (by simp) rfl];rfl, ?_⟩;have nto:t≠o:=fun e=>by subst e;rw [hoG] at m3;cases m3
   obtain ⟨G',w',i1,i2⟩:=dr2 hB hX hC hS hbl (tg:=tg) hkn hvl hvs hfn hro ho0 n (i+1) (G2.set o (.cells [.slice (.own t) 2 ((acc++[x]).map aF.row)] ae)) (acc++[x]) (.slice (.own t) 2 ((acc++[x]).map aF.row)) (by omega) hlk2 (by simp;omega)
    (by rw [List.getElem?_set_ne (MB ho hP (by decide))];exact cl hP) (by rw [List.getElem?_set_ne hro.symm];exact cl hr) (List.getElem?_set_self holt) (.inr ⟨by simp,t,m2,rfl,by rw [List.getElem?_set_ne nto.symm];exact m3⟩) (by simp;omega)
    (fun m hm=>by rw [List.getElem?_set_ne (by omega),m6 m hm];exact low1 m hm)
   refine ⟨G',w',i1,fun e => ?_⟩;obtain ⟨j1,j2,j3,j4,j5⟩:=i2 e;exact ⟨j1,j2,by simpa using j3,j4,j5⟩
  rw [qP,qq];cases c1:b.kind == 6 with
  |true=>
   obtain ⟨w,G2,m1,m2,m3,m4,G',w',i1,i2⟩:=more (x:=⟨b.kind,⟨.any,b.pieces.l⟩⟩) (rr:=[.int .u8 b.kind,.slice .any 3 (b.pieces.l.map ag.row)]) rfl rfl rfl;simp only [kv_cons,kv_nil] at i1;refine ⟨G',w',fun k He => ?_,fun e => ?_⟩
   ·have i3:=i1 k
    rw [sel_true];rw [ak M dE.eq_1];simp (maxSteps:=3000000) (maxDischargeDepth:=6) +contextual -implicitDefEqProofs only [amC M,↓amD,Nat.reduceBEq,Nat.reduceAdd,env,aj,bp,amG,AV.cell,Nat.reduceMul,Nat.reduceLeDiff,hi,hx,hbb,hir,hwi,ct,gx,k1,c1,Bool.not_true,ho1,l1,m1,m2,m3,m4,i3]
   ·rw [sel_true] at e
    rw [sel_true];exact i2 e
  |false=>
  rw [c1,Bool.not_false,Bool.true_and] at hlk1;obtain ⟨tv,hvv⟩:=hvs i _ hv fun e=>of_decide_eq_false hlk1 (by rw [e];rfl)
  have hld:bn none vs i=some (.slice tv 1 ((f i).map dD)):=by simp only [bn,hv,hvv]
  have k2:=fun H=>MG M hB hX hC (ps:=f i) (tg:=tv) f1 f2 f3 H
  simp only [Lm] at k2;rw [sel_false,sel_false];cases c2:Aa (f i) == 0 with
  |false=>
   refine ⟨G,v,fun k He => ?_,fun e => ?_⟩
   ·rw [sel_false,c2,sel_false]
    rw [ak M dE.eq_1];simp (maxSteps:=3000000) (maxDischargeDepth:=6) +contextual -implicitDefEqProofs only [amC M,↓amD,Nat.reduceBEq,Nat.reduceAdd,env,aj,bp,amG,AV.cell,Nat.reduceMul,Nat.reduceLeDiff,hi,hx,hbb,hir,hwi,ct,gx,k1,c1,Bool.not_false,hia,hP1,hld,k2,bQ,List.getElem?_cons_zero,List.getElem?_cons_succ,c2,hr1,hst,hss,hself,hh]
   ·rw [sel_false,c2] at e;cases e
  |true=>
  have hwl:(pQ (f i)).length≤aX:=by
   have hg:Aa (f i)=0:=by simpa using c2
   unfold Aa at hg;unfold pQ;rw [c2,sel_true];cases z0:decide ((f i).length=0) with
   |true=>rw [z0,sel_true] at hg;cases hg
   |false=>
   cases z1:p8 (f i) == 0 with
   |false=>rw [z0,sel_false,z1,sel_false] at hg;rw [hg] at z1;cases z1
   |true=>
   cases z2:vQ (f i) with
   |false=>rw [z0,sel_false,z1,sel_true,z2,sel_false] at hg;cases hg
   |true=>
   cases z3:nR (ur (f i).length 0 [] (f i)) with
   |true=>rw [z0,sel_false,z1,sel_true,z2,sel_true,z3,sel_true] at hg;cases hg
   |false=>have:=of_decide_eq_false z3;simp only [aX];omega
  have k3:=fun H=>FY M hS (l:=pQ (f i)) (tg:=pO (pQ (f i))) hwl H
  rw [sel_true];cases c3:nf (pQ (f i)) with
  |false=>
   refine ⟨G,v,fun k He => ?_,fun e => ?_⟩
   ·rw [sel_false,show ((8:Int) == 0)=false from rfl,sel_false]
    rw [ak M dE.eq_1];simp (maxSteps:=3000000) (maxDischargeDepth:=6) +contextual -implicitDefEqProofs only [amC M,↓amD,Nat.reduceBEq,Nat.reduceAdd,env,aj,bp,amG,AV.cell,Nat.reduceMul,Nat.reduceLeDiff,hi,hx,hbb,hir,hwi,ct,gx,k1,c1,Bool.not_false,hia,hP1,hld,k2,bQ,List.getElem?_cons_zero,List.getElem?_cons_succ,c2,k3,c3,Bool.not_true,hr1,hst,hss,hself,hh]
   ·rw [sel_false] at e;cases e
  |true=>
   obtain ⟨w,G2,m1,m2,m3,m4,G',w',i1,i2⟩:=more (x:=⟨b.kind,⟨pO (pQ (f i)),pQ (f i)⟩⟩) (rr:=[.int .u8 b.kind,.slice (pO (pQ (f i))) 3 ((pQ (f i)).map ag.row)]) rfl rfl (by rw [List.map_cons,List.map_cons,ng];rfl);simp only [kv_cons,kv_nil] at i1;refine ⟨G',w',fun k He => ?_,fun e => ?_⟩
   ·have i3:=i1 k
    rw [sel_true];rw [ak M dE.eq_1];simp (maxSteps:=3000000) (maxDischargeDepth:=6) +contextual -implicitDefEqProofs only [amC M,↓amD,Nat.reduceBEq,Nat.reduceAdd,env,aj,bp,amG,AV.cell,Nat.reduceMul,Nat.reduceLeDiff,hi,hx,hbb,hir,hwi,ct,gx,k1,c1,Bool.not_false,Bool.not_true,hia,hP1,hld,k2,bQ,List.getElem?_cons_zero,List.getElem?_cons_succ,c2,k3,c3,ng,ho1,l1,m1,m2,m3,m4,i3]
   ·rw [sel_true] at e
    exact i2 e
end
section
attribute [local congr] aI bR aZ aJ aY aR aK aC aD aS aT
variable{E:bG}(M:cJ cM E)
theorem Ek{G:List AObj}{r:Nat}{x:AObj}(h:G[r]?=some x):G.set r x=G:=by
 refine List.ext_getElem? fun j => ?_
 by_cases hj:j=r
 ·subst hj;rw [List.getElem?_set_self (cg h),h]
 ·rw [List.getElem?_set_ne (fun e=>hj e.symm)]
theorem G8{G:List AObj}{r:Nat}(h:G[r]?=some (.cells [.slice .nil 2 []] ae)):stO 1 G r 0 [.slice .nil 2 []] (some (.cells [.slice .nil 2 []] ae))=some G:=by
 rw [stO_cells (sz:=1) rfl (by simp) rfl];refine congrArg some (List.ext_getElem? fun j => ?_)
 by_cases hj:j=r
 ·subst hj;rw [List.getElem?_set_self (cg h),h];rfl
 ·rw [List.getElem?_set_ne (fun e=>hj e.symm)]
theorem SZ{l:List ag}{tg:Tag}(hl:l.length≤1000000)(G:List AObj):∃ v X,rap false G ah 3 32 false (.slice .nil 3 []) (.slice tg 3 (l.map ag.row))=some (v,G++X)∧cP v=some [v]∧v.strip = .slice (pO l) 3 (l.map ag.row)∧[v].all AV.cell=true:=by
 cases l with
 |nil=>exact ⟨.slice .nil 3 [],[],by simp [rap,vw,pS,qR],rfl,rfl,rfl⟩
 |cons x l=>
  have hr:=G7 (row:=ag.row) (sz:=3) (x::l) fun _ _=>⟨rfl,rfl⟩
  have h3:=yP (row:=ag.row) (x::l) fun _ _=>rfl
  have hl2:(x::l).length*32≤140737488355328:=by omega
  have hl3:(x::l).length≤4611686018427387904:=by omega
  refine ⟨.slice (.own G.length) 3 ((x::l).map ag.row),[.tok ((x::l).length*3) ah], ?_,rfl,rfl,rfl⟩;generalize hm:x::l=m at *
  simp only [rap,vw,pS,if_true,List.length_map,List.length_nil,Nat.zero_add,true_or,or_true,hl2,hl3,hr,and_true,true_and];subst hm;simp only [List.map_cons] at h3 ⊢;simp only [or_true,if_true,List.length_cons,List.length_map,h3,List.nil_append] at hl2 hl3 hr ⊢
theorem Sd(y:AV):y.strip.strip=y.strip:=by
 cases y with
 |slice t e r=>cases t<;>rfl
 |_=>rfl
theorem Jd{ps:List (Sl ag)}(c2:(Aa ps == 0)=true):(pQ ps).length≤512:=by
 have hg:Aa ps=0:=by simpa using c2
 unfold Aa at hg;unfold pQ;rw [c2,sel_true];cases z0:decide (ps.length=0) with
 |true=>rw [z0,sel_true] at hg;cases hg
 |false=>
 cases z1:p8 ps == 0 with
 |false=>rw [z0,sel_false,z1,sel_false] at hg;rw [hg] at z1;cases z1
 |true=>
 cases z2:vQ ps with
 |false=>rw [z0,sel_false,z1,sel_true,z2,sel_false] at hg;cases hg
 |true=>
 cases z3:nR (ur ps.length 0 [] ps) with
 |true=>rw [z0,sel_false,z1,sel_true,z2,sel_true,z3,sel_true] at hg;cases hg
 |false=>have:=of_decide_eq_false z3;omega
theorem rr4(hB:gA E)(hC:jT E)(hS:qO E){sl:List bq}{ts tg:Tag}(hsl:sl.length≤1000000){bl:List aF}(hbl:bl.length≤1000000)(hkn:∀ b∈bl,b.pieces.l.length≤1000000){H0:List AObj}{p r o:Nat}
  (hfn:∀ k:Nat,(bF (k:Int) sl).length≤1000000∧(∀ p∈bF (k:Int) sl,p.l.length≤1000000∧nz p.l)∧szL (bF (k:Int) sl)≤100000000) (hro:r≠o) (hpo:p≠o) (ho0:H0.length≤o):∀ (n i:Nat) (G:List AObj) (acc:List aF) (v:AV),i+n=bl.length→acc.length≤i →
  G[p]?=some (.cells [.slice tg 2 (bl.map aF.row)] ae)→G[r]?=some (.cells [.slice .nil 2 []] ae)→G[o]?=some (.cells [v] ae)→AZ H0.length G v acc→H0.length≤G.length→(∀ m,m<H0.length→G[m]?=H0[m]?) →
  ∃ G' w,(∀ (k:List Fra) (He:List AObj),M.go bk H0 (.c bM :: .lp ⟨(some [1,2,4,12,13]),[],false⟩ bM He :: .blk 6 :: .c (.lv [4,12])::k) (kv [(1,.slice ts 2 (sl.map bq.row)),(2,.ptr p 0),(4,.ptr r 0),(12,.ptr o 0),(13,.int .i64 i)]) G =
   sel (qP (fun k=>bF (k:Int) sl) i (bl.drop i) == 0) (M.go bk H0 k (kv [(4,.ptr r 0),(12,.ptr o 0)]) G') (some (.ret (.tuple [.agg [.slice .nil 2 []],.int .u8 (qP (fun k=>bF (k:Int) sl) i (bl.drop i))]),H0))) ∧
   ((qP (fun k=>bF (k:Int) sl) i (bl.drop i) == 0)=true→G'[r]?=some (.cells [.slice .nil 2 []] ae)∧G'[o]?=some (.cells [w] ae)∧AZ H0.length G' w (acc++qq pO (fun k=>bF (k:Int) sl) i (bl.drop i))∧H0.length≤G'.length∧∀ m,m<H0.length→G'[m]?=H0[m]?)
 |0,i,G,acc,v,h,hacc,hp,hr,ho,hw,hl,hlow=>by
  have e:i=bl.length:=by omega
  have l1:∀ x:AV,bn none [x] 0=some x:=fun _=>rfl
  subst e;refine ⟨G,v,fun k He => ?_,fun _=>⟨hr,ho, ?_,hl,hlow⟩⟩
  ·rw [List.drop_length,show qP (fun k=>bF (k:Int) sl) bl.length []=0 from rfl,show ((0:Int) == 0)=true from rfl,sel_true]
   rw [ak M bM.eq_1];simp (maxSteps:=3000000) (maxDischargeDepth:=6) +contextual -implicitDefEqProofs only [amC M,↓amD,Nat.reduceBEq,Nat.reduceAdd,env,aj,aq,hp,l1,List.length_map,Nat.lt_irrefl]
  ·rw [List.drop_length,show qq pO (fun k=>bF (k:Int) sl) bl.length []=[] from rfl,List.append_nil];exact hw
 |n+1,i,G,acc,v,h,hacc,hp,hr,ho,hw,hl,hlow=>by
  have hi:i<bl.length:=by omega
  have hx:bl[i]?=some bl[i]:=List.getElem?_eq_getElem hi;have hd:(bl.drop i)=bl[i]::bl.drop (i+1):=List.drop_eq_getElem_cons hi;have hwi:=bt (n:=bl.length) hi (by simp only [aX];omega);have hir:=aA (row:=aF.row) (tag:=tg) (sz:=2) (k:=.i64) hi;have kn2:=hkn _ (List.getElem_mem hi);obtain ⟨f1,f2,f3⟩:=hfn i;have l1:∀ x:AV,bn none [x] 0=some x:=fun _=>rfl
  have l2:∀ x y:AV,bn none [x,y] 0=some x:=fun _ _=>rfl
  have l3:∀ x y:AV,bn none [x,y] 1=some y:=fun _ _=>rfl
  have l4:∀ x y:AV,bn (some 2) [x,y] 0=some (.agg [x,y]):=fun _ _=>rfl
  rw [hd];generalize hbb:bl[i]=b at *
  have gx:=fun y X=>aL G (y::X)
  simp only [List.getElem?_cons_zero] at gx;have sx:∀ (y z:AObj) (X:List AObj),(G++y::X).set G.length z=G++z::X:=fun y z X=>by rw [hp_set0];rfl
  have hp1:∀ X,(G++X)[p]?=_:=fun X=>bD hp
  have hr1:∀ X,(G++X)[r]?=_:=fun X=>bD hr
  have ho1:∀ X,(G++X)[o]?=_:=fun X=>bD ho
  have low1:∀ (X:List AObj) (m:Nat),m<H0.length→(G++X)[m]?=H0[m]? := fun X m hm=>by rw [List.getElem?_append_left (by omega),hlow m hm]
  have hcl:=fun X=>rY (show H0.length≤(G++X).length by simp;omega) (low1 X)
  have hst:=fun X=>G8 (hr1 X)
  have hsf:=fun X=>Ek (hr1 X)
  have hh:=fun X e=>Br (hcl X).1 e
  simp only [fun X=>(hcl X).2] at hh
  have stv:∀ (X:List AObj) (a b c:AV),[c].all AV.cell=true→stO 1 (G++AObj.cells [a,b] aM::X) G.length 1 [c] (some (.cells [a,b] aM))=some (G++AObj.cells [a,c] aM::X):=fun X a b c hc=>by
   rw [stO_cells (sz:=1) rfl (by simp) hc,sx];rfl
  have k2:=fun tv H=>MH M hB hC (ps:=bF (i:Int) sl) (tg:=tv) f1 f2 f3 H
  simp only [Lm] at k2
  have more:∀ {x:aF}{y:AV}{X:List AObj},y.strip = .slice x.pieces.tag 3 (x.pieces.l.map ag.row)→∃ w G2,rap false (G++AObj.cells [.int .u8 x.kind,y] aM::X) aM 2 32 false v (.slice .full 2 [[.int .u8 x.kind,.slice x.pieces.tag 3 (x.pieces.l.map ag.row)]])=some (w,G2)∧G2[o]?=some (.cells [v] ae)∧cP w=some [w] ∧
    stO 1 G2 o 0 [w] (some (.cells [v] ae))=some (G2.set o (.cells [w] ae)) ∧
    ∃ G' w',(∀ (k:List Fra) (He:List AObj),M.go bk H0 (.c bM :: .lp ⟨(some [1,2,4,12,13]),[],false⟩ bM He :: .blk 6 :: .c (.lv [4,12])::k) (kv [(1,.slice ts 2 (sl.map bq.row)),(2,.ptr p 0),(4,.ptr r 0),(12,.ptr o 0),(13,.int .i64 ((i+1:Nat):Int))]) (G2.set o (.cells [w] ae)) =
     sel (qP (fun k=>bF (k:Int) sl) (i+1) (bl.drop (i+1)) == 0) (M.go bk H0 k (kv [(4,.ptr r 0),(12,.ptr o 0)]) G') (some (.ret (.tuple [.agg [.slice .nil 2 []],.int .u8 (qP (fun k=>bF (k:Int) sl) (i+1) (bl.drop (i+1)))]),H0))) ∧
     ((qP (fun k=>bF (k:Int) sl) (i+1) (bl.drop (i+1)) == 0)=true→G'[r]?=some (.cells [.slice .nil 2 []] ae)∧G'[o]?=some (.cells [w'] ae)∧AZ H0.length G' w' (acc++(x::qq pO (fun k=>bF (k:Int) sl) (i+1) (bl.drop (i+1))))∧H0.length≤G'.length∧∀ m,m<H0.length→G'[m]?=H0[m]?):=fun {x y X} hy=>by
   have hst2:x.pieces.tag.strip=x.pieces.tag:=by
    have h:=Sd y;rw [hy,ec] at h;injection h
   obtain ⟨t,G2,m1,m2,m3,m4,m5,m6⟩:=(hw.app (AObj.cells [.int .u8 x.kind,y] aM::X)).push (by simp;omega) (by omega) (x:=x) (r:=[.int .u8 x.kind,.slice x.pieces.tag 3 (x.pieces.l.map ag.row)]) rfl rfl (by rw [List.map_cons,List.map_cons,ec,hst2];rfl);have cl:∀ {j:Nat}{cs:List AV}{T:TypeId},G[j]?=some (.cells cs T)→G2[j]?=some (.cells cs T):=fun hj=>m5 _ _ (bD hj) fun _ _ e=>(by cases e)
   have hoG:=cl ho;have holt:=cg hoG;have hlt:(G++AObj.cells [.int .u8 x.kind,y] aM::X).length=G.length+(X.length+1):=by simp
   refine ⟨_,G2,m1,hoG,rfl,by rw [stO_cells (sz:=1) rfl (by simp) rfl];rfl, ?_⟩;have nto:t≠o:=fun e=>by subst e;rw [hoG] at m3;cases m3
   obtain ⟨G',w',i1,i2⟩:=rr4 hB hC hS hsl hbl (ts:=ts) (tg:=tg) hkn hfn hro hpo ho0 n (i+1) (G2.set o (.cells [.slice (.own t) 2 ((acc++[x]).map aF.row)] ae)) (acc++[x]) (.slice (.own t) 2 ((acc++[x]).map aF.row)) (by omega) (by simp;omega)
    (by rw [List.getElem?_set_ne hpo.symm];exact cl hp) (by rw [List.getElem?_set_ne hro.symm];exact cl hr) (List.getElem?_set_self holt) (.inr ⟨by simp,t,m2,rfl,by rw [List.getElem?_set_ne nto.symm];exact m3⟩) (by simp;omega)
    (fun m hm=>by rw [List.getElem?_set_ne (by omega),m6 m hm];exact low1 _ m hm)
   refine ⟨G',w',i1,fun e => ?_⟩;obtain ⟨j1,j2,j3,j4,j5⟩:=i2 e;exact ⟨j1,j2,by simpa using j3,j4,j5⟩
  rw [qP,qq];cases c1:b.kind == 6 with
  |true=>
   obtain ⟨y,X,a1,a2,a3,a4⟩:=SZ (l:=b.pieces.l) (tg:=b.pieces.tag) kn2 (G++[AObj.cells [.int .u8 b.kind,.slice .nil 3 []] aM]);rw [List.append_assoc,List.singleton_append] at a1;have sty:=stv X (.int .u8 b.kind) (.slice .nil 3 []) y a4;obtain ⟨w,G2,m1,m2,m3,m4,G',w',i1,i2⟩:=more (x:=⟨b.kind,⟨pO b.pieces.l,b.pieces.l⟩⟩) (y:=y) (X:=X) a3;simp only [kv_cons,kv_nil] at i1;refine ⟨G',w',fun k He => ?_,fun e => ?_⟩
   ·have i3:=i1 k
    rw [sel_true];rw [ak M bM.eq_1];simp (maxSteps:=3000000) (maxDischargeDepth:=6) +contextual -implicitDefEqProofs only [amC M,↓amD,Nat.reduceBEq,Nat.reduceAdd,env,aj,aq,amG,AV.cell,Nat.reduceMul,Nat.reduceLeDiff,hp,hp1,hi,hx,hbb,hir,hwi,ct,gx,sx,c1,ho1,l1,l2,l3,l4,List.length_map,a1,a2,a3,sty,m1,m2,m3,m4,i3]
   ·rw [sel_true] at e
    rw [sel_true];exact i2 e
  |false=>
  rw [sel_false,sel_false];have h3:=fun k He=>rr3 M hsl (ts:=ts) (H0:=H0) (H:=G++[AObj.cells [.int .u8 b.kind,.slice .nil 3 []] aM]) (X:=[]) (v2:=.ptr p 0) (v4:=.ptr r 0) (v12:=.ptr o 0) (v14:=.ptr G.length 0) (q:=(i:Int)) k sl.length 0 [] He (by omega) (Nat.le_refl _)
  simp only [kv_cons,kv_nil,Int.ofNat_zero,List.drop_zero,List.nil_append,List.length_nil,Nat.zero_mul,List.map_nil,List.append_assoc,List.cons_append,List.length_append,List.length_cons,Nat.zero_add] at h3;generalize hTk:AObj.tok ((bF (i:Int) sl).length*1) al=tk at h3;cases c2:Aa (bF (i:Int) sl) == 0 with
  |false=>
   refine ⟨G,v,fun k He => ?_,fun e => ?_⟩
   ·rw [sel_false,c2,sel_false]
    rw [ak M bM.eq_1];simp (maxSteps:=3000000) (maxDischargeDepth:=6) +contextual -implicitDefEqProofs only [amC M,↓amD,Nat.reduceBEq,Nat.reduceAdd,env,aj,aq,amG,AV.cell,Nat.reduceMul,Nat.reduceLeDiff,hp,hp1,hi,hx,hbb,hir,hwi,ct,gx,sx,c1,ho1,l1,l2,l3,l4,List.length_map,h3,k2,bQ,List.getElem?_cons_zero,List.getElem?_cons_succ,c2,hr1,hst,hsf,hh]
   ·rw [sel_false,c2] at e;cases e
  |true=>
  have hwl:=Jd c2;have k3:=fun H=>Ei M hS (l:=pQ (bF (i:Int) sl)) (tg:=pO (pQ (bF (i:Int) sl))) (by simp only [aX];omega) H
  rw [sel_true];cases c3:nf (pQ (bF (i:Int) sl)) with
  |false=>
   refine ⟨G,v,fun k He => ?_,fun e => ?_⟩
   ·rw [sel_false,show ((8:Int) == 0)=false from rfl,sel_false]
    rw [ak M bM.eq_1];simp (maxSteps:=3000000) (maxDischargeDepth:=6) +contextual -implicitDefEqProofs only [amC M,↓amD,Nat.reduceBEq,Nat.reduceAdd,env,aj,aq,amG,AV.cell,Nat.reduceMul,Nat.reduceLeDiff,hp,hp1,hi,hx,hbb,hir,hwi,ct,gx,sx,c1,ho1,l1,l2,l3,l4,List.length_map,h3,k2,bQ,List.getElem?_cons_zero,List.getElem?_cons_succ,c2,k3,c3,hr1,hst,hsf,hh,Bool.not_false,(show ((8:Int) == 0)=false from rfl)]
   ·rw [sel_false] at e;cases e
  |true=>
   obtain ⟨w,G2,m1,m2,m3,m4,G',w',i1,i2⟩:=more (x:=⟨b.kind,⟨pO (pQ (bF (i:Int) sl)),pQ (bF (i:Int) sl)⟩⟩) (y:=.slice (pO (pQ (bF (i:Int) sl))) 3 ((pQ (bF (i:Int) sl)).map ag.row)) (X:=[tk]) (by rw [ng]);simp only [kv_cons,kv_nil] at i1;have stg:=stv [tk] (.int .u8 b.kind) (.slice .nil 3 []) (.slice (pO (pQ (bF (i:Int) sl))) 3 ((pQ (bF (i:Int) sl)).map ag.row)) rfl;refine ⟨G',w',fun k He => ?_,fun e => ?_⟩
   ·have i3:=i1 k
    rw [sel_true];rw [ak M bM.eq_1];simp (maxSteps:=3000000) (maxDischargeDepth:=6) +contextual -implicitDefEqProofs only [amC M,↓amD,Nat.reduceBEq,Nat.reduceAdd,env,aj,aq,amG,AV.cell,Nat.reduceMul,Nat.reduceLeDiff,hp,hp1,hi,hx,hbb,hir,hwi,ct,gx,sx,c1,ho1,l1,l2,l3,l4,List.length_map,h3,k2,bQ,List.getElem?_cons_zero,List.getElem?_cons_succ,c2,k3,c3,Bool.not_true,ng,stg,m1,m2,m3,m4,i3]
   ·rw [sel_true] at e
    exact i2 e
end
section
attribute [local congr] aI bR aZ aJ aY aR aK aC aD aS aT
variable{E:bG}(M:cJ cM E)
theorem A1(sl:List bq):∀ (bl:List aF) (i:Nat),Bt (fun k=>bF (k:Int) sl) i bl=yd sl i bl
 |[],_=>rfl
 |b::t,i=>by
  rw [Bt,yd,A1 sl t (i+1)]
  have h:decide ((bF (i:Int) sl).length=0) = !ofB (i:Int) sl:=by
   unfold bF ofB;rw [List.length_map];cases c:sl.any fun s=>s.block == (i:Int) with
   |true=>
    obtain ⟨x,h1,h2⟩:=List.any_eq_true.1 c
    have:0<(sl.filter fun s=>s.block == (i:Int)).length:=List.length_pos_of_mem (List.mem_filter.2 ⟨h1,h2⟩)
    rw [Bool.not_true];exact decide_eq_false (by omega)
   |false=>
    rw [Bool.not_false];refine decide_eq_true (List.length_eq_zero_iff.2 (List.filter_eq_nil_iff.2 fun x hx hb => ?_));have:=List.any_eq_false.1 c x hx;exact this hb
  rw [h,Bool.not_or]
def Je(sl:List bq)(bl:List aF):Int:=sel (ki bl == 0) (sel (z7 bl none sl) 1 (sel (yd sl 0 bl) 1 (qP (fun k=>bF (k:Int) sl) 0 bl))) (ki bl)
def xu(g:List ag→Tag)(sl:List bq)(bl:List aF):List aF:=sel (Je sl bl == 0) (qq g (fun k=>bF (k:Int) sl) 0 bl) []
def A2(l:List aF):Tag:=match l with
 |[]=>.nil
 |_=>.any
def OU(g:List ag→Tag)(sl:List bq)(bl:List aF):AV:=.tuple [.agg [.slice (A2 (xu g sl bl)) 2 ((xu g sl bl).map aF.row)],.int .u8 (Je sl bl)]
theorem QO(m:List ag):szQ m=m.length+jG m:=by
 unfold szQ jG;induction m with
 |nil=>rfl
 |cons x m ih=>simp only [List.map_cons,List.sum_cons,List.length_cons,ih];omega
theorem OW:∀ l:List (Sl ag),(∀ p∈l,p.l.length+jG p.l≤2600)→szL l≤l.length*2600
 |[],_=>Nat.zero_le _
 |p::l,h=>by
  have h1:=OW l fun q hq=>h q (by simp [hq])
  have h2:=h p (by simp);have h3:=QO p.l;rw [Ef,List.length_cons,Nat.add_mul,Nat.one_mul];omega
theorem Jf{sl:List bq}(hsl:sl.length≤3100)(hs:∀ s∈sl,s.pieces.l.length+jG s.pieces.l≤2600)(k:Nat):(bF (k:Int) sl).length≤1000000∧(∀ p∈bF (k:Int) sl,p.l.length≤1000000∧nz p.l)∧szL (bF (k:Int) sl)≤100000000:=by
 have hlen:(bF (k:Int) sl).length≤3100:=by
  unfold bF;rw [List.length_map];exact Nat.le_trans (List.length_filter_le _ _) hsl
 have hp:∀ p∈bF (k:Int) sl,p.l.length+jG p.l≤2600:=fun p hp=>by
  obtain ⟨s,h1,rfl⟩:=List.mem_map.1 hp;exact hs s (List.mem_filter.1 h1).1
 refine ⟨by omega,fun p h => ?_, ?_⟩
 ·have h1:=hp p h
  exact ⟨by omega,fun x hx=>by have:=qM hx;omega⟩
 ·have:=OW _ hp
  have h4:(bF (k:Int) sl).length*2600≤3100*2600:=Nat.mul_le_mul_right _ hlen;omega
theorem QP{g:List ag→Tag}(hg:∀ l,(g l).fzd=g l){f:Nat→List (Sl ag)}{n k:Nat}{H:List AObj}(i:Nat)(bl:List aF):ft (ft (fzF (k+3) n H)) ((qq g f i bl).map aF.row)=some ((qq g f i bl).map aF.row):=by
 have hz:∀ (bl:List aF) (i:Nat),∀ x∈qq g f i bl,x.pieces.tag.fzd=x.pieces.tag:=by
  intro bl;induction bl with
  |nil=>intro i x hx;cases hx
  |cons b t ih=>
   intro i x hx;rw [qq] at hx;rcases List.mem_cons.1 hx with rfl | hx
   ·cases b.kind == 6
    ·rw [sel_false];dsimp only;cases pQ (f i)<;>rfl
    ·rw [sel_true];exact hg _
   ·exact ih _ x hx
 exact Da fun x hx=>b6 (uM _ _ _ _ _) (b6 (by
  have h:=rJ (k:=k+2) (n:=n) (H:=H) (t:=x.pieces.tag) (sz:=3) (OD (k:=k+1) (n:=n) (H:=H) x.pieces.l);rw [hz bl i x hx] at h;exact h) (dQ _))
theorem QQ{g:List ag→Tag}(hg:∀ l,(g l).fzd=g l){f:Nat→List (Sl ag)}{n k m:Nat}{H G:List AObj}{v:AV}{bl:List aF}(h:AZ m H v (qq g f 0 bl)):fzF (k+4) n G v=some (.slice (A2 (qq g f 0 bl)) 2 ((qq g f 0 bl).map aF.row)):=by
 rcases h with ⟨h1,rfl⟩ | ⟨h0,t,_,rfl,h3⟩
 ·rw [h1];exact rJ (t:=.nil) (dQ _)
 ·have h:=rJ (k:=k+3) (n:=n) (H:=G) (t:=.own t) (sz:=2) (QP hg (f:=f) 0 bl)
  rw [h];generalize qq g f 0 bl=x at *
  cases x with
  |nil=>exact absurd rfl h0
  |cons b t=>rfl
theorem Rg{g:List ag→Tag}(hg:∀ l,(g l).fzd=g l){H0 G:List AObj}(h1:H0.length≤G.length)(h2:∀ m,m<H0.length→G[m]?=H0[m]?){f:Nat→List (Sl ag)}{v:AV}{bl:List aF}{m:Nat}{H:List AObj}(h:AZ m H v (qq g f 0 bl))(e:Int) :
  pZ cM .deep H0 G (.tuple [.agg [v],.int .u8 e])=some (.tuple [.agg [.slice (A2 (qq g f 0 bl)) 2 ((qq g f 0 bl).map aF.row)],.int .u8 e],H0):=by
 obtain ⟨hc,ht⟩:=rY h1 h2;rw [kx hc ⟨8,ph (b6 (NL (b6 (QQ hg (k:=2) h) (dQ _))) (b6 (uM _ _ _ _ _) (dQ _)))⟩,ht]
theorem El{l:List aF}(h:(ki l == 0)=true):l.length≤256:=(z6 h).1
theorem G9(hB:gA E)(hC:jT E)(hS:qO E){sl:List bq}{ts:Tag}(hsl:sl.length≤3100)(hs:∀ s∈sl,s.pieces.l.length+jG s.pieces.l≤2600){d:Docu}(hd:d.ok 0)(hsz:d.blocks.l.length≤256→∀ b∈d.blocks.l,b.pieces.l.length+jG b.pieces.l≤2600)(H:List AObj) :
  M.run jY [.agg d.row,.slice ts 2 (sl.map bq.row)] H=some (.ret (OU pO sl d.blocks.l),H):=by
 have l1:∀ x:AV,bn none [x] 0=some x:=fun _=>rfl
 have l2:∀ x:AV,bn (some 1) [x] 0=some (.agg [x]):=fun _=>rfl
 have k1:=fun H=>Ej M hB hS hd (fun h b hb=>by
  have z:=hsz h b hb;exact ⟨by omega,fun x hx=>by have:=qM hx;omega⟩) H
 have g0:∀ X,(H++AObj.cells d.row ae::X)[H.length]?=some (.cells d.row ae):=fun X=>by rw [aL];rfl
 have g1:∀ y X,(H++y::AObj.cells [.slice .nil 2 []] ae::X)[H.length+1]?=some (.cells [.slice .nil 2 []] ae):=fun y X=>by rw [hp_getk];rfl
 have hst:=fun X=>G8 (g1 (AObj.cells d.row ae) X)
 have hsf:=fun X=>Ek (g1 (AObj.cells d.row ae) X)
 have hh:=fun X e=>Br (cut_app H X) e
 simp only [hp_take] at hh;rw [br M hS.truchmanref01_Restore rfl (c:=j8) rfl,j8];unfold OU xu Je;cases c0:ki d.blocks.l == 0 with
 |false=>
  rw [sel_false,c0,sel_false];simp (maxSteps:=3000000) (maxDischargeDepth:=6) +contextual -implicitDefEqProofs only [amC M,↓amD,Nat.reduceBEq,Nat.reduceAdd,env,aj,aq,amG,AV.cell,Nat.reduceMul,Nat.reduceLeDiff,g0,g1,iR,k1,c0,hst,hsf,hh,Bool.not_false,l2,A2,List.map_nil]
 |true=>
 rw [sel_true];have hb:=El c0;have r0:=fun k He=>rr0 M (sl:=sl) (ts:=ts) (tg:=d.blocks.tag) (by omega) (bl:=d.blocks.l) (by omega) (H0:=H) (H:=H++[AObj.cells d.row ae,AObj.cells [.slice .nil 2 []] ae]) (cut_app H _) (p:=H.length) (r:=H.length+1) (by omega) (g0 _) (g1 _ _) k sl.length 0 He (by omega)
 simp only [kv_cons,kv_nil,Int.ofNat_zero,List.drop_zero,hp_take,vS] at r0;cases c1:z7 d.blocks.l none sl with
 |true=>
  simp only [c1,sel_true] at r0;rw [sel_true,show ((1:Int) == 0)=false from rfl,sel_false];simp (maxSteps:=3000000) (maxDischargeDepth:=6) +contextual -implicitDefEqProofs only [amC M,↓amD,Nat.reduceBEq,Nat.reduceAdd,env,aj,aq,amG,AV.cell,Nat.reduceMul,Nat.reduceLeDiff,g0,g1,iR,k1,c0,Bool.not_true,l1,l2,r0,A2,List.map_nil]
 |false=>
 simp only [c1,sel_false] at r0;have r1:=fun k He=>rr2 M (sl:=sl) (ts:=ts) (tg:=d.blocks.tag) (by omega) (bl:=d.blocks.l) (by omega) (H0:=H) (H:=H++[AObj.cells d.row ae,AObj.cells [.slice .nil 2 []] ae]) (cut_app H _) (p:=H.length) (r:=H.length+1) (by omega) (g0 _) (g1 _ _) k d.blocks.l.length 0 He (by omega)
 simp only [kv_cons,kv_nil,Int.ofNat_zero,List.drop_zero,hp_take] at r1;rw [sel_false];cases c2:yd sl 0 d.blocks.l with
 |true=>
  simp only [c2,sel_true] at r1;rw [sel_true,show ((1:Int) == 0)=false from rfl,sel_false];simp (maxSteps:=3000000) (maxDischargeDepth:=6) +contextual -implicitDefEqProofs only [amC M,↓amD,Nat.reduceBEq,Nat.reduceAdd,env,aj,aq,amG,AV.cell,Nat.reduceMul,Nat.reduceLeDiff,g0,g1,iR,k1,c0,Bool.not_true,l1,l2,r0,r1,A2,List.map_nil]
 |false=>
 simp only [c2,sel_false] at r1;rw [sel_false];obtain ⟨G',w,i1,i2⟩:=rr4 M hB hC hS (sl:=sl) (ts:=ts) (tg:=d.blocks.tag) (by omega) (bl:=d.blocks.l) (by omega) (fun b hb2=>by have:=hsz hb b hb2;omega) (H0:=H) (p:=H.length) (r:=H.length+1) (o:=H.length+2) (Jf hsl hs) (by omega) (by omega) (by omega) d.blocks.l.length 0 (H++[AObj.cells d.row ae,AObj.cells [.slice .nil 2 []] ae,AObj.cells [.slice .nil 2 []] ae]) [] (.slice .nil 2 []) (by omega) (Nat.le_refl _) (g0 _) (g1 _ _) (by rw [hp_getk];rfl) (.inl ⟨rfl,rfl⟩) (by simp) (fun m hm=>List.getElem?_append_left hm)
 simp only [kv_cons,kv_nil,Int.ofNat_zero,List.drop_zero,List.nil_append] at i1 i2;cases c3:qP (fun k=>bF (k:Int) sl) 0 d.blocks.l == 0 with
 |false=>
  simp only [c3,sel_false] at i1;rw [sel_false];simp (maxSteps:=3000000) (maxDischargeDepth:=6) +contextual -implicitDefEqProofs only [amC M,↓amD,Nat.reduceBEq,Nat.reduceAdd,env,aj,aq,amG,AV.cell,Nat.reduceMul,Nat.reduceLeDiff,g0,g1,iR,k1,c0,Bool.not_true,l1,l2,r0,r1,i1,A2,List.map_nil,List.append_assoc,List.cons_append,List.nil_append]
 |true=>
  simp only [c3,sel_true] at i1;obtain ⟨j1,j2,j3,j4,j5⟩:=i2 c3;rw [sel_true];have e0:qP (fun k=>bF (k:Int) sl) 0 d.blocks.l=0:=by simpa using c3
  have st2:stO 1 G' (H.length+1) 0 [w] (some (.cells [.slice .nil 2 []] ae))=some (G'.set (H.length+1) (.cells [w] ae)):=by
   rw [stO_cells (sz:=1) rfl (by simp) (by rcases j3 with ⟨_,rfl⟩ | ⟨_,t,_,rfl,_⟩<;>rfl)];rfl
  have cw:cP w=some [w]:=by rcases j3 with ⟨_,rfl⟩ | ⟨_,t,_,rfl,_⟩<;>rfl
  have gs:(G'.set (H.length+1) (.cells [w] ae))[H.length+1]?=some (.cells [w] ae):=List.getElem?_set_self (cg j1);have dd:=Rg (g:=pO) (fun l=>by cases l<;>rfl) (H0:=H) (G:=G'.set (H.length+1) (.cells [w] ae)) (by simpa using j4) (fun m hm=>by rw [List.getElem?_set_ne (by omega)];exact j5 m hm) j3 0;rw [e0];simp (maxSteps:=3000000) (maxDischargeDepth:=6) +contextual -implicitDefEqProofs only [amC M,↓amD,Nat.reduceBEq,Nat.reduceAdd,env,aj,aq,amG,AV.cell,Nat.reduceMul,Nat.reduceLeDiff,g0,g1,iR,k1,c0,Bool.not_true,l1,l2,r0,r1,i1,j1,j2,cw,st2,gs,dd,List.append_assoc,List.cons_append,List.nil_append]
theorem Ha(hB:gA E)(hX:vO M)(hC:jT E)(hS:qO E){sl:List bq}{ts:Tag}(hsl:sl.length≤3100)(hs:∀ s∈sl,s.pieces.l.length+jG s.pieces.l≤2600){d:Docu}(hd:d.ok 0)(hkn:∀ b∈d.blocks.l,b.pieces.kn)(hsz:d.blocks.l.length≤256→∀ b∈d.blocks.l,b.pieces.l.length+jG b.pieces.l≤2600)(H:List AObj) :
  M.run sj [.agg d.row,.slice ts 2 (sl.map bq.row)] H=some (.ret (OU (fun _=>.any) sl d.blocks.l),H):=by
 have l1:∀ x:AV,bn none [x] 0=some x:=fun _=>rfl
 have l2:∀ x:AV,bn (some 1) [x] 0=some (.agg [x]):=fun _=>rfl
 have k1:=fun H=>Eh M hB hX hS hd (fun h b hb=>by
  have z:=hsz h b hb;exact ⟨by omega,fun x hx=>by have:=qM hx;omega⟩) H
 have g0:∀ X,(H++AObj.cells d.row ae::X)[H.length]?=some (.cells d.row ae):=fun X=>by rw [aL];rfl
 have g1:∀ y X,(H++y::AObj.cells [.slice .nil 2 []] ae::X)[H.length+1]?=some (.cells [.slice .nil 2 []] ae):=fun y X=>by rw [hp_getk];rfl
 have hst:=fun X=>G8 (g1 (AObj.cells d.row ae) X)
 have hsf:=fun X=>Ek (g1 (AObj.cells d.row ae) X)
 have hh:=fun X e=>Br (cut_app H X) e
 simp only [hp_take] at hh;rw [br M hS.docs_Restore rfl (c:=ss) rfl,ss];unfold OU xu Je;cases c0:ki d.blocks.l == 0 with
 |false=>
  rw [sel_false,c0,sel_false];simp (maxSteps:=3000000) (maxDischargeDepth:=6) +contextual -implicitDefEqProofs only [amC M,↓amD,Nat.reduceBEq,Nat.reduceAdd,env,aj,bp,amG,AV.cell,Nat.reduceMul,Nat.reduceLeDiff,g0,g1,iR,k1,c0,hst,hsf,hh,Bool.not_false,l2,A2,List.map_nil]
 |true=>
 rw [sel_true];have hb:=El c0;obtain ⟨G0,hG⟩:∃ G,G=H++[AObj.cells d.row ae,AObj.cells [.slice .nil 2 []] ae,AObj.cells (List.replicate d.blocks.l.length (.slice .nil 0 [])) bu]:=⟨_,rfl⟩
 have hG0:G0.length=H.length+3:=by rw [hG];simp
 have q0:G0[H.length]?=some (.cells d.row ae):=by rw [hG];exact g0 _
 have q1:G0[H.length+1]?=some (.cells [.slice .nil 2 []] ae):=by rw [hG];exact g1 _ _
 have q2:G0[H.length+2]?=some (.cells (List.replicate d.blocks.l.length (.slice .nil 0 [])) bu):=by rw [hG,hp_getk];rfl
 have lowG:∀ m,m<H.length→G0[m]?=H[m]? := fun m hm=>by rw [hG,List.getElem?_append_left hm]
 have rep:∀ (k:Nat) (v:AV),(List.replicate d.blocks.l.length (AV.slice .nil 0 []))[k]?=some v→v = .slice .nil 0 []:=fun k v hv=>by
  rw [List.getElem?_replicate] at hv;split at hv
  ·cases hv;rfl
  ·cases hv
 have hms:rms (H++[AObj.cells d.row ae,AObj.cells [.slice .nil 2 []] ae]) bu 24 [.slice .nil 0 []] (.int .i64 d.blocks.l.length) (.int .i64 d.blocks.l.length)=some (.rslice (H.length+2) 0 d.blocks.l.length 1 true,G0):=by
  have z1:(0:Int)≤(d.blocks.l.length:Int)∧(d.blocks.l.length:Int)≤(d.blocks.l.length:Int)∧(d.blocks.l.length:Int).toNat*24≤140737488355328∧(d.blocks.l.length:Int)≤4611686018427387904:=by omega
  have z2:∀ n:Nat,(List.replicate n [AV.slice .nil 0 []]).flatten=List.replicate n (.slice .nil 0 []):=fun n=>by
   induction n with
   |zero=>rfl
   |succ n ih=>rw [List.replicate_succ,List.flatten_cons,ih,List.replicate_succ];rfl
  simp only [rms,if_pos z1,Int.toNat_natCast,z2,hG];simp;omega
 have pv0:ru (fun j=>j<H.length+2) G0 (H.length+2) d.blocks.l.length (fun _=>[]) (List.replicate d.blocks.l.length (.slice .nil 0 [])):=
  ⟨by omega,q2,by simp,fun k v hv=>.inl ⟨rfl,0,rep k v hv⟩,fun i j t r s h1 h2=>by have:=rep _ _ h1;(cases this),fun k t r h1=>by have:=rep _ _ h1;(cases this)⟩
 obtain ⟨G1,vs,a1,a2⟩:=dr0 M (sl:=sl) (ts:=ts) (tg:=d.blocks.tag) (by omega) (bl:=d.blocks.l) (by omega) (H0:=H) (R:=fun j=>j<H.length+2) (fun j hj=>by omega) (p:=H.length) (r:=H.length+1) (P:=H.length+2) (by omega) (by omega) sl.length 0 G0 (fun _=>[]) _ (by omega) (fun _=>Nat.le_refl _) pv0 q0 q1 (fun j hj=>by omega) (by omega) lowG;simp only [kv_cons,kv_nil,Int.ofNat_zero,List.drop_zero,vS,List.nil_append] at a1 a2
 cases c1:z7 d.blocks.l none sl with
 |true=>
  simp only [c1,sel_true] at a1;rw [sel_true,show ((1:Int) == 0)=false from rfl,sel_false];simp (maxSteps:=3000000) (maxDischargeDepth:=6) +contextual -implicitDefEqProofs only [amC M,↓amD,Nat.reduceBEq,Nat.reduceAdd,env,aj,bp,amG,AV.cell,Nat.reduceMul,Nat.reduceLeDiff,g0,g1,iR,k1,c0,Bool.not_true,l1,l2,List.length_map,hms,a1,A2,List.map_nil]
 |false=>
 simp only [c1,sel_false] at a1;obtain ⟨b1,b2,b3⟩:=a2 c1;have hcg:=rY (show H.length≤G1.length by omega) (fun m hm=>by rw [b3 m (by omega),lowG m hm]);have b4:ru (fun j=>j<H.length) G1 (H.length+2) d.blocks.l.length (fun k=>bF (k:Int) sl) vs:=⟨by omega,b1.cell,b1.len,b1.own,b1.ne,fun k t r h1 h2=>b1.fr k t r h1 (by omega)⟩
 have q1':G1[H.length+1]?=some (.cells [.slice .nil 2 []] ae):=by rw [b3 _ (by omega)];exact q1
 have q0':G1[H.length]?=some (.cells d.row ae):=by rw [b3 _ (by omega)];exact q0
 have low1:∀ m,m<H.length→G1[m]?=H[m]? := fun m hm=>by rw [b3 m (by omega)];exact lowG m hm
 obtain ⟨G2,d1,X2,hX2⟩:=dr1 M (bl:=d.blocks.l) (tg:=d.blocks.tag) (by omega) (H0:=H) (P:=H.length+2) (r:=H.length+1) (v2:=.ptr H.length 0) d.blocks.l.length 0 G1 (by omega) b4 q1' (by omega) low1;simp only [kv_cons,kv_nil,Int.ofNat_zero,List.drop_zero,A1] at d1;rw [sel_false];cases c2:yd sl 0 d.blocks.l with
 |true=>
  simp only [c2,sel_true] at d1;rw [sel_true,show ((1:Int) == 0)=false from rfl,sel_false];simp (maxSteps:=3000000) (maxDischargeDepth:=6) +contextual -implicitDefEqProofs only [amC M,↓amD,Nat.reduceBEq,Nat.reduceAdd,env,aj,bp,amG,AV.cell,Nat.reduceMul,Nat.reduceLeDiff,g0,g1,iR,k1,c0,Bool.not_true,l1,l2,List.length_map,hms,a1,q0',q1',d1,A2,List.map_nil]
 |false=>
 simp only [c2,sel_false] at d1;rw [sel_false];have q2':(G2++[AObj.cells [.slice .nil 2 []] ae])[H.length+2]?=some (.cells vs bu):=by rw [hX2,List.append_assoc];exact bD b1.cell
 have q1'':(G2++[AObj.cells [.slice .nil 2 []] ae])[H.length+1]?=some (.cells [.slice .nil 2 []] ae):=by rw [hX2,List.append_assoc];exact bD q1'
 have q0'':∀ X,(G2++X)[H.length]?=some (.cells d.row ae):=fun X=>by rw [hX2,List.append_assoc];exact bD q0'
 have hG2:H.length+3≤G2.length:=by rw [hX2];simp;omega
 obtain ⟨G',w,i1,i2⟩:=dr2 M hB hX hC hS (bl:=d.blocks.l) (tg:=d.blocks.tag) (by omega) (fun b hb2=>⟨hkn b hb2,by have:=hsz hb b hb2;omega⟩) (H0:=H) (P:=H.length+2) (r:=H.length+1) (o:=G2.length) (f:=fun k=>bF (k:Int) sl) (vs:=vs) b1.len (fun k v hv hne=>by
   rcases b1.own k v hv with ⟨h1,_⟩ | ⟨t,h1,_⟩
   ·exact absurd h1 hne
   ·exact ⟨.own t,h1⟩) (Jf hsl hs) (by omega) (by omega) d.blocks.l.length 0 (G2++[AObj.cells [.slice .nil 2 []] ae]) [] (.slice .nil 2 []) (by omega) (by rw [List.drop_zero,A1];exact c2) (Nat.le_refl _) q2' q1'' (by rw [aL];rfl) (.inl ⟨rfl,rfl⟩) (by simp;omega) (fun m hm=>by rw [hX2,List.append_assoc,List.getElem?_append_left (by omega)];exact low1 m hm)
 simp only [kv_cons,kv_nil,Int.ofNat_zero,List.drop_zero,List.nil_append] at i1 i2;cases c3:qP (fun k=>bF (k:Int) sl) 0 d.blocks.l == 0 with
 |false=>
  simp only [c3,sel_false] at i1;rw [sel_false];simp (maxSteps:=3000000) (maxDischargeDepth:=6) +contextual -implicitDefEqProofs only [amC M,↓amD,Nat.reduceBEq,Nat.reduceAdd,env,aj,bp,amG,AV.cell,Nat.reduceMul,Nat.reduceLeDiff,g0,g1,iR,k1,c0,Bool.not_true,l1,l2,List.length_map,hms,a1,q0',q1',d1,q0'',i1,A2,List.map_nil]
 |true=>
  simp only [c3,sel_true] at i1;obtain ⟨j1,j2,j3,j4,j5⟩:=i2 c3;rw [sel_true];have e0:qP (fun k=>bF (k:Int) sl) 0 d.blocks.l=0:=by simpa using c3
  have st2:stO 1 G' (H.length+1) 0 [w] (some (.cells [.slice .nil 2 []] ae))=some (G'.set (H.length+1) (.cells [w] ae)):=by
   rw [stO_cells (sz:=1) rfl (by simp) (by rcases j3 with ⟨_,rfl⟩ | ⟨_,t,_,rfl,_⟩<;>rfl)];rfl
  have cw:cP w=some [w]:=by rcases j3 with ⟨_,rfl⟩ | ⟨_,t,_,rfl,_⟩<;>rfl
  have gs:(G'.set (H.length+1) (.cells [w] ae))[H.length+1]?=some (.cells [w] ae):=List.getElem?_set_self (cg j1);have dd:=Rg (g:=fun _=>.any) (fun l=>rfl) (H0:=H) (G:=G'.set (H.length+1) (.cells [w] ae)) (by simpa using j4) (fun m hm=>by rw [List.getElem?_set_ne (by omega)];exact j5 m hm) j3 0;rw [e0];simp (maxSteps:=3000000) (maxDischargeDepth:=6) +contextual -implicitDefEqProofs only [amC M,↓amD,Nat.reduceBEq,Nat.reduceAdd,env,aj,bp,amG,AV.cell,Nat.reduceMul,Nat.reduceLeDiff,g0,g1,iR,k1,c0,Bool.not_true,l1,l2,List.length_map,hms,a1,q0',q1',d1,q0'',i1,j1,j2,cw,st2,gs,dd]
theorem F0{g g':List ag→Tag}{f:Nat→List (Sl ag)}:∀ (bl:List aF) (i:Nat),(∀ b∈bl,b.pieces.l.length≤aX)→(qP f i bl == 0)=true→I7 (qq g f i bl) (qq g' f i bl)
 |[],_,_,_=>⟨rfl,fun i x y h=>by simp [qq] at h⟩
 |b::t,i,hb,he=>by
  rw [qP] at he
  have hr:(qP f (i+1) t == 0)=true∧((b.kind == 6)=true∨(pQ (f i)).length≤aX):=by
   cases c1:b.kind == 6 with
   |true=>rw [c1,sel_true] at he;exact ⟨he,.inl rfl⟩
   |false=>
   rw [c1,sel_false] at he;cases c2:Aa (f i) == 0 with
   |false=>rw [c2,sel_false,c2] at he;cases he
   |true=>
   rw [c2,sel_true] at he;have:=Jd c2;cases c3:nf (pQ (f i)) with
   |false=>rw [c3,sel_false] at he;cases he
   |true=>rw [c3,sel_true] at he;exact ⟨he,.inr (by simp only [aX];omega)⟩
  have ih:=F0 (g:=g) (g':=g') (f:=f) t (i+1) (fun x hx=>hb x (by simp [hx])) hr.1;refine ⟨by rw [Ab,Ab],fun j x y hx hy => ?_⟩;rw [qq] at hx hy;cases j with
  |zero=>
   simp only [List.getElem?_cons_zero,Option.some.injEq] at hx hy;subst hx hy;cases c1:b.kind == 6 with
   |true=>rw [sel_true,sel_true];exact ⟨rfl,rfl,hb b (by simp)⟩
   |false=>
    rw [sel_false,sel_false];refine ⟨rfl,rfl, ?_⟩;rcases hr.2 with h | h
    ·rw [c1] at h;cases h
    ·exact h
  |succ j=>
   simp only [List.getElem?_cons_succ] at hx hy;exact ih.2 j x y hx hy
theorem OX{g g':List ag→Tag}{sl:List bq}{bl:List aF}(hb:∀ b∈bl,b.pieces.l.length≤aX):I7 (xu g sl bl) (xu g' sl bl):=by
 unfold xu;cases c:Je sl bl == 0 with
 |false=>exact ⟨rfl,fun i x y h=>by rw [sel_false] at h;simp at h⟩
 |true=>
  rw [sel_true,sel_true];refine F0 bl 0 hb ?_;unfold Je at c;cases c0:ki bl == 0 with
  |false=>rw [c0,sel_false,c0] at c;cases c
  |true=>
  cases c1:z7 bl none sl with
  |true=>rw [c0,sel_true,c1,sel_true] at c;cases c
  |false=>
  cases c2:yd sl 0 bl with
  |true=>rw [c0,sel_true,c1,sel_false,c2,sel_true] at c;cases c
  |false=>rw [c0,sel_true,c1,sel_false,c2,sel_false] at c;exact c
end
section
attribute [local congr] aI bR aZ aJ aY aR aK aC aD aS aT
variable{E:bG}(M:cJ cM E)
theorem Lo{rs:List Brk}:∀ (l:List aF) (i:Nat),(∀ b∈l,b.pieces.l.length+jG b.pieces.l≤2600)→oG rs l=false→(vm rs i l).length≤l.length*20000∧∀ s∈vm rs i l,s.pieces.l.length≤512
 |[],_,_,_=>⟨Nat.zero_le _,fun s hs=>(by cases hs)⟩
 |b::t,i,hb,h=>by
  rw [show oG rs (b::t)=((!(b.kind == 6)&&(jr rs b).any nR)||oG rs t) from rfl,Bool.or_eq_false_iff] at h;obtain ⟨h1,h2⟩:=Lo t (i+1) (fun x hx=>hb x (by simp [hx])) h.2;have hc:=yO (rs:=rs) (hb b (by simp));rw [vm];cases c1:b.kind == 6 with
  |true=>
   rw [sel_true,List.nil_append];exact ⟨by simp only [List.length_cons];omega,h2⟩
  |false=>
   rw [sel_false];refine ⟨by simp only [List.length_append,List.length_map,List.length_cons];omega,fun s hs => ?_⟩;rcases List.mem_append.1 hs with hs | hs
   ·obtain ⟨p,hp,rfl⟩:=List.mem_map.1 hs
    have hbg:=h.1;rw [c1,Bool.not_false,Bool.true_and] at hbg;have:=List.any_eq_false.1 hbg p hp;have h3:nR p=false:=by simpa using this
    have:=of_decide_eq_false h3;show p.length≤512;omega
   ·exact h2 s hs
theorem MK(rs:List Brk){l:List aF}(hsz:l.length≤256→∀ b∈l,b.pieces.l.length+jG b.pieces.l≤2600):∃ (o:List bq) (e:Int) (ta:Tag),MI rs l = .tuple [.slice ta 2 (o.map bq.row),.int .u8 e]∧o.length≤aX∧(∀ s∈o,s.pieces.l.length≤aX):=by
 have nil:∀ e:Int,∃ (o:List bq) (e':Int) (ta:Tag),AV.tuple [.slice .any 2 [],.int .u8 e] = .tuple [.slice ta 2 (o.map bq.row),.int .u8 e']∧o.length≤aX∧(∀ s∈o,s.pieces.l.length≤aX):=fun e=>⟨[],e,.any,rfl,Nat.zero_le _,fun s hs=>(by cases hs)⟩
 unfold MI;cases c0:ki l == 0 with
 |false=>rw [sel_false];exact nil _
 |true=>
 cases c1:kh rs == 0 with
 |false=>rw [sel_true,sel_false];exact nil _
 |true=>
 cases c2:oG rs l with
 |true=>rw [sel_true,sel_true,sel_true];exact nil _
 |false=>
  rw [sel_true,sel_true,sel_false];have hl:=(z6 c0).1;obtain ⟨h1,h2⟩:=Lo (rs:=rs) l 0 (hsz hl) c2;exact ⟨_,0,.any,rfl,by have:l.length*20000≤256*20000:=Nat.mul_le_mul_right _ hl;simp only [aX];omega,fun s hs=>by have:=h2 s hs;simp only [aX];omega⟩
theorem QR{l:List aF}(h:I4 l=false)(hl:l.length≤256):∀ b∈l,b.pieces.l.length+jG b.pieces.l≤2500:=fun b hb=>by
 unfold I4 at h;rw [List.take_of_length_le (by omega)] at h;cases c:vsB l with
 |true=>rw [c,sel_true] at h;cases h
 |false=>
  have:=List.any_eq_false.1 c b hb;exact AQ (by simpa using this)
theorem Lp:∀ (l:List bq) (n:Nat),zZ n l=false→(l=[]∨n+l.length≤3000)∧∀ s∈l,s.pieces.l.length+jG s.pieces.l≤2500
 |[],_,_=>⟨.inl rfl,fun s hs=>(by cases hs)⟩
 |s::t,n,h=>by
  rw [zZ] at h;cases c:decide (3000<n+1+s.pieces.l.length)||yb [s.pieces] with
  |true=>rw [c,sel_true] at h;cases h
  |false=>
   rw [c,sel_false] at h;rw [Bool.or_eq_false_iff] at c;have c1:=of_decide_eq_false c.1;obtain ⟨h1,h2⟩:=Lp t _ h;refine ⟨.inr ?_,fun x hx => ?_⟩
   ·rcases h1 with h1 | h1
    ·subst h1;simp only [List.length_cons,List.length_nil];omega
    ·simp only [List.length_cons];omega
   ·rcases List.mem_cons.1 hx with rfl | hx
    ·exact AQ c.2
    ·exact h2 x hx
theorem OY(g:List ag→Tag)(sl:List bq)(bl:List aF):(xu g sl bl).length≤bl.length:=by
 unfold xu;cases Je sl bl == 0 with
 |true=>rw [sel_true,Ab];exact Nat.le_refl _
 |false=>rw [sel_false];exact Nat.zero_le _
theorem ML{g g':List ag→Tag}{sl:List bq}{bl:List aF}(hsz:bl.length≤256→∀ b∈bl,b.pieces.l.length≤aX):I7 (xu g sl bl) (xu g' sl bl):=by
 by_cases hl:bl.length≤256
 ·exact OX (hsz hl)
 ·have h0:(ki bl == 0)=false:=by
   unfold ki;rw [decide_eq_true (by omega),sel_true];rfl
  have h1:∀ g:List ag→Tag,xu g sl bl=[]:=fun g=>by
   unfold xu Je;rw [h0,sel_false,h0,sel_false]
  rw [h1,h1];exact ⟨rfl,fun i x y h=>by simp at h⟩
def Docu.kt(d:Docu):Prop:=∀ b∈d.blocks.l,b.pieces.kn
theorem A3(hB:gA E)(hX:vO M)(hU:fT E)(hN:J4 E)(hC:jT E)(hS:qO E){d:Docu}(hd:d.ok 0∧d.kt){rs:Sl Brk}(hrs:rs.ok 0 (Brk.ok 0)){l:Sl bq}(hl:l.ok 0 (bq.ok 0)){H:List AObj}
  (hL:∀ H,M.run dL [] H=some (.ret (.bool true),H)):M.run il [.agg d.row,.slice rs.tag 3 (rs.l.map Brk.row),.slice l.tag 2 (l.l.map bq.row)] H=some (.ret (.bool true),H):=by
 have s1:=fun H=>OL M hB hU hS hd.1 H
 have s2:=fun H=>J7 M hU hrs H
 have s3:=fun H=>OM M hB hS hl H
 have g0:∀ X,(H++AObj.cells d.row ae::X)[H.length]?=some (.cells d.row ae):=fun X=>by rw [aL];rfl
 have g1:∀ y z X,(H++y::z::X)[H.length+1]?=some z:=fun y z X=>by rw [hp_getk];rfl
 have g2:∀ x y z X,(H++x::y::z::X)[H.length+2]?=some z:=fun x y z X=>by rw [hp_getk];rfl
 rw [br M hS.truchmanlaw01_DocsSegments rfl (c:=ir) rfl,ir];cases c1:I4 d.blocks.l with
 |true=>simp (maxSteps:=3000000) (maxDischargeDepth:=6) +contextual -implicitDefEqProofs only [amC M,↓amD,Nat.reduceBEq,Nat.reduceAdd,env,aj,eR,amG,AV.cell,Nat.reduceMul,Nat.reduceLeDiff,g0,iR,s1,c1,hL,hp_take,cut_app]
 |false=>
 cases c2:xB rs.l with
 |true=>simp (maxSteps:=3000000) (maxDischargeDepth:=6) +contextual -implicitDefEqProofs only [amC M,↓amD,Nat.reduceBEq,Nat.reduceAdd,env,aj,eR,amG,AV.cell,Nat.reduceMul,Nat.reduceLeDiff,g0,iR,s1,s2,c1,c2,hL,hp_take,cut_app]
 |false=>
 cases c3:zZ 0 l.l with
 |true=>simp (maxSteps:=3000000) (maxDischargeDepth:=6) +contextual -implicitDefEqProofs only [amC M,↓amD,Nat.reduceBEq,Nat.reduceAdd,env,aj,eR,amG,AV.cell,Nat.reduceMul,Nat.reduceLeDiff,g0,iR,s1,s2,s3,c1,c2,c3,hL,hp_take,cut_app]
 |false=>
 have hv:=QR c1;have hm:=Lp l.l 0 c3;have hr:=J8 c2;have hr0:=(yc c2).1
 have hln:l.l.length≤3000:=by
  rcases hm.1 with h | h
  ·rw [h];exact Nat.zero_le _
  ·omega
 have v1:=fun H=>E9 M hB hX hU hN hC hS hrs (by omega) hr hd.1 (fun h b hb=>by have:=hv h b hb;omega) H
 have v2:=fun H=>Fa M hB hU hC hS hrs (by omega) hr hd.1 (fun h b hb=>by have:=hv h b hb;omega) H
 obtain ⟨o,e,ta,h1,h2,h3⟩:=MK rs.l (l:=d.blocks.l) (fun h b hb=>by have:=hv h b hb;omega);rw [h1] at v1 v2;have v3:=fun H=>AY M hB hS h2 h3 (ta:=ta) (tb:=ta) H
 have v4:=fun H=>Ha M hB hX hC hS (sl:=l.l) (ts:=l.tag) (by omega) (fun s hs=>by have:=hm.2 s hs;omega) hd.1 hd.2 (fun h b hb=>by have:=hv h b hb;omega) H
 have v5:=fun H=>G9 M hB hC hS (sl:=l.l) (ts:=l.tag) (by omega) (fun s hs=>by have:=hm.2 s hs;omega) hd.1 (fun h b hb=>by have:=hv h b hb;omega) H
 have v6:=fun H=>OR M hB hS (a:=⟨⟨A2 (xu (fun _=>.any) l.l d.blocks.l),xu (fun _=>.any) l.l d.blocks.l⟩⟩) (b:=⟨⟨A2 (xu pO l.l d.blocks.l),xu pO l.l d.blocks.l⟩⟩) (ML fun h b hb=>by have:=hv h b hb;simp only [aX];omega) (Nat.le_trans (OY _ _ _) hd.1.blocks.len) H
 simp only [Docu.row] at v6;unfold OU at v4 v5;simp (maxSteps:=3000000) (maxDischargeDepth:=6) +contextual -implicitDefEqProofs only [amC M,↓amD,Nat.reduceBEq,Nat.reduceAdd,env,aj,eR,amG,AV.cell,Nat.reduceMul,Nat.reduceLeDiff,g0,g1,g2,iR,s1,s2,s3,c1,c2,c3,v1,v2,v3,v4,v5,v6,hL,bQ,List.getElem?_cons_zero,List.getElem?_cons_succ,beq_self_eq_true,Bool.not_true,hp_take,cut_app]
end
section
open Go.ChangeShapes Go.WideShapes
structure pR (P:Program):Prop where
 u_api_PieceKind:P.underlying qY=some (.int .u8)
 c_api_PieceKind:P.cellsOf qY=1
 u_string:P.underlying aH=some .string
 c_string:P.cellsOf aH=1
 u_bool:P.underlying Dm=some .bool
 c_bool:P.cellsOf Dm=1
 f_Piece:fieldsOf P ah=some [(0,qY),(1,aH),(2,Dm)]
 c_Piece:P.cellsOf ah=3
 u_sl_Piece:P.underlying al=some (.slice ah)
 c_sl_Piece:P.cellsOf al=1
 y_Piece:Nat.blt 0 (P.bytesOf ah)=true
 u_api_BlockKind:P.underlying qX=some (.int .u8)
 c_api_BlockKind:P.cellsOf qX=1
 f_Block:fieldsOf P aM=some [(0,qX),(1,al)]
 c_Block:P.cellsOf aM=2
 u_sl_Block:P.underlying px=some (.slice aM)
 c_sl_Block:P.cellsOf px=1
 y_Block:Nat.blt 0 (P.bytesOf aM)=true
 f_Docu:fieldsOf P ae=some [(0,px)]
 c_Docu:P.cellsOf ae=1
 f_Brk:fieldsOf P jz=some [(0,aH),(1,aH),(2,Dm)]
 c_Brk:P.cellsOf jz=3
 u_int:P.underlying mC=some (.int .i64)
 c_int:P.cellsOf mC=1
 f_Segm:fieldsOf P aP=some [(0,mC),(1,al)]
 c_Segm:P.cellsOf aP=2
 u_sl_Brk:P.underlying mD=some (.slice jz)
 c_sl_Brk:P.cellsOf mD=1
 y_Brk:Nat.blt 0 (P.bytesOf jz)=true
 u_sl_Segm:P.underlying j7=some (.slice aP)
 c_sl_Segm:P.cellsOf j7=1
 y_Segm:Nat.blt 0 (P.bytesOf aP)=true
section
variable{P:Program}{W:World}{G:Nat→Option (List AV)}
theorem Em(h:pR P):kS P W G ah ag.row (ag.ok 0):=
 pj h.f_Piece h.c_Piece (gC (Ky h.u_api_PieceKind) h.c_api_PieceKind (gC (As h.u_string) h.c_string (gC (Dg h.u_bool) h.c_bool (si _)))) (fun a=>⟨a.1,a.2.1,a.2.2.1⟩) (fun a=>rfl) (fun a ha=>⟨ha.2.1⟩)
theorem Fb(h:pR P):kS P W G al (fun s:Sl ag=>[.slice s.tag 3 (s.l.map ag.row)]) (fun s=>s.ok 0 (ag.ok 0)):=
 td h.u_sl_Piece h.c_Piece (by decide) (zt h.y_Piece) (fun _=>by simp only [aW]) (Em h)
theorem OZ(h:pR P):kS P W G jz Brk.row (Brk.ok 0):=
 pj h.f_Brk h.c_Brk (gC (As h.u_string) h.c_string (gC (As h.u_string) h.c_string (gC (Dg h.u_bool) h.c_bool (si _)))) (fun a=>⟨a.1,a.2.1,a.2.2.1⟩) (fun a=>rfl) (fun a ha=>⟨ha.1,ha.2.1⟩)
theorem MM(h:pR P):kS P W G aP bq.row (bq.ok 0):=
 pj h.f_Segm h.c_Segm (gC (L4 h.u_int) h.c_int (gC (Fb h) h.c_sl_Piece (si _))) (fun a=>⟨a.1,a.2.1⟩) (fun a=>rfl) (fun a ha=>⟨ha.1,ha.2.1⟩)
theorem Jg(h:pR P):kS P W G mD (fun s:Sl Brk=>[.slice s.tag 3 (s.l.map Brk.row)]) (fun s=>s.ok 0 (Brk.ok 0)):=
 td h.u_sl_Brk h.c_Brk (by decide) (zt h.y_Brk) (fun _=>by simp only [L2]) (OZ h)
theorem Hb(h:pR P):kS P W G j7 (fun s:Sl bq=>[.slice s.tag 2 (s.l.map bq.row)]) (fun s=>s.ok 0 (bq.ok 0)):=
 td h.u_sl_Segm h.c_Segm (by decide) (zt h.y_Segm) (fun _=>by simp only [ks]) (MM h)
end
end
section
open Go.ChangeShapes Go.WideShapes
section
variable{P:Program}{W:World}{G:Nat→Option (List AV)}
theorem O0{t e:TypeId}{α:Type}{row:α→List AV}{ok:α→Prop}{sz:Nat}(ht:P.underlying t=some (.slice e))(hsz:P.cellsOf e=sz)(hpos:0<sz)(hby:0<P.bytesOf e)(hrow:∀ a,(row a).length=sz)(he:kS P W G e row ok) :
  kS P W G t (fun s:Sl α=>[.slice s.tag sz (s.l.map row)]) (fun s=>s.ok 0 ok∧s.kn):=zu ht hsz hpos hby hrow he
theorem En(h:pR P):kS P W G al (fun s:Sl ag=>[.slice s.tag 3 (s.l.map ag.row)]) (fun s=>s.ok 0 (ag.ok 0)∧s.kn):=O0 h.u_sl_Piece h.c_Piece (by decide) (zt h.y_Piece) (fun _=>rfl) (Em h)
theorem Jh(h:pR P):kS P W G aM aF.row (fun a=>aF.ok 0 a∧a.pieces.kn):=
 pj h.f_Block h.c_Block (gC (Ky h.u_api_BlockKind) h.c_api_BlockKind (gC (En h) h.c_sl_Piece (si _))) (fun a=>⟨a.1,a.2.1⟩) (fun a=>rfl) (fun a ha=>⟨⟨ha.2.1.1⟩,ha.2.1.2⟩)
theorem Eo(h:pR P):kS P W G px (fun s:Sl aF=>[.slice s.tag 2 (s.l.map aF.row)]) (fun s=>s.ok 0 (aF.ok 0)∧∀ b∈s.l,b.pieces.kn):=
 Di (td h.u_sl_Block h.c_Block (by decide) (zt h.y_Block) (fun _=>rfl) (Jh h)) fun s hs=>⟨⟨hs.tag,hs.len,fun x hx=>(hs.all x hx).1⟩,fun x hx=>(hs.all x hx).2⟩
theorem Kb(h:pR P):kS P W G ae Docu.row (fun a=>Docu.ok 0 a∧Docu.kt a):=
 pj h.f_Docu h.c_Docu (gC (Eo h) h.c_sl_Block (si _)) (fun a=>⟨a.1⟩) (fun a=>rfl) (fun a ha=>⟨⟨ha.1.1⟩,ha.1.2⟩)
end
end
section
open Go.Shelf Go.RowKit Go.Lib Go.Proofs
def Ep:Go.Shelf.Ren:=⟨fun | 197=>94 | 260=>134 | n=>n,fun | 9=>9 | 21=>21 | 3=>3 | 4=>4 | 5=>5 | 105=>155 | 119=>220 | 0=>0 | 46=>221 | 139=>224 | 138=>223 | n=>n,fun | 3=>0 | 4=>1 | n=>n⟩
theorem O1:Go.Proofs.Lays.n197 Tryz.prog Ep where
 mixed:=by kernel_rfl
 f197:=Tryz.func94.trans (congrArg some (by kernel_rfl))
 f260:=Tryz.func134.trans (congrArg some (by kernel_rfl))
 t0:=Tryz.underlying0
 a0:=Tryz.isAgg0
 z0:=Tryz.sizeOf0
 v0:=Tryz.zeroValue0
 t3:=Tryz.underlying3
 a3:=Tryz.isAgg3
 z3:=Tryz.sizeOf3
 v3:=Tryz.zeroValue3
 t4:=Tryz.underlying4
 a4:=Tryz.isAgg4
 z4:=Tryz.sizeOf4
 v4:=Tryz.zeroValue4
 t5:=Tryz.underlying5
 a5:=Tryz.isAgg5
 z5:=Tryz.sizeOf5
 v5:=Tryz.zeroValue5
 t9:=Tryz.underlying9
 a9:=Tryz.isAgg9
 z9:=Tryz.sizeOf9
 v9:=Tryz.zeroValue9
 t21:=Tryz.underlying21
 a21:=Tryz.isAgg21
 z21:=Tryz.sizeOf21
 v21:=Tryz.zeroValue21
 t46:=Tryz.underlying221
 a46:=Tryz.isAgg221
 z46:=Tryz.sizeOf221
 v46:=Tryz.zeroValue221
 t105:=Tryz.underlying155
 a105:=Tryz.isAgg155
 z105:=Tryz.sizeOf155
 v105:=Tryz.zeroValue155
 t119:=Tryz.underlying220
 a119:=Tryz.isAgg220
 z119:=Tryz.sizeOf220
 t138:=Tryz.underlying223
 a138:=Tryz.isAgg223
 z138:=Tryz.sizeOf223
 v138:=Tryz.zeroValue223
 t139:=Tryz.underlying224
 a139:=Tryz.isAgg224
 z139:=Tryz.sizeOf224
 v139:=Tryz.zeroValue224
 g3:=by kernel_rfl
 g4:=by kernel_rfl
theorem Kc:∀ args w,(callFunc 94 args).run Tryz.prog w = .ok (.enter 94 args) w:=enters_of Tryz.func94 (by kernel_rfl) rfl
theorem MN:∀ (s:ByteArray) (w:World),Lib.Utf8Tabs 0 1 w→Calls Tryz.prog 94 #[.string s] w fun e w'=>e = .returned (.tuple #[.int .i32 (Lib.decodeGo s).1,.int .i64 (Lib.decodeGo s).2])∧Below w.heap.size w w':=fun s w hT=>Any.utf8_DecodeRuneInString O1 s w hT
theorem MO {W:World} (h3:VarReads Tryz.prog W "unicode/utf8.first" firstData) (h4:VarReads Tryz.prog W "unicode/utf8.acceptRanges" acceptData):Lib.Utf8Tabs 0 1 W:=
 utf8Tabs_of_readsT (ρ:=Ep) { O1 with } ⟨by kernel_rfl,by kernel_rfl,by kernel_rfl,by kernel_rfl,by kernel_rfl,by kernel_rfl,by kernel_rfl⟩ h3 h4
end
section
open Go.Proofs
def O2:List (Nat×AFn):=[(4,iu),(6,el),(9,lF),(11,en),(12,c9),(13,gG),(14,fF),(15,gH),(16,iv),(17,cW),(18,dA),(19,cS)]
theorem Se:oH (dW Tryz.prog G0) O2:=by repeat' first | (unfold dW;kernel_rfl) | exact trivial | refine ⟨?_, ?_⟩
def O3:List (Nat×AFn):=[(20,bk),(21,gI),(31,kE),(32,dR),(33,dN),(36,gr),(37,mJ),(38,bC),(39,dB),(40,lW),(41,fY),(42,pz)]
theorem Sf:oH (dW Tryz.prog G0) O3:=by repeat' first | (unfold dW;kernel_rfl) | exact trivial | refine ⟨?_, ?_⟩
def O4:List (Nat×AFn):=[(43,eA),(44,iL),(45,fZ),(46,bO),(47,fJ),(48,bH),(49,eX),(50,uU),(51,bA),(52,gd),(55,ll),(60,rR)]
theorem Sg:oH (dW Tryz.prog G0) O4:=by repeat' first | (unfold dW;kernel_rfl) | exact trivial | refine ⟨?_, ?_⟩
def O5:List (Nat×AFn):=[(61,nn),(62,nr),(69,jC),(71,fL),(72,kG),(73,pA),(74,cB),(75,rS),(76,lL),(77,fj),(79,ln),(80,hZ)]
theorem Si:oH (dW Tryz.prog G0) O5:=by repeat' first | (unfold dW;kernel_rfl) | exact trivial | refine ⟨?_, ?_⟩
def O6:List (Nat×AFn):=[(81,jP),(82,yt),(83,pB),(84,nu),(85,kf),(86,gM),(87,gN),(88,fO),(89,dw),(90,nG),(91,dh),(92,sw)]
theorem Sj:oH (dW Tryz.prog G0) O6:=by repeat' first | (unfold dW;kernel_rfl) | exact trivial | refine ⟨?_, ?_⟩
def O7:List (Nat×AFn):=[(93,gO),(101,wP),(102,kJ),(103,lY),(104,lZ),(116,aV),(117,ew),(118,bc),(119,gT),(121,u0),(122,pE),(123,pF)]
theorem Sk:oH (dW Tryz.prog G0) O7:=by repeat' first | (unfold dW;kernel_rfl) | exact trivial | refine ⟨?_, ?_⟩
def O8:List (Nat×AFn):=[(124,pG),(125,pH),(126,pI),(127,pJ),(128,nv),(129,lq),(130,gU),(131,gi),(132,fR),(133,bh),(149,ti),(150,mT)]
theorem Sm:oH (dW Tryz.prog G0) O8:=by repeat' first | (unfold dW;kernel_rfl) | exact trivial | refine ⟨?_, ?_⟩
def O9:List (Nat×AFn):=[(151,nI),(165,kM),(166,kO),(167,lO),(168,mW)]
theorem Sn:oH (dW Tryz.prog G0) O9:=by repeat' first | (unfold dW;kernel_rfl) | exact trivial | refine ⟨?_, ?_⟩
def Pa:List (Nat×List (Nat×AFn)):=[(19,O2),(42,O3),(60,O4),(80,O5),(92,O6),(123,O7),(150,O8),(168,O9)]
def S0(f:FuncId):Option AFn:=HZ Pa f
theorem QS:∀ f af,S0 f=some af→dW Tryz.prog G0 f af:=fun f af h=>Dd (show Gz _ Pa from ⟨Se,Sf,Sg,Si,Sj,Sk,Sm,Sn,trivial⟩) h
def So(f:FuncId)(args:List AV)(H:List AObj):Option Out:=
 match args with
 |[]=>bif Nat.beq f dL then some (.ret (.bool true),H) else none
 |[.str s]=>bif Nat.beq f cK then some (.ret (.tuple [.int .i32 ((By s).1:Nat),.int .i64 ((By s).2:Nat)]),H) else none
 |_=>P3 f args H
theorem QT{f:FuncId}{args:List AV}{H H':List AObj}{r:rE}(h:So f args H=some (r,H')):eb Tryz.prog G0 f args H fun r2 H2=>r2=r∧H2=H':=by
 unfold So at h;split at h
 ·cases h1:Nat.beq f dL with
  |true=>rw [h1] at h;cases h;rw [Nat.eq_of_beq_eq_true h1];exact N9 H
  |false=>rw [h1] at h;cases h
 ·rename_i s
  cases h1:Nat.beq f cK with
  |true=>rw [h1] at h;cases h;rw [Nat.eq_of_beq_eq_true h1];exact PV rfl Kc MN s H
  |false=>rw [h1] at h;cases h
 ·exact KD h
noncomputable def EN:bG := { P:=Tryz.prog,G:=G0,fn:=S0,orc:=So,dfn:=fun _=>none,seq:=P6,sar:=fun _=>1 }
theorem S3:EN.Ok:=⟨KE,fun f af h=>QS f af h,(fun _ _ _ h=>by cases h),(fun _ _ _ _ _ h=>by cases h),fun _ _ _ _ _ h=>QT h,(fun _ _ _ h=>by cases h),KF⟩
end
end Go.Am
