import Derived.Test.YthbkdffdgopjeaaGreatDoorA5
import Derived.Test.YthbkdffdgopjeaaGreatDoorChecked
import Derived.Shelf.Unicode.DecodeAny
import Derived.Lib.LaidU8T
import Derived.KernelRfl
/-
  Part 6 of the tool: an abstract machine over the model, proved sound, and what it says of the functions that the law reaches. Condition: none but those that each theorem names.
-/
set_option linter.unusedVariables false
set_option linter.unusedSimpArgs false
set_option maxRecDepth 100000
set_option maxHeartbeats 4000000
namespace Go.Am
open Go.RowKit
section
attribute [local congr] aq aO aI au aH aC aw ak al aD aE
variable{E:aN}(M:a8 bn E)
def Ob(n:Nat)(G:List AObj)(v:AV)(l:List Str):Prop:=(l=[]∧v = .slice .nil 1 [])∨∃ t,n≤t∧v = .slice (.own t) 1 (l.map bh)∧G[t]?=some (.tok (l.length*1) aG)
structure WdG (H0 G:List AObj) (p q:Nat) (o:List Str) (w:Str):Prop where
 hp:H0.length≤p
 hq:H0.length≤q
 ne:p≠q
 row:G[q]?=some (.cells [.str w] aG)
 own:∃ v,G[p]?=some (.cells [v] bb)∧Ob H0.length G v o
 len:H0.length≤G.length
 low:∀ m,m<H0.length→G[m]?=H0[m]?
 nit:∀ i s j,H0.length≤i→G[i]?≠some (.siter s j)
theorem CO:∀ (H G:List AObj),(∀ (i:Nat) (s:List UInt8) (p:Nat),G[i]?=some (.siter s p)→∃ s' p',H[i]?=some (.siter s' p'))→noIt H G=true
 |H,[],_=>by cases H<;>rfl
 |[],x::l,h=>by
  have h0:B4 x=false:=by
   cases x with
   |siter s p=>obtain ⟨_,_,e⟩:=h 0 s p rfl;cases e
   |_=>rfl
  rw [noIt,h0,CO [] l fun i s p hi=>h (i+1) s p (by simpa using hi)];rfl
 |y::H,x::l,h=>by
  have h0:(!B4 x||B4 y)=true:=by
   cases x with
   |siter s p=>
    obtain ⟨_,_,e⟩:=h 0 s p rfl;simp at e;subst e;rfl
   |_=>rfl
  rw [noIt,h0,CO H l fun i s p hi=>by simpa using h (i+1) s p (by simpa using hi)];rfl
theorem WdG.noIt{H0 Hs G:List AObj}{p q:Nat}{o:List Str}{w:Str}(h:WdG H0 G p q o w)(hs:∀ m,m<H0.length→Hs[m]?=H0[m]?):noIt Hs G=true:=
 CO _ _ fun i s j hi=>by
  rcases Nat.lt_or_ge i H0.length with hl | hl
  ·exact ⟨s,j,by rw [hs i hl,← h.low i hl];exact hi⟩
  ·exact absurd hi (h.nit i s j hl)
theorem WdG.app{H0 G:List AObj}{p q:Nat}{o:List Str}{w:Str}(h:WdG H0 G p q o w)(vs:List AV)(T:TypeId):WdG H0 (G++[.cells vs T]) p q o w:=by
 obtain ⟨v,h1,h2⟩:=h.own;have hlen:=h.len;refine ⟨h.hp,h.hq,h.ne,br h.row,⟨v,br h1, ?_⟩,by simp;omega,fun m hm=>by rw [List.getElem?_append_left (by omega)];exact h.low m hm,fun i s j hi e => ?_⟩
 ·rcases h2 with h2 | ⟨t,a,b,c⟩
  ·exact .inl h2
  ·exact .inr ⟨t,a,b,br c⟩
 ·rcases Nat.lt_or_ge i G.length with hl | hl
  ·rw [List.getElem?_append_left hl] at e;exact h.nit i s j hi e
  ·rw [List.getElem?_append_right hl] at e
   cases hz:i-G.length with
   |zero=>rw [hz] at e;cases e
   |succ z=>rw [hz] at e;cases e
theorem WdG.setr{H0 G:List AObj}{p q:Nat}{o:List Str}{w:Str}(h:WdG H0 G p q o w)(w2:Str):WdG H0 (G.set q (.cells [.str w2] aG)) p q o w2:=by
 obtain ⟨v,h1,h2⟩:=h.own;have hql:=bp h.row;refine ⟨h.hp,h.hq,h.ne,List.getElem?_set_self hql,⟨v,by rw [List.getElem?_set_ne h.ne.symm];exact h1, ?_⟩,by simpa using h.len,fun m hm=>by rw [List.getElem?_set_ne (by have:=h.hq;omega)];exact h.low m hm,fun i s j hi e => ?_⟩
 ·rcases h2 with h2 | ⟨t,a,b,c⟩
  ·exact .inl h2
  ·refine .inr ⟨t,a,b, ?_⟩
   rw [List.getElem?_set_ne (fun e=>by subst e;rw [h.row] at c;cases c)];exact c
 ·by_cases hiq:q=i
  ·subst hiq;rw [List.getElem?_set_self hql] at e;cases e
  ·rw [List.getElem?_set_ne hiq] at e;exact h.nit i s j hi e
theorem WdG.push{H0 G:List AObj}{p q:Nat}{o:List Str}{w:Str}(h:WdG H0 G p q o w)(hl:o.length≤100000000)(x:Str) :
  ∃ v v' G2,G[p]?=some (.cells [v] bb)∧rap false G aG 1 16 false v (.slice .full 1 [[.str x]])=some (v',G2)∧G2[p]?=some (.cells [v] bb)∧v.cell=true∧bC v'=some [v'] ∧
   stO 1 G2 p 0 [v'] (some (.cells [v] bb))=some (G2.set p (.cells [v'] bb))∧WdG H0 (G2.set p (.cells [v'] bb)) p q (o++[x]) w∧G2[q]?=some (.cells [.str w] aG) ∧
   ∀ i vs T,G[i]?=some (.cells vs T)→i≠p→(G2.set p (.cells [v'] bb))[i]?=some (.cells vs T):=by
 obtain ⟨v,h1,h2⟩:=h.own;have hlen:=h.len;have hpl:=bp h1;rcases h2 with ⟨rfl,rfl⟩ | ⟨t,a,rfl,c⟩
 ·have hr:=FH (sz:=1) (bytes:=16) (e:=aG) (r:=[.str x]) G rfl rfl (by omega)
  have g1:(G++[AObj.tok 1 aG])[p]?=some (.cells [.slice .nil 1 []] bb):=br h1;refine ⟨_,_,_,h1,hr,g1,rfl,rfl,by rw [stO_cells (sz:=1) rfl (by simp) rfl];rfl,⟨h.hp,h.hq,h.ne,by rw [List.getElem?_set_ne h.ne];exact br h.row,⟨_,List.getElem?_set_self (by simp;omega),.inr ⟨G.length,hlen,rfl,by rw [List.getElem?_set_ne (by omega),aF];rfl⟩⟩,by simp;omega,fun m hm => ?_,fun i s j hi e => ?_⟩,br h.row,fun i vs T hi hne=>by rw [List.getElem?_set_ne hne.symm];exact br hi⟩
  ·rw [List.getElem?_set_ne (by have:=h.hp;omega),List.getElem?_append_left (by omega)];exact h.low m hm
  ·by_cases hip:p=i
   ·subst hip;rw [List.getElem?_set_self (by simp;omega)] at e;cases e
   ·rw [List.getElem?_set_ne hip] at e
    rcases Nat.lt_or_ge i G.length with hl | hl
    ·rw [List.getElem?_append_left hl] at e;exact h.nit i s j hi e
    ·rw [List.getElem?_append_right hl] at e
     cases hz:i-G.length with
     |zero=>rw [hz] at e;cases e
     |succ z=>rw [hz] at e;cases e
 ·have hr:=GG (row:=bh) (l:=o) (x:=x) (r:=[.str x]) (sz:=1) (bytes:=16) (e:=aG) (H:=G) (t:=t) c rfl rfl rfl (by omega) (by omega)
  have htl:=bp c;have tp:t≠p:=fun e=>by subst e;rw [h1] at c;cases c
  have tq:t≠q:=fun e=>by subst e;rw [h.row] at c;cases c
  have g1:(G.set t (AObj.tok ((o++[x]).length*1) aG))[p]?=some (.cells [.slice (.own t) 1 (o.map bh)] bb):=by rw [List.getElem?_set_ne tp];exact h1
  refine ⟨_,_,_,h1,hr,g1,rfl,rfl,by rw [stO_cells (sz:=1) rfl (by simp) rfl];rfl,⟨h.hp,h.hq,h.ne,by rw [List.getElem?_set_ne h.ne,List.getElem?_set_ne tq];exact h.row,⟨_,List.getElem?_set_self (by simpa using hpl),.inr ⟨t,a,rfl,by rw [List.getElem?_set_ne tp.symm,List.getElem?_set_self htl]⟩⟩,by simpa using hlen,fun m hm => ?_,fun i s j hi e => ?_⟩,by rw [List.getElem?_set_ne tq];exact h.row,fun i vs T hi hne => ?_⟩
  ·rw [List.getElem?_set_ne (by have:=h.hp;omega),List.getElem?_set_ne (by omega)];exact h.low m hm
  ·by_cases hip:p=i
   ·subst hip;rw [List.getElem?_set_self (by simpa using hpl)] at e;cases e
   ·rw [List.getElem?_set_ne hip] at e
    by_cases hit:t=i
    ·subst hit;rw [List.getElem?_set_self htl] at e;cases e
    ·rw [List.getElem?_set_ne hit] at e;exact h.nit i s j hi e
  ·rw [List.getElem?_set_ne hne.symm,List.getElem?_set_ne (fun e=>by subst e;rw [hi] at c;cases c)];exact hi
end
section
attribute [local congr] aq aO aI au aH aC aw ak al aD aE
variable{E:aN}(M:a8 bn E)
theorem MA{G:List AObj}{q:Nat}{w x:Str}(h:G[q]?=some (.cells [.str w] aG)):stO 1 G q 0 [.str x] (some (.cells [.str w] aG))=some (G.set q (.cells [.str x] aG)):=by
 rw [stO_cells (sz:=1) rfl (by simp) rfl];rfl
theorem qe(hU:qV E){H0 Hs:List AObj}(hs:∀ m,m<H0.length→Hs[m]?=H0[m]?){p q:Nat}:∀ (rs:List Nat) (G:List AObj) (o:List Str) (w:Str),WdG H0 G p q o w→o.length+2*rs.length≤100000000→w.length+4*rs.length≤100000000 →
  ∃ G',(∀ e:Env,cK e 5 = .ptr p 0→cK e 8 = .ptr q 0→gA bn M.go (j9 bM) [32] [[⟨some 9,none,.op (.nw [.int .i32 0,.bool false] aZ)⟩,⟨none,none,.op (.st 2 (.t 9) (.t 32))⟩]] eP e [] Hs (rs.map fun r=>[.agg (unR r).row]) G=some (none,G'))∧WdG H0 G' p q (o++(wdS rs w).1) (wdS rs w).2
 |[],G,o,w,h,_,_=>⟨G,fun _ _ _=>rfl,by rw [wdS,List.append_nil];exact h⟩
 |r::rs,G,o,w,h,ho,hw=>by
  have q1:(j9 bM).dfr=some ([],.c .unk,.bad):=rfl;have q2:(j9 bM).mode = .keep:=rfl;have q3:(j9 bM).res=[]:=rfl;obtain ⟨c,hc,hcl⟩:=Nl r;have hce:EW (.int .i32 (r:Int))=some (.str c):=by rw [← hc];exact Nk _
  simp only [List.length_cons] at ho hw;have h1:=h.app (unR r).row aZ;have hrow:(unR r).row=[.int .i32 (r:Int),.bool false]:=rfl;have hwd:=fun H=>By M hU (unR r) H
  have hmd:=fun H=>Bx M hU (unR r) H
  have gu:(G++[AObj.cells (unR r).row aZ])[G.length]?=some (.cells (unR r).row aZ):=by rw [aF];rfl
  have nq:G.length≠q:=fun e=>by have:=bp h.row;omega
  have np:G.length≠p:=fun e=>by obtain ⟨v,hv,_⟩:=h.own;have:=bp hv;omega
  rw [hrow] at h1 hwd hmd gu;rw [wdS,hc];cases hq:lA (unR r) with
  |true=>
   rw [hq] at hwd;simp only [sel_true];have h2:=h1.setr (w++c);obtain ⟨G',i1,i2⟩:=qe hU hs rs _ o (w++c) h2 (by omega) (by rw [List.length_append];omega);refine ⟨G',fun e he5 he8 => ?_,i2⟩;rw [List.map_cons];refine sy ?_ (h2.noIt hs) (fun _ h=>by cases h) (i1 e he5 he8);have F1:cG .add w c=some (.str (w++c)):=dt (by omega);have g8:=h1.row;have s8:=MA (x:=w++c) g8;generalize j9 bM=rf at q1 q2 q3;simp only [pO,List.map_cons,List.map_nil,List.cons_append,List.nil_append,eP,hrow]
   have a0:∀ y:AObj,(G++[y])=G++[y]:=fun _=>rfl
   generalize hG1:G++[AObj.cells [AV.int .i32 (r:Int),AV.bool false] aZ]=G1 at *
   simp (maxSteps:=3000000) (maxDischargeDepth:=6) +contextual -implicitDefEqProofs only [amC M,↓amD,Nat.reduceBEq,Nat.reduceAdd,env,ao,cI,amG,AV.cell,Nat.reduceMul,Nat.reduceLeDiff,q1,q2,q3,he5,he8,hwd,hce,F1,g8,s8,gu,hG1,aF,hp_set0,List.set_cons_zero]
  |false=>
   rw [hq] at hwd;simp only [sel_false];rw [show o++(lB w++mkS r++(wdS rs []).1)=o++lB w++mkS r++(wdS rs []).1 by simp];have hf1:=zT w;unfold mkS;rw [hc];unfold lB at hf1 ⊢;have g8:=h1.row;cases hz:w == [] with
   |true=>
    obtain rfl:=eq_of_beq hz;simp only [sel_true,List.append_nil];cases hm:nA (unR r) with
    |false=>
     rw [hm] at hmd;simp only [sel_false,List.append_nil];obtain ⟨G',i1,i2⟩:=qe hU hs rs _ o [] h1 (by omega) (by simp;omega);refine ⟨G',fun e he5 he8 => ?_,i2⟩;rw [List.map_cons];refine sy ?_ (h1.noIt hs) (fun _ h=>by cases h) (i1 e he5 he8);generalize j9 bM=rf at q1 q2 q3;simp only [pO,List.map_cons,List.map_nil,List.cons_append,List.nil_append,eP,hrow];generalize hG1:G++[AObj.cells [AV.int .i32 (r:Int),AV.bool false] aZ]=G1 at *
     simp (maxSteps:=3000000) (maxDischargeDepth:=6) +contextual -implicitDefEqProofs only [amC M,↓amD,Nat.reduceBEq,Nat.reduceAdd,env,ao,cI,amG,AV.cell,Nat.reduceMul,Nat.reduceLeDiff,q1,q2,q3,he5,he8,hwd,hmd,g8,gu,hG1,hz,aF,hp_set0,List.set_cons_zero]
    |true=>
     rw [hm] at hmd;simp only [sel_true];obtain ⟨v,v',G2,p1,p2,p3,p4,p5,p6,p7,p8,p9⟩:=h1.push (by omega) c;obtain ⟨G',i1,i2⟩:=qe hU hs rs _ (o++[c]) [] p7 (by rw [List.length_append,List.length_singleton];omega) (by simp;omega);refine ⟨G',fun e he5 he8 => ?_,i2⟩;rw [List.map_cons];refine sy ?_ (p7.noIt hs) (fun _ h=>by cases h) (i1 e he5 he8);have l1:bt none [v] 0=some v:=rfl;generalize j9 bM=rf at q1 q2 q3
     simp only [pO,List.map_cons,List.map_nil,List.cons_append,List.nil_append,eP,hrow];generalize hG1:G++[AObj.cells [AV.int .i32 (r:Int),AV.bool false] aZ]=G1 at *
     simp (maxSteps:=3000000) (maxDischargeDepth:=6) +contextual -implicitDefEqProofs only [amC M,↓amD,Nat.reduceBEq,Nat.reduceAdd,env,ao,cI,amG,AV.cell,Nat.reduceMul,Nat.reduceLeDiff,q1,q2,q3,he5,he8,hwd,hmd,hce,g8,gu,hG1,hz,l1,p1,p2,p3,p4,p5,p6,aF,hp_set0,List.set_cons_zero]
   |false=>
    simp only [sel_false];obtain ⟨v,v',G2,p1,p2,p3,p4,p5,p6,p7,p8,p9⟩:=h1.push (by omega) w;have l1:bt none [v] 0=some v:=rfl;have h3:=p7.setr [];have g8':=p7.row;have s8:=MA (x:=[]) g8'
    have gu3:((G2.set p (AObj.cells [v'] bb)).set q (AObj.cells [AV.str []] aG))[G.length]?=some (.cells [.int .i32 (r:Int),.bool false] aZ):=by
     rw [List.getElem?_set_ne nq.symm];exact p9 _ _ _ gu np
    cases hm:nA (unR r) with
    |false=>
     rw [hm] at hmd;simp only [sel_false,List.append_nil];obtain ⟨G',i1,i2⟩:=qe hU hs rs _ (o++[w]) [] h3 (by rw [List.length_append,List.length_singleton];omega) (by simp;omega);refine ⟨G',fun e he5 he8 => ?_,i2⟩;rw [List.map_cons];refine sy ?_ (h3.noIt hs) (fun _ h=>by cases h) (i1 e he5 he8);generalize j9 bM=rf at q1 q2 q3;simp only [pO,List.map_cons,List.map_nil,List.cons_append,List.nil_append,eP,hrow]
     generalize hG1:G++[AObj.cells [AV.int .i32 (r:Int),AV.bool false] aZ]=G1 at *
     simp (maxSteps:=3000000) (maxDischargeDepth:=6) +contextual -implicitDefEqProofs only [amC M,↓amD,Nat.reduceBEq,Nat.reduceAdd,env,ao,cI,amG,AV.cell,Nat.reduceMul,Nat.reduceLeDiff,q1,q2,q3,he5,he8,hwd,hmd,g8,gu,hG1,hz,l1,p1,p2,p3,p4,p5,p6,g8',s8,gu3,aF,hp_set0,List.set_cons_zero]
    |true=>
     rw [hm] at hmd;simp only [sel_true];obtain ⟨u,u',G5,t1,t2,t3,t4,t5,t6,t7,t8,t9⟩:=h3.push (by rw [List.length_append,List.length_singleton];omega) c;have l2:bt none [u] 0=some u:=rfl;obtain ⟨G',i1,i2⟩:=qe hU hs rs _ (o++[w]++[c]) [] t7 (by rw [List.length_append,List.length_append,List.length_singleton,List.length_singleton];omega) (by simp;omega);refine ⟨G',fun e he5 he8 => ?_,i2⟩;rw [List.map_cons]
     refine sy ?_ (t7.noIt hs) (fun _ h=>by cases h) (i1 e he5 he8);generalize j9 bM=rf at q1 q2 q3;simp only [pO,List.map_cons,List.map_nil,List.cons_append,List.nil_append,eP,hrow];generalize hG1:G++[AObj.cells [AV.int .i32 (r:Int),AV.bool false] aZ]=G1 at *
     simp (maxSteps:=3000000) (maxDischargeDepth:=6) +contextual -implicitDefEqProofs only [amC M,↓amD,Nat.reduceBEq,Nat.reduceAdd,env,ao,cI,amG,AV.cell,Nat.reduceMul,Nat.reduceLeDiff,q1,q2,q3,he5,he8,hwd,hmd,hce,g8,gu,hG1,hz,l1,l2,p1,p2,p3,p4,p5,p6,g8',s8,gu3,t1,t2,t3,t4,t5,t6,aF,hp_set0,List.set_cons_zero]
end
section
attribute [local congr] aq aO aI au aH aC aw ak al aD aE
variable{E:aN}(M:a8 bn E)
structure WdH (H0 G:List AObj) (p:Nat) (o:List Str):Prop where
 hp:H0.length≤p
 own:∃ v,G[p]?=some (.cells [v] bb)∧Ob H0.length G v o
 len:H0.length≤G.length
 low:∀ m,m<H0.length→G[m]?=H0[m]?
 nit:∀ i s j,H0.length≤i→G[i]?≠some (.siter s j)
theorem WdG.forget{H0 G:List AObj}{p q:Nat}{o:List Str}{w:Str}(h:WdG H0 G p q o w):WdH H0 G p o:=⟨h.hp,h.own,h.len,h.low,h.nit⟩
theorem WdH.row{H0 G:List AObj}{p q:Nat}{o:List Str}{w:Str}(h:WdH H0 G p o)(hq:H0.length≤q)(hg:G[q]?=some (.cells [.str w] aG)):WdG H0 G p q o w:=
 ⟨h.hp,hq,(fun e=>by
  subst e;obtain ⟨v,hv,ho⟩:=h.own;rw [hg] at hv;rcases ho with ⟨_,rfl⟩ | ⟨_,_,rfl,_⟩<;>cases hv),hg,h.own,h.len,h.low,h.nit⟩
theorem WdH.app{H0 G:List AObj}{p:Nat}{o:List Str}(h:WdH H0 G p o)(vs:List AV)(T:TypeId):WdH H0 (G++[.cells vs T]) p o:=by
 obtain ⟨v,h1,h2⟩:=h.own;have hlen:=h.len;refine ⟨h.hp,⟨v,br h1, ?_⟩,by simp;omega,fun m hm=>by rw [List.getElem?_append_left (by omega)];exact h.low m hm,fun i s j hi e => ?_⟩
 ·rcases h2 with h2 | ⟨t,a,b,c⟩
  ·exact .inl h2
  ·exact .inr ⟨t,a,b,br c⟩
 ·rcases Nat.lt_or_ge i G.length with hl | hl
  ·rw [List.getElem?_append_left hl] at e;exact h.nit i s j hi e
  ·rw [List.getElem?_append_right hl] at e
   cases hz:i-G.length with
   |zero=>rw [hz] at e;cases e
   |succ z=>rw [hz] at e;cases e
theorem WdH.push{H0 G:List AObj}{p:Nat}{o:List Str}(h:WdH H0 G p o)(hl:o.length≤100000000)(x:Str) :
  ∃ v v' G2,G[p]?=some (.cells [v] bb)∧rap false G aG 1 16 false v (.slice .full 1 [[.str x]])=some (v',G2)∧G2[p]?=some (.cells [v] bb)∧v.cell=true∧bC v'=some [v'] ∧
   stO 1 G2 p 0 [v'] (some (.cells [v] bb))=some (G2.set p (.cells [v'] bb))∧WdH H0 (G2.set p (.cells [v'] bb)) p (o++[x]):=by
 have hlen:=h.len;have h1:=h.app [.str []] aG;obtain ⟨v,hv,ho⟩:=h.own;have hpl:=bp hv;rcases ho with ⟨rfl,rfl⟩ | ⟨t,a,rfl,c⟩
 ·have hr:=FH (sz:=1) (bytes:=16) (e:=aG) (r:=[.str x]) G rfl rfl (by omega)
  refine ⟨_,_,_,hv,hr,br hv,rfl,rfl,by rw [stO_cells (sz:=1) rfl (by simp) rfl];rfl,⟨h.hp,⟨_,List.getElem?_set_self (by simp;omega),.inr ⟨G.length,hlen,rfl,by rw [List.getElem?_set_ne (by omega),aF];rfl⟩⟩,by simp;omega,fun m hm => ?_,fun i s j hi e => ?_⟩⟩
  ·rw [List.getElem?_set_ne (by have:=h.hp;omega),List.getElem?_append_left (by omega)];exact h.low m hm
  ·by_cases hip:p=i
   ·subst hip;rw [List.getElem?_set_self (by simp;omega)] at e;cases e
   ·rw [List.getElem?_set_ne hip] at e
    rcases Nat.lt_or_ge i G.length with hl | hl
    ·rw [List.getElem?_append_left hl] at e;exact h.nit i s j hi e
    ·rw [List.getElem?_append_right hl] at e
     cases hz:i-G.length with
     |zero=>rw [hz] at e;cases e
     |succ z=>rw [hz] at e;cases e
 ·have hr:=GG (row:=bh) (l:=o) (x:=x) (r:=[.str x]) (sz:=1) (bytes:=16) (e:=aG) (H:=G) (t:=t) c rfl rfl rfl (by omega) (by omega)
  have htl:=bp c;have tp:t≠p:=fun e=>by subst e;rw [hv] at c;cases c
  refine ⟨_,_,_,hv,hr,by rw [List.getElem?_set_ne tp];exact hv,rfl,rfl,by rw [stO_cells (sz:=1) rfl (by simp) rfl];rfl,⟨h.hp,⟨_,List.getElem?_set_self (by simpa using hpl),.inr ⟨t,a,rfl,by rw [List.getElem?_set_ne tp.symm,List.getElem?_set_self htl]⟩⟩,by simpa using hlen,fun m hm => ?_,fun i s j hi e => ?_⟩⟩
  ·rw [List.getElem?_set_ne (by have:=h.hp;omega),List.getElem?_set_ne (by omega)];exact h.low m hm
  ·by_cases hip:p=i
   ·subst hip;rw [List.getElem?_set_self (by simpa using hpl)] at e;cases e
   ·rw [List.getElem?_set_ne hip] at e
    by_cases hit:t=i
    ·subst hit;rw [List.getElem?_set_self htl] at e;cases e
    ·rw [List.getElem?_set_ne hit] at e;exact h.nit i s j hi e
theorem LX{x:ah}(h:(x.kind == 1)=true):unL [x]=(aS x.text).map unR:=by
 have h5:(x.kind == 5)=false:=by rw [eq_of_beq h];rfl
 show unP x++[]=_;rw [List.append_nil,unP,h5,sel_false,h,sel_true]
theorem dwl(hS:mU E)(hU:qV E)(hN:JV E)(hW:WsE E){l:List ah}{tg:Tag}(hl:l.length≤1000000)(hs:∀ x∈l,x.text.length≤1000000)(ha:∀ x∈l,rU x=false){H0:List AObj}{p:Nat}{vs:Nat→AV} :
  ∀ (n i:Nat) (G:List AObj) (o:List Str),i+n=l.length→o.length+(bK (l.drop i)).length≤10000000→WdH H0 G p o →
  ∃ G',(∀ (k:List Fra) (He:List AObj),M.go bM H0 (.c eQ :: .lp ⟨(some [2,3,5,9,15,16,17,32,33,34,35,36,37,38,39,40,41,42,43,44,45,46,47,48,49,50,51,52,53]),[(42,1,aG),(48,1,aG)],false⟩ eQ He :: .blk 0 :: .c (.lv [5])::k) (kv [(2,.slice .nil 1 []),(3,.int .u8 0),(5,.ptr p 0),(9,vs 9),(15,.slice tg 3 (l.map ah.row)),(16,.int .i64 l.length),(17,.int .i64 i),(32,vs 32),(33,vs 33),(34,vs 34),(35,vs 35),(36,vs 36),(37,vs 37),(38,vs 38),(39,vs 39),(40,vs 40),(41,vs 41),(42,vs 42),(43,vs 43),(44,vs 44),(45,vs 45),(46,vs 46),(47,vs 47),(48,vs 48),(49,vs 49),(50,vs 50),(51,vs 51),(52,vs 52),(53,vs 53)]) G =
   M.go bM H0 k (kv [(5,.ptr p 0)]) G')∧WdH H0 G' p (o++bK (l.drop i))
 |0,i,G,o,h,ho,hG=>by
  have e:i=l.length:=by omega
  subst e;rw [List.drop_length,show bK []=[] from rfl,List.append_nil];refine ⟨G,fun k He => ?_,hG⟩;rw [aK M eQ.eq_1];simp (maxSteps:=3000000) (maxDischargeDepth:=6) +contextual -implicitDefEqProofs only [amC M,↓amD,Nat.reduceBEq,Nat.reduceAdd,env,ao,cI,Nat.lt_irrefl]
 |n+1,i,G,o,h,ho,hG=>by
  have hi:i<l.length:=by omega
  have hx:l[i]?=some l[i]:=List.getElem?_eq_getElem hi;have hm:=hs _ (List.getElem_mem hi);have hwi:=jJ (n:=l.length) hi (by simp only [bJ];omega);have hir:=bG (row:=ah.row) (tag:=tg) (sz:=3) (k:=.i64) hi;rw [Et hi] at ho ⊢;rw [List.length_append] at ho;rw [← List.append_assoc];have h1:=hG.app l[i].row ae;have gp:(G++[AObj.cells l[i].row ae])[G.length]?=some (.cells l[i].row ae):=by rw [aF];rfl
  cases k1:l[i].kind == 1 with
  |false=>
   have hq:wdP l[i]=[wrF l[i]]:=by rw [wdP,k1,sel_false]
   rw [hq] at ho ⊢
   have hth:LN l[i]=true:=by
    have h:=ha _ (List.getElem_mem hi)
    have hk:l[i].kind=2∨l[i].kind=3∨l[i].kind=4∨l[i].kind=5:=by
     unfold rU at h
     have:l[i].kind≠1:=by simpa using k1
     simp at h;omega
    unfold LN;rcases hk with k | k | k | k<;>(rw [k];rfl)
   have hwr:=fun H=>jv M hS hth (by omega) H
   obtain ⟨v,v',G2,p1,p2,p3,p4,p5,p6,p7⟩:=h1.push (by omega) (wrF l[i]);have l1:bt none [v] 0=some v:=rfl;obtain ⟨G',i1,i2⟩:=dwl hS hU hN hW (tg:=tg) (vs:=vs) hl hs ha n (i+1) _ _ (by omega) (by rw [List.length_append];simp at ho ⊢;omega) p7;simp only [kv_cons,kv_nil] at i1;refine ⟨G',fun k He => ?_,i2⟩;have i1:=i1 k;generalize hG1:G++[AObj.cells l[i].row ae]=G1 at *
   rw [aK M eQ.eq_1];simp (maxSteps:=3000000) (maxDischargeDepth:=6) +contextual -implicitDefEqProofs only [amC M,↓amD,Nat.reduceBEq,Nat.reduceAdd,env,ao,cI,amG,AV.cell,Nat.reduceMul,Nat.reduceLeDiff,hi,hx,k1,hwi,hir,bk,hwr,gp,hG1,l1,p1,p2,p3,p4,p5,p6,i1,aF,hp_set0,List.set_cons_zero]
  |true=>
   have hq:wdP l[i]=(wdS (aS l[i].text) []).1++lB (wdS (aS l[i].text) []).2:=by rw [wdP,k1,sel_true];rfl
   rw [hq] at ho ⊢;rw [← List.append_assoc];have hrl:=qT l[i].text;have hl1:=xS (aS l[i].text) [];have h2:=h1.app [.str []] aG;have h3:=h2.app [.slice .full 3 ([l[i]].map ah.row)] aj;have hlG1:(G++[AObj.cells l[i].row ae]).length=G.length+1:=by simp
   have hlG2:(G++[AObj.cells l[i].row ae]++[AObj.cells [.str []] aG]).length=G.length+2:=by simp
   have hgr:(G++[AObj.cells l[i].row ae]++[AObj.cells [.str []] aG]++[AObj.cells [.slice .full 3 ([l[i]].map ah.row)] aj])[G.length+1]?=some (.cells [.str []] aG):=by
    rw [List.append_assoc,List.append_assoc,hp_getk];rfl
   have h4:=h3.row (q:=G.length+1) (w:=[]) (by have:=hG.len;omega) hgr
   have hid:(G++[AObj.cells l[i].row ae]++[AObj.cells [.str []] aG]++[AObj.cells [.slice .full 3 ([l[i]].map ah.row)] aj])[G.length+2]?=some (.cells [.slice .full 3 ([l[i]].map ah.row)] aj):=by
    rw [List.append_assoc,List.append_assoc,hp_getk];rfl
   have hsq:E.seq i9 [.ptr (G.length+2) 0] (G++[AObj.cells l[i].row ae]++[AObj.cells [.str []] aG]++[AObj.cells [.slice .full 3 ([l[i]].map ah.row)] aj])=some ((aS l[i].text).map fun r=>[.agg (unR r).row],[]):=by
    rw [hN.seq];have hb:Nat.ble ([l[i]].map ah.row).length 9223372036854775807=true:=by rw [Nat.ble_eq];simp
    simp only [u6,hid,w5,hb,cond_true,LX k1,List.map_map];rfl
   obtain ⟨G4,r1,r2⟩:=qe M hU (Hs:=G++[AObj.cells l[i].row ae]++[AObj.cells [.str []] aG]++[AObj.cells [.slice .full 3 ([l[i]].map ah.row)] aj]) h3.low (aS l[i].text) _ o [] h4 (by omega) (by simp;omega);have he:=fun (k:List Fra) (e:Env) (H0:List AObj) (he5:cK e 5 = .ptr p 0) (he8:cK e 8 = .ptr (G.length+1) 0)=>MT (M:=M) (ps:=[32]) (fn:=bM) (k:=k) (a:=e) (H0:=H0) _ hsq hN.sar (r1 e he5 he8)
   have hdu:=fun H=>FI M hU (l:=[l[i]]) (t:=.full) H
   simp only [List.map_cons,List.map_nil] at hdu he hsq;have g8:=r2.row;generalize (wdS (aS l[i].text) []).1=a at *
   generalize (wdS (aS l[i].text) []).2=w at *
   have gp2:∀ X,(G++AObj.cells l[i].row ae::X)[G.length]?=some (.cells l[i].row ae):=fun X=>by rw [aF];rfl
   have sq:∀ (X:List AObj) (x y z:AObj),(G++x::y::X).set (G.length+1) z=G++x::z::X:=fun X x y z=>by rw [hp_setk];rfl
   have hrow:l[i].row=[.int .u8 l[i].kind,.str l[i].text,.bool l[i].car]:=rfl;unfold lB at ho ⊢;cases hz:w == [] with
   |true=>
    simp only [hz,sel_true,List.append_nil] at ho ⊢;obtain ⟨G',i1,i2⟩:=dwl hS hU hN hW (tg:=tg) (vs:=vs) hl hs ha n (i+1) G4 _ (by omega) (by rw [List.length_append];omega) r2.forget;simp only [kv_cons,kv_nil] at i1;refine ⟨G',fun k He => ?_,i2⟩;have i1:=i1 k;simp only [List.append_assoc,List.cons_append,List.nil_append] at he;rw [aK M eQ.eq_1];simp (maxSteps:=3000000) (maxDischargeDepth:=6) +contextual -implicitDefEqProofs only [amC M,↓amD,Nat.reduceBEq,Nat.reduceAdd,env,ao,cI,amG,AV.cell,Nat.reduceMul,Nat.reduceLeDiff,hi,hx,k1,hwi,hir,bk,gp2,sq,hdu,he,rfnC_none,go_rfn,g8,hz,i1,aF,hp_set0,List.set_cons_zero,List.append_assoc,List.cons_append,List.nil_append]
   |false=>
    simp only [hz,sel_false,List.length_append,List.length_singleton] at ho ⊢;obtain ⟨v,v',G5,p1,p2,p3,p4,p5,p6,p7,p8,p9⟩:=r2.push (by rw [List.length_append];omega) w;have l1:bt none [v] 0=some v:=rfl;obtain ⟨G',i1,i2⟩:=dwl hS hU hN hW (tg:=tg) (vs:=vs) hl hs ha n (i+1) _ _ (by omega) (by simp only [List.length_append,List.length_singleton];omega) p7.forget;simp only [kv_cons,kv_nil] at i1;refine ⟨G',fun k He => ?_,i2⟩
    have i1:=i1 k;simp only [List.append_assoc,List.cons_append,List.nil_append] at he;rw [aK M eQ.eq_1];simp (maxSteps:=3000000) (maxDischargeDepth:=6) +contextual -implicitDefEqProofs only [amC M,↓amD,Nat.reduceBEq,Nat.reduceAdd,env,ao,cI,amG,AV.cell,Nat.reduceMul,Nat.reduceLeDiff,hi,hx,k1,hwi,hir,bk,gp2,sq,hdu,he,rfnC_none,go_rfn,g8,hz,l1,p1,p2,p3,p4,p5,p6,i1,aF,hp_set0,List.set_cons_zero,List.append_assoc,List.cons_append,List.nil_append]
theorem zU(hB:lG E)(hS:mU E)(hD:wk M)(hU:qV E)(hN:JV E)(hW:WsE E){l:Sl ah}(hl:l.l.length≤1000000)(hs:∀ x∈l.l,x.text.length≤1000000)(hwl:(bK l.l).length≤10000000)(H:List AObj) :
  M.run ep [.slice l.tag 3 (l.l.map ah.row)] H=some (.ret (wv l.l),H):=by
 have hc:=fun H=>rm M hB hD hl (fun x hx=>Nat.le_trans (hs x hx) (by omega)) H
 unfold wv;cases h0:gM l.l == 0 with
 |false=>
  rw [sel_false];rw [aP M hW.docs_Words rfl (c:=gG) rfl,gG];simp (maxSteps:=3000000) (maxDischargeDepth:=6) +contextual -implicitDefEqProofs only [amC M,↓amD,Nat.reduceBEq,Nat.reduceAdd,env,ao,cI,amG,AV.cell,Nat.reduceMul,Nat.reduceLeDiff,hc,h0,hp_self,cut_refl,wk_tuple]
 |true=>
  have e0:=eq_of_beq h0;rw [e0] at hc;rw [sel_true]
  have w0:WdH H (H++[.cells [.slice .nil 1 []] bb]) H.length []:=
   ⟨Nat.le_refl _,⟨_,by rw [aF];rfl,.inl ⟨rfl,rfl⟩⟩,by simp,fun m hm=>List.getElem?_append_left hm,fun i s j hi e=>by
    rw [List.getElem?_append_right hi] at e;cases hz:i-H.length with
    |zero=>rw [hz] at e;cases e
    |succ z=>rw [hz] at e;cases e⟩
  obtain ⟨G',i1,i2⟩:=dwl M hS hU hN hW (tg:=l.tag) (vs:=fun _=>.unk) hl hs (zS e0) l.l.length 0 _ [] (by omega) (by simpa using hwl) w0;simp only [kv_cons,kv_nil,List.drop_zero,List.nil_append,Int.ofNat_zero] at i1 i2;obtain ⟨v,hv,ho⟩:=i2.own;have l1:bt none [v] 0=some v:=rfl;have hck:cY H G':=⟨i2.len,fun i x hi hx=>.inl (by rw [← i2.low i hi];exact hx)⟩
  have htk:G'.take H.length=H:=List.ext_getElem? fun i=>by
   rw [List.getElem?_take];split
   ·rename_i h;exact i2.low i h
   ·rename_i h;rw [List.getElem?_eq_none (by omega)]
  have hln:∀ G,o9 G .sl v=some (.int .i64 ((bK l.l).length:Int)):=fun G=>by
   rcases ho with ⟨e,rfl⟩ | ⟨t,_,rfl,_⟩
   ·rw [e];rfl
   ·simp only [o9,List.length_map]
  have tu:∀ l a H t sz e,HA l a H t sz e .unk=pb l a H:=fun _ _ _ _ _ _=>rfl
  cases h5:decide ((512:Int)<((bK l.l).length:Int)) with
  |true=>
   rw [sel_true];have hh:=handV_drop hck (wk_tuple (n:=H.length) (xs:=[.slice .nil 1 [],.int .u8 3]) (ys:=[.slice .any 1 [],.int .u8 3]) ⟨wk_any (esz:=1) (tag:=.nil) (En H.length []),wk_int _ _ 3,trivial⟩);simp only [anyV_tuple,List.map_cons,List.map_nil,anyS_slice,anyS_int,htk] at hh;rw [aP M hW.docs_Words rfl (c:=gG) rfl,gG];simp (maxSteps:=3000000) (maxDischargeDepth:=6) +contextual -implicitDefEqProofs only [amC M,↓amD,Nat.reduceBEq,Nat.reduceAdd,env,ao,cI,amG,AV.cell,Nat.reduceMul,Nat.reduceLeDiff,hc,(show ((0:Int) == 0)=true from rfl),s5,tu,i1,hv,l1,hln,h5,hh]
  |false=>
   have hh:pN bn .drop H G' (.tuple [v,.int .u8 0])=some (.tuple [.slice .any 1 ((bK l.l).map bh),.int .u8 0],H):=by
    rcases ho with ⟨e,rfl⟩ | ⟨t,_,rfl,_⟩
    ·rw [e]
     have hh:=handV_drop hck (wk_tuple (n:=H.length) (xs:=[.slice .nil 1 [],.int .u8 0]) (ys:=[.slice .any 1 [],.int .u8 0]) ⟨wk_any (esz:=1) (tag:=.nil) (En H.length []),wk_int _ _ 0,trivial⟩);simpa only [anyV_tuple,List.map_cons,List.map_nil,anyS_slice,anyS_int,htk] using hh
    ·have hh:=handV_drop hck (wk_tuple (n:=H.length) (xs:=[.slice (.own t) 1 ((bK l.l).map bh),.int .u8 0]) ⟨wk_any (esz:=1) (tag:=.own t) (En H.length (bK l.l)),wk_int _ _ 0,trivial⟩)
     simpa only [anyV_tuple,List.map_cons,List.map_nil,anyS_slice,anyS_int,htk] using hh
   rw [sel_false];rw [aP M hW.docs_Words rfl (c:=gG) rfl,gG];simp (maxSteps:=3000000) (maxDischargeDepth:=6) +contextual -implicitDefEqProofs only [amC M,↓amD,Nat.reduceBEq,Nat.reduceAdd,env,ao,cI,amG,AV.cell,Nat.reduceMul,Nat.reduceLeDiff,hc,(show ((0:Int) == 0)=true from rfl),s5,tu,i1,hv,l1,hln,h5,hh]
end
section
attribute [local congr] aq aO aI au aH aC aw ak al aD aE
variable{E:aN}(M:a8 bn E)
theorem smw{l:List Str}{ta tb:Tag}(hl:l.length≤bJ){H H0:List AObj}(k:List Fra):∀ (n i:Nat) (He:List AObj),i+n=l.length →
  M.go cR H0 (.c dc :: .lp ⟨(some [0,1,5]),[],false⟩ dc He :: .blk 0 :: .c (.lv [])::k) (kv [(0,.slice ta 1 (l.map bh)),(1,.slice tb 1 (l.map bh)),(5,.int .i64 i)]) H=M.go cR H0 k .leaf H
 |0,i,He,h=>by
  have e:i=l.length:=by omega
  subst e;rw [aK M dc.eq_1];simp (maxSteps:=3000000) (maxDischargeDepth:=6) +contextual -implicitDefEqProofs only [amC M,↓amD,Nat.reduceBEq,Nat.reduceAdd,env,ao,jg,Nat.lt_irrefl]
 |n+1,i,He,h=>by
  have hi:i<l.length:=by omega
  have hx:l[i]?=some l[i]:=List.getElem?_eq_getElem hi;have ih:=fun He=>smw hl (ta:=ta) (tb:=tb) (H:=H) (H0:=H0) k n (i+1) He (by omega)
  simp only [kv_cons,kv_nil] at ih;have ia:=bG (row:=bh) (tag:=ta) (sz:=1) (k:=.i64) hi;have ib:=bG (row:=bh) (tag:=tb) (sz:=1) (k:=.i64) hi;have hwi:=jJ (n:=l.length) hi hl;rw [aK M dc.eq_1];simp (maxSteps:=3000000) (maxDischargeDepth:=6) +contextual -implicitDefEqProofs only [amC M,↓amD,Nat.reduceBEq,Nat.reduceAdd,env,ao,jg,amG,AV.cell,Nat.reduceMul,Nat.reduceLeDiff,hi,hx,ia,ib,hwi,ih,dyK,amZ,beq_self_eq_true,(show ∀ s:Str,bh s=[.str s] from fun _=>rfl)]
theorem vp(hW:WsE E){l:List Str}{ta tb:Tag}(hl:l.length≤bJ)(H:List AObj):M.run bV [.slice ta 1 (l.map bh),.slice tb 1 (l.map bh)] H=some (.ret (.bool true),H):=by
 have h1:=fun k He=>smw M (H:=H) (H0:=H) (ta:=ta) (tb:=tb) hl k l.length 0 He (by omega)
 simp only [kv_cons,kv_nil,Int.ofNat_zero] at h1;rw [aP M hW.truchmanlaw01_same rfl (c:=jf) rfl,jf];simp (maxSteps:=3000000) (maxDischargeDepth:=6) +contextual -implicitDefEqProofs only [amC M,↓amD,Nat.reduceBEq,Nat.reduceAdd,env,ao,jg,h1,bne_self_eq_false,beq_self_eq_true]
def wyN:Nat→List Str→Nat
 |0,_=>0
 |_,[]=>0
 |n+1,w::l=>w.length+wyN n l
def zV(l:List Str):Bool:=decide ((3000:Int)<((l.length+wyN 700 l:Nat):Int))
theorem wyl{l:List Str}{tg:Tag}(hl:l.length≤bJ)(hs:∀ w∈l,w.length≤bJ){H H0:List AObj}(k:List Fra):∀ (m i n:Nat) (He:List AObj),i+m=700→i≤l.length→n+m*bJ≤701*bJ →
  M.go dC H0 (.c bR :: .lp ⟨(some [0,3,4]),[],false⟩ bR He :: .blk 0 :: .c (.lv [3])::k) (kv [(0,.slice tg 1 (l.map bh)),(3,.int .i64 n),(4,.int .i64 i)]) H=M.go dC H0 k (kv [(3,.int .i64 ((n+wyN m (l.drop i):Nat):Int))]) H
 |0,i,n,He,h,hi,hn=>by
  obtain rfl:i=700:=by omega
  have d7:decide (((700:Nat):Int)<700)=false:=rfl;have z7:((700:Nat):Int)=700:=rfl;rw [wyN,Nat.add_zero];cases d1:decide (700<l.length) with
  |true=>
   rw [aK M bR.eq_1];simp (maxSteps:=3000000) (maxDischargeDepth:=6) +contextual -implicitDefEqProofs only [amC M,↓amD,Nat.reduceBEq,Nat.reduceAdd,env,ao,dD,amG,AV.cell,Nat.reduceMul,Nat.reduceLeDiff,d1,of_decide_eq_true d1,d7]
  |false=>
   rw [aK M bR.eq_1];simp (maxSteps:=3000000) (maxDischargeDepth:=6) +contextual -implicitDefEqProofs only [amC M,↓amD,Nat.reduceBEq,Nat.reduceAdd,env,ao,dD,amG,AV.cell,Nat.reduceMul,Nat.reduceLeDiff,d1,of_decide_eq_false d1,d7]
 |m+1,i,n,He,h,hi,hn=>by
  have d7:decide ((i:Int)<700)=true:=decide_eq_true (by omega)
  by_cases hlt:i<l.length
  ·have hx:l[i]?=some l[i]:=List.getElem?_eq_getElem hlt
   have hm:=hs _ (List.getElem_mem hlt);have ia:=bG (row:=bh) (tag:=tg) (sz:=1) (k:=.i64) hlt;have hwi:=jJ (n:=l.length) hlt hl;rw [Nat.add_mul,Nat.one_mul] at hn
   have hww:IntKind.i64.wrap ((n:Int)+(l[i].length:Int))=((n+l[i].length:Nat):Int):=by
    simp only [bJ] at hn hm;rw [eJ (by omega) (by omega)];rfl
   have ih:=fun He=>wyl hl hs (tg:=tg) (H:=H) (H0:=H0) k m (i+1) (n+l[i].length) He (by omega) (by omega) (by omega)
   simp only [kv_cons,kv_nil] at ih;rw [List.drop_eq_getElem_cons hlt,wyN,← Nat.add_assoc];rw [aK M bR.eq_1];simp (maxSteps:=3000000) (maxDischargeDepth:=6) +contextual -implicitDefEqProofs only [amC M,↓amD,Nat.reduceBEq,Nat.reduceAdd,env,ao,dD,amG,AV.cell,Nat.reduceMul,Nat.reduceLeDiff,hlt,hx,ia,hwi,hww,d7,ih,(show ∀ s:Str,bh s=[.str s] from fun _=>rfl)]
  ·obtain rfl:i=l.length:=by omega
   rw [List.drop_length,show wyN (m+1) []=0 from rfl,Nat.add_zero];rw [aK M bR.eq_1];simp (maxSteps:=3000000) (maxDischargeDepth:=6) +contextual -implicitDefEqProofs only [amC M,↓amD,Nat.reduceBEq,Nat.reduceAdd,env,ao,dD,Nat.lt_irrefl]
theorem Ib(hW:WsE E){l:List Str}{tg:Tag}(hl:l.length≤bJ)(hs:∀ w∈l,w.length≤bJ)(H:List AObj):M.run eW [.slice tg 1 (l.map bh)] H=some (.ret (.bool (zV l)),H):=by
 have h1:=fun k He=>wyl M hl hs (tg:=tg) (H:=H) (H0:=H) k 700 0 l.length He (by omega) (by omega) (by simp only [bJ] at hl ⊢;omega)
 simp only [kv_cons,kv_nil,Int.ofNat_zero,List.drop_zero] at h1;unfold zV;rw [aP M hW.truchmanlaw01_wordy rfl (c:=iz) rfl,iz];simp (maxSteps:=3000000) (maxDischargeDepth:=6) +contextual -implicitDefEqProofs only [amC M,↓amD,Nat.reduceBEq,Nat.reduceAdd,env,ao,dD,h1]
end
section
attribute [local congr] aq aO aI au aH aC aw ak al aD aE
variable{E:aN}(M:a8 bn E)
theorem ixw{H H0:List AObj}{v:Str}{tg:Tag}{l:List Str}(hs:l.length≤bJ)(hc:cY H0 H)(k:List Fra):∀ (n i:Nat) (He:List AObj),i+n=l.length →
  M.go bu H0 (.c bT :: .lp ⟨(some [0,1,7,8]),[],false⟩ bT He :: .blk 0 :: .c (.lv [])::k) (kv [(0,.slice tg 1 (l.map bh)),(1,.str v),(7,.int .i64 l.length),(8,.int .i64 i)]) H =
   orE (ph (HU fun s=>v == s) i (l.drop i)) (H.take H0.length) (M.go bu H0 k .leaf H)
 |0,i,He,h=>by
  have e:i=l.length:=by omega
  subst e;rw [aK M bT.eq_1];simp (maxSteps:=3000000) (maxDischargeDepth:=6) +contextual -implicitDefEqProofs only [amC M,↓amD,Nat.reduceBEq,Nat.reduceAdd,env,ao,eb,Nat.lt_irrefl,List.drop_length]
 |n+1,i,He,h=>by
  have hi:i<l.length:=by omega
  have hx:l[i]?=some l[i]:=List.getElem?_eq_getElem hi;have hd:(l.drop i)=l[i]::l.drop (i+1):=List.drop_eq_getElem_cons hi;have hm:l[i]∈l:=List.getElem_mem hi;have ih:=fun He=>ixw (H:=H) (H0:=H0) (v:=v) (tg:=tg) (l:=l) (hs:=hs) hc k n (i+1)  He (by omega)
  simp only [kv_cons,kv_nil] at ih;rw [aK M bT.eq_1];simp (maxSteps:=3000000) (maxDischargeDepth:=6) +contextual -implicitDefEqProofs only [amC M,↓amD,Nat.reduceBEq,Nat.reduceAdd,env,ao,eb,hx,hd,hi,ih,jJ hi hs,bG hi,Ow,HU,hc]
theorem Eu{α:Type}(p:α→Bool):∀ (l:List α) (i:Nat),decide (0≤eV p i l)=l.any p
 |[],_=>rfl
 |x::l,i=>by
  rw [eV,List.any_cons];cases p x with
  |true=>rw [sel_true,Bool.true_or];exact decide_eq_true (by omega)
  |false=>rw [sel_false,Bool.false_or];exact Eu p l (i+1)
theorem AY(hW:WsE E){v:Str}{tg:Tag}{l:List Str}(hs:l.length≤bJ)(H:List AObj):M.run dx [.slice tg 1 (l.map bh),.str v] H=some (.ret (.bool (l.any fun s=>v == s)),H):=by
 have h1:∀ H,M.run dY [.slice tg 1 (l.map bh),.str v] H=some (.ret (.int .i64 (eV (fun s=>v == s) 0 l)),H):=by
  intro H;have hl:=fun k He=>ixw M (tg:=tg) (v:=v) hs (cut_refl H) k l.length 0 He (by omega)
  simp only [kv_cons,kv_nil,Int.ofNat_zero,List.drop_zero] at hl;rw [aP M hW.slices_Index_string_string rfl (c:=dZ) rfl,dZ];simp (maxSteps:=3000000) (maxDischargeDepth:=6) +contextual -implicitDefEqProofs only [amC M,↓amD,Nat.reduceBEq,Nat.reduceAdd,env,ao,eb,hl];exact wm _ l 0 H
 rw [← Eu (fun s=>v == s) l 0];rw [aP M hW.slices_Contains_string_string rfl (c:=dy) rfl,dy];simp (maxSteps:=3000000) (maxDischargeDepth:=6) +contextual -implicitDefEqProofs only [amC M,↓amD,Nat.reduceBEq,Nat.reduceAdd,env,ao,lC,h1]
def FN:List Str:=[[46],[44],[59],[58],[33],[63],[41],[93]]
def mV(a b:Str):Bool := !(FN.any fun s=>b == s) && !(a == [40]) && !(a == [91])
theorem bs8(e:Env):Option.map (fun cs=>AV.slice Tag.full 1 (oV 1 8 (List.map AV.strip cs))) (fM (fun i=>some (i*1,1)) (rp 8 [AV.str []]) (List.map (fun p=>(p.fst,rx e p.snd)) [(0,Sh.s [46]),(1,Sh.s [44]),(2,Sh.s [59]),(3,Sh.s [58]),(4,Sh.s [33]),(5,Sh.s [63]),(6,Sh.s [41]),(7,Sh.s [93])]))=some (.slice .full 1 [[.str [46]],[.str [44]],[.str [59]],[.str [58]],[.str [33]],[.str [63]],[.str [41]],[.str [93]]]):=rfl
theorem FO(hW:WsE E)(a b:Str)(H:List AObj):M.run mr [.str a,.str b] H=some (.ret (.bool (mV a b)),H):=by
 have h1:=fun (t:Tag) H=>AY M hW (v:=b) (tg:=t) (l:=FN) (by simp [FN,bJ]) H
 unfold mV;simp only [FN,List.map_cons,List.map_nil,(show ∀ s:Str,bh s=[.str s] from fun _=>rfl)] at h1 ⊢;generalize ([[46],[44],[59],[58],[33],[63],[41],[93]]:List Str).any (fun s=>b == s)=c at *
 cases c with
 |true=>
  rw [aP M hW.docs_parted rfl (c:=fI) rfl,fI];simp (maxSteps:=3000000) (maxDischargeDepth:=6) +contextual -implicitDefEqProofs only [amC M,↓amD,Nat.reduceBEq,Nat.reduceAdd,env,ao,pz,bs8,h1]
 |false=>
  cases h2:a == [40] with
  |true=>
   rw [aP M hW.docs_parted rfl (c:=fI) rfl,fI];simp (maxSteps:=3000000) (maxDischargeDepth:=6) +contextual -implicitDefEqProofs only [amC M,↓amD,Nat.reduceBEq,Nat.reduceAdd,env,ao,pz,bs8,h1,h2]
  |false=>
   rw [aP M hW.docs_parted rfl (c:=fI) rfl,fI];simp (maxSteps:=3000000) (maxDischargeDepth:=6) +contextual -implicitDefEqProofs only [amC M,↓amD,Nat.reduceBEq,Nat.reduceAdd,env,ao,pz,bs8,h1,h2]
end
section
attribute [local congr] aq aO aI au aH aC aw ak al aD aE
variable{E:aN}(M:a8 bn E)
def bbF:List Str→Str
 |[]=>[]
 |w::l=>sel (mg w) (bbF l) w
theorem GR:∀ (l:List Str),l.all mg=true→bbF l=[]
 |[],_=>rfl
 |w::l,h=>by
  rw [List.all_cons,Bool.and_eq_true] at h;rw [bbF,h.1,sel_true];exact GR l h.2
end
section
attribute [local congr] aq aO aI au aH aC aw ak al aD aE
variable{E:aN}(M:a8 bn E)
def mW:ah:=⟨1,[32],false⟩
def wPc(w:Str):ah:=sel (pcF w).2 (pcF w).1 ⟨1,w,false⟩
def spR:List Str→List ah→Str→Bool→List ah
 |[],out,_,_=>out
 |w::ws,out,last,blank=>
  sel (mg w)
   (sel (!((wPc w).kind == 3) && !(last == []) && !blank)
    (spR ws (dI (sel (!(bbF (w::ws) == [])&&mV last (bbF (w::ws))) (dI out mW) out) (wPc w)) last true)
    (spR ws (dI out (wPc w)) last blank))
   (spR ws (dI (sel (!(last == []) && !blank&&mV last w) (dI out mW) out) (wPc w)) w false)
def jY:List ah→Bool→List ah→List ah
 |[],due,out=>sel due (dI out mW) out
 |p::tags,due,out=>sel (due && !(p.kind == 3)) (jY tags false (dI (dI out mW) p)) (jY tags due (dI out p))
def spD:List Str→List ah→List ah→Str→Bool→List ah
 |[],tags,out,_,_=>jY tags false out
 |w::ws,tags,out,last,any=>sel (mg w) (spD ws (tags++[wPc w]) out last any) (spD ws [] (dI (jY tags (any&&mV last w) out) (wPc w)) w true)
theorem Ev:∀ (ts:List Str) (w:Str) (ws:List Str),ts.all mg=true→mg w=false→bbF (ts++w::ws)=w
 |[],w,ws,_,h=>by rw [List.nil_append,bbF,h,sel_false]
 |t::ts,w,ws,ha,h=>by
  rw [List.all_cons,Bool.and_eq_true] at ha;rw [List.cons_append,bbF,ha.1,sel_true];exact Ev ts w ws ha.2 h
theorem zW(w:Str)(ws:List Str)(hw:mg w=false)(hn:(w == ([]:Str))=false)(last:Str):∀ (ts:List Str) (out:List ah) (blank:Bool),ts.all mg=true →
  spR (ts++w::ws) out last blank=spR ws (dI (jY (ts.map wPc) (!(last == []) && !blank&&mV last w) out) (wPc w)) w false
 |[],out,blank,_=>by rw [List.nil_append,spR,hw,sel_false];rfl
 |t::ts,out,blank,ha=>by
  have hb:=Ev (t::ts) w ws ha hw;rw [List.all_cons,Bool.and_eq_true] at ha;rw [List.cons_append] at hb;rw [List.cons_append,spR,ha.1,sel_true,hb,hn,List.map_cons,jY,zW w ws hw hn last ts _ true ha.2,zW w ws hw hn last ts _ blank ha.2];cases (wPc t).kind == 3<;>cases last == []<;>cases blank<;>cases mV last w<;>rfl
theorem CP(last:Str):∀ (ts:List Str) (out:List ah) (blank:Bool),ts.all mg=true→spR ts out last blank=jY (ts.map wPc) false out
 |[],out,blank,_=>rfl
 |t::ts,out,blank,ha=>by
  have hb:=GR (t::ts) ha;rw [List.all_cons,Bool.and_eq_true] at ha;rw [spR,ha.1,sel_true,hb,List.map_cons,jY,CP last ts _ true ha.2,CP last ts _ blank ha.2];cases (wPc t).kind == 3<;>cases last == []<;>cases blank<;>rfl
theorem CQ:∀ (ws ts:List Str) (out:List ah) (last:Str),(∀ w∈ws,mg w=false→w≠[])→ts.all mg=true →
  spD ws (ts.map wPc) out last (!(last == []))=spR (ts++ws) out last false
 |[],ts,out,last,_,ha=>by rw [List.append_nil,CP last ts out false ha];rfl
 |w::ws,ts,out,last,hn,ha=>by
  rw [spD];cases hq:mg w with
  |true=>
   rw [sel_true];have ih:=CQ ws (ts++[w]) out last (fun y hy=>hn y (List.mem_cons_of_mem _ hy)) (by rw [List.all_append,ha,List.all_cons,hq];rfl);rw [List.map_append,List.append_assoc] at ih;exact ih
  |false=>
   rw [sel_false];have hw:(w == ([]:Str))=false:=beq_eq_false_iff_ne.2 (hn w List.mem_cons_self hq);have ih:=CQ ws [] (dI (jY (ts.map wPc) (!(last == [])&&mV last w) out) (wPc w)) w (fun y hy=>hn y (List.mem_cons_of_mem _ hy)) rfl;rw [hw] at ih;rw [zW w ws hq hw last ts out false ha,Bool.not_false,Bool.and_true];exact ih
end
section
attribute [local congr] aq aO aI au aH aC aw ak al aD aE
variable{E:aN}(M:a8 bn E)
end
section
attribute [local congr] aq aO aI au aH aC aw ak al aD aE
variable{E:aN}(M:a8 bn E)
def LY(l:List ah):Tag:=match l with
 |[]=>.nil
 |_=>.any
theorem BB:∀ l:List ah,gz 3 l.length (pcC l)=l.map ah.row
 |[]=>rfl
 |x::l=>by
  rw [List.length_cons,show pcC (x::l)=x.row++pcC l from rfl,gz,List.map_cons,show (x.row++pcC l).drop 3=pcC l from rfl,BB l];rfl
theorem Nm{k n:Nat}{H:List AObj}(l:List ah):ee (ee (fzF (k+1) n H)) (l.map ah.row)=some (l.map ah.row):=
 DL fun x _=>vK (M3 _ _ _ _ _) (vK (M4 _ _ _ _) (vK (Lh _ _ _ _) (DM _)))
theorem Oc{k n:Nat}{G:List AObj}{w:AV}{l:List ah}(h:PcV G w l)(hf:free (fun i=>i<n) w):fzF (k+2) n G w=some (.slice (LY l) 3 (l.map ah.row)):=by
 rcases h with ⟨rfl,rfl⟩ | ⟨hne,Q,rfl,hQ⟩
 ·exact Lg (t:=.nil) (DM _)
 ·have hn:=hf Q _ _ _ _ rfl
  have ht:LY l = .any:=by
   cases l with
   |nil=>exact absurd rfl hne
   |cons x l=>rfl
  rw [ht];exact HF (by omega) hQ (by rw [nS];omega) (by rw [List.drop_zero,BB];exact Nm l)
end
section
attribute [local congr] aq aO aI au aH aC aw ak al aD aE
variable{E:aN}(M:a8 bn E)
end
section
attribute [local congr] aq aO aI au aH aC aw ak al aD aE
variable{E:aN}(M:a8 bn E)
theorem GS(hC:wu E){H:List AObj}{v:AV}{l:List ah}(h:PcV H v l)(hl:l.length≤100000000)(ht:∀ x∈l,x.text.length≤100000000){p:ah}(hp:p.text.length≤100000000) :
  ∃ w H',M.run b3 [v,.agg p.row] H=some (.ret w,H')∧PcV H' w (dI l p)∧w.strip=w∧(∀ Q o n e r,w = .rslice Q o n e r→w=v∨H.length≤Q)∧H.length≤H'.length∧∀ (i:Nat) (y:AObj),H[i]?=some y→(∀ Q,v = .rslice Q 0 l.length 3 true→i≠Q)→H'[i]?=some y:=by
 have r1:∀ H,n9 (some H)=some (cW,H):=fun _=>rfl
 have gx:=aF H [AObj.cells p.row ae];rw [List.getElem?_cons_zero] at gx;have hln:=fun G=>J0 (G:=G) h
 have h1:PcV (H++[AObj.cells p.row ae]) v l:=h.stay fun Q cs _ hQ=>br hQ
 have hlen1:(H++[AObj.cells p.row ae]).length=H.length+1:=by simp
 have more:dI l p=l++[p]→∃ w G,rap true (H++[AObj.cells p.row ae]) ae 3 32 false v (.slice .full 3 [p.row])=some (w,G)∧PcV G w (dI l p)∧w.strip=w∧(∀ Q o n e r,w = .rslice Q o n e r→w=v∨H.length≤Q)∧H.length≤G.length∧∀ (i:Nat) (y:AObj),H[i]?=some y→(∀ Q,v = .rslice Q 0 l.length 3 true→i≠Q)→G[i]?=some y:=fun hpf=>by
  obtain ⟨G,a1,a2,a3,a4⟩:=J2 h1 hl p;rw [hlen1] at a1 a2 a3 a4;refine ⟨_,G,a1,.inr ⟨by rw [hpf];simp,H.length+1,by rw [hpf];simp,by rw [hpf];exact a2⟩,rfl,fun Q o n e r eq=>.inr (by cases eq;omega),by omega,fun i y hi hne => ?_⟩;have hlt:=(List.getElem?_eq_some_iff.1 hi).1;rw [a4 i (by omega) hne];exact br hi
 rcases (show l=[]∨∃ t x,l=t++[x] by
  rcases List.eq_nil_or_concat l with h | ⟨t,x,h⟩
  ·exact .inl h
  ·exact .inr ⟨t,x,by simpa using h⟩) with rfl | ⟨l,x,rfl⟩
 ·obtain ⟨w,G,m1,m2,m3,m4,m5,m6⟩:=more rfl
  refine ⟨w,G, ?_,m2,m3,m4,m5,m6⟩;have d0:decide ((0:Int)<((0:Nat):Int))=false:=rfl;rw [aP M hC.truchmanref01_add rfl (c:=bN) rfl,bN];cases hk:p.kind == 1<;>simp (maxSteps:=3000000) (maxDischargeDepth:=6) +contextual -implicitDefEqProofs only [amC M,↓amD,Nat.reduceBEq,Nat.reduceAdd,env,ao,fU,amG,AV.cell,Nat.reduceMul,Nat.reduceLeDiff,gx,hln,hk,d0,bk,List.getElem?_cons_zero,m1]
 ·obtain ⟨⟨Q,e1,e2⟩⟩:Nonempty (∃ Q,v = .rslice Q 0 (l.length+1) 3 true∧H[Q]?=some (.cells (pcC (l++[x])) ae)):=by
   rcases h with ⟨h0,_⟩ | ⟨_,Q,h1,h2⟩
   ·simp at h0
   ·exact ⟨⟨Q,by simpa using h1,h2⟩⟩
  have hl2:l.length≤100000000:=by simp at hl;omega
  have hxt:=ht x (by simp);have d1:decide ((0:Int)<(((l++[x]).length:Nat):Int))=true:=decide_eq_true (by simp);have hw2:IntKind.i64.wrap ((((l++[x]).length:Nat):Int)-1)=(l.length:Int):=by rw [eJ (by simp) (by simp;omega)];simp
  have hiq:sj 3 v (.int .i64 (l.length:Int))=some (.ptr Q (l.length*3)):=by rw [e1];exact J3 (by omega) _
  have hQ1:∀ X,(H++X)[Q]?=_:=fun X=>br e2
  obtain ⟨q1,q2⟩:=GN l x;generalize hn:(l++[x]).length=n at d1 hw2 hln;cases hk:p.kind == 1 with
  |false=>
   obtain ⟨w,G,m1,m2,m3,m4,m5,m6⟩:=more (by rw [fj,hk];rfl);refine ⟨w,G, ?_,m2,m3,m4,m5,by rw [← hn];exact m6⟩;rw [aP M hC.truchmanref01_add rfl (c:=bN) rfl,bN];simp (maxSteps:=3000000) (maxDischargeDepth:=6) +contextual -implicitDefEqProofs only [amC M,↓amD,Nat.reduceBEq,Nat.reduceAdd,env,ao,fU,amG,AV.cell,Nat.reduceMul,Nat.reduceLeDiff,gx,hln,hk,d1,bk,List.getElem?_cons_zero,m1]
  |true=>
   cases hx:x.kind == 1 with
   |false=>
    obtain ⟨w,G,m1,m2,m3,m4,m5,m6⟩:=more (by rw [fj,hk,hx];rfl);refine ⟨w,G, ?_,m2,m3,m4,m5,by rw [← hn];exact m6⟩;rw [aP M hC.truchmanref01_add rfl (c:=bN) rfl,bN];simp (maxSteps:=3000000) (maxDischargeDepth:=6) +contextual -implicitDefEqProofs only [amC M,↓amD,Nat.reduceBEq,Nat.reduceAdd,env,ao,fU,amG,AV.cell,Nat.reduceMul,Nat.reduceLeDiff,gx,hln,hk,hx,d1,hw2,hiq,hQ1,q1,bk,List.getElem?_cons_zero,Nat.add_zero,m1]
   |true=>
    have hpf:dI (l++[x]) p=l++[{ x with text:=x.text++p.text }]:=by rw [fj,hk,hx];rfl
    have ha:=dt (s:=x.text) (t:=p.text) (by simp only [List.length_append] at *;omega);have hqlt:=bp e2
    have hst:stO 1 (H++[AObj.cells p.row ae]) Q (l.length*3+1) [.str (x.text++p.text)] (some (.cells (pcC (l++[x])) ae))=some ((H++[AObj.cells p.row ae]).set Q (AObj.cells (pcC (dI (l++[x]) p)) ae)):=by
     rw [stO_cells (sz:=1) rfl (by rw [nS];simp;omega) rfl,GO,hpf]
    refine ⟨v,(H++[AObj.cells p.row ae]).set Q (AObj.cells (pcC (dI (l++[x]) p)) ae), ?_,.inr ⟨by rw [hpf];simp,Q,by rw [hpf,e1];simp,List.getElem?_set_self (by simp;omega)⟩,by rw [e1];rfl,fun Q o n e r eq=>.inl rfl,by simp,fun i y hi hne => ?_⟩
    ·rw [aP M hC.truchmanref01_add rfl (c:=bN) rfl,bN]
     simp (maxSteps:=3000000) (maxDischargeDepth:=6) +contextual -implicitDefEqProofs only [amC M,↓amD,Nat.reduceBEq,Nat.reduceAdd,env,ao,fU,amG,AV.cell,Nat.reduceMul,Nat.reduceLeDiff,gx,hln,hk,hx,d1,hw2,hiq,hQ1,q1,q2,ha,hst,bk,List.getElem?_cons_zero,r1,Nat.add_zero]
    ·rw [List.getElem?_set_ne (fun e=>hne Q (by rw [← hn,e1];simp) e.symm)];exact br hi
end
section
attribute [local congr] aq aO aI au aH aC aw ak al aD aE
variable{E:aN}(M:a8 bn E)
theorem GT(w:Str):(wPc w).text.length≤w.length+1:=by
 have h:=J8 w;unfold wP at h;unfold wPc;cases e:(pcF w).2 with
 |false=>rw [sel_false];simp
 |true=>rw [e,sel_true] at h;rw [sel_true];exact h
def PcB(m:Nat)(l:List ah):Prop:=l.length≤m∧∀ x∈l,x.text.length≤m
theorem PcB.put{m:Nat}{l:List ah}(h:PcB m l)(p:ah):PcB (m+(p.text.length+1)) (dI l p):=
 ⟨by have:=Ep l p;have:=h.1;omega,fun x hx=>by have:=Er h.2 (Nat.le_refl p.text.length) x hx;omega⟩
theorem PcB.mono{m n:Nat}{l:List ah}(h:PcB m l)(hm:m≤n):PcB n l:=⟨Nat.le_trans h.1 hm,fun x hx=>Nat.le_trans (h.2 x hx) hm⟩
def wtS(l:List Str):Nat:=(l.map fun w=>w.length+8).sum
theorem sY(w:Str)(l:List Str):wtS (w::l)=w.length+8+wtS l:=by simp [wtS]
structure SpV (R:Nat→Prop) (H:List AObj) (v:AV) (l:List ah):Prop where
 rl:∀ i,R i→i<H.length
 pv:PcV H v l
 fr:free R v
structure wx (R:Nat→Prop) (H H':List AObj):Prop where
 len:H.length≤H'.length
 low:∀ i,R i→H'[i]?=H[i]?
theorem wx.refl(R:Nat→Prop)(H:List AObj):wx R H H:=⟨Nat.le_refl _,fun _ _=>rfl⟩
theorem wx.trans{R:Nat→Prop}{A B C:List AObj}(h:wx R A B)(k:wx R B C):wx R A C:=⟨Nat.le_trans h.len k.len,fun i hi=>(k.low i hi).trans (h.low i hi)⟩
theorem wx.mono{R R':Nat→Prop}{A B:List AObj}(h:wx R A B)(hr:∀ i,R' i→R i):wx R' A B:=⟨h.len,fun i hi=>h.low i (hr i hi)⟩
theorem SpV.mono{R R':Nat→Prop}{H:List AObj}{v:AV}{l:List ah}(h:SpV R H v l)(hr:∀ i,R' i→R i):SpV R' H v l:=⟨fun i hi=>h.rl i (hr i hi),h.pv,fun Q o n e r eq hR=>h.fr Q o n e r eq (hr _ hR)⟩
theorem SpV.alloc{R:Nat→Prop}{H:List AObj}{v:AV}{l:List ah}(h:SpV R H v l)(x:AObj):SpV (fun i=>R i∨i=H.length) (H++[x]) v l∧wx R H (H++[x]):=by
 refine ⟨⟨fun i hi => ?_,h.pv.stay fun Q cs _ hQ=>br hQ,fun Q o n e r eq hR => ?_⟩,⟨by simp,fun i hi=>List.getElem?_append_left (h.rl i hi)⟩⟩
 ·rcases hi with hi | hi
  ·have:=h.rl i hi;simp;omega
  ·simp;omega
 ·rcases hR with hR | hR
  ·exact h.fr Q o n e r eq hR
  ·rcases h.pv with ⟨_,hv⟩ | ⟨_,Q',hv,hQ⟩
   ·rw [hv] at eq;cases eq
   ·rw [hv] at eq;cases eq;have:=bp hQ;omega
theorem SpV.add(hC:wu E){R:Nat→Prop}{H:List AObj}{v:AV}{l:List ah}(h:SpV R H v l){m:Nat}(hb:PcB m l)(hm:m≤100000000)(p:ah)(hp:p.text.length≤100000000) :
  ∃ w H',M.run b3 [v,.agg p.row] H=some (.ret w,H')∧SpV R H' w (dI l p)∧wx R H H':=by
 obtain ⟨w,H',a1,a2,_,a4,a5,a6⟩:=GS M hC h.pv (by have:=hb.1;omega) (fun x hx=>by have:=hb.2 x hx;omega) hp;refine ⟨w,H',a1,⟨fun i hi=>Nat.lt_of_lt_of_le (h.rl i hi) a5,a2,fun Q o n e r eq hR => ?_⟩,⟨a5,fun i hi => ?_⟩⟩
 ·rcases a4 Q o n e r eq with hv | hv
  ·exact h.fr Q o n e r (hv ▸ eq) hR
  ·have:=h.rl _ hR;omega
 ·have hlt:=h.rl i hi
  rw [List.getElem?_eq_getElem hlt];exact a6 i _ (List.getElem?_eq_getElem hlt) fun Q eq ei=>h.fr Q _ _ _ _ eq (ei ▸ hi)
end
section
attribute [local congr] aq aO aI au aH aC aw ak al aD aE
variable{E:aN}(M:a8 bn E)
theorem rV.grow{R R':Nat→Prop}{c:Nat}{H H':List AObj}{S:CSt}(h:rV R c H S)(hlen:H.length≤H'.length)(hs:∀ (i:Nat) (y:AObj),¬ R i→H[i]?=some y→H'[i]?=some y)(hr:∀ i,R' i→i<H'.length)(hn:∀ i,R' i→¬ R i→H.length≤i):rV R' c H' S:=by
 obtain ⟨P,q,vs,v,ta,ov,h⟩:=h;have nr:∀ (i:Nat),¬ R i→i<H.length→¬ R' i:=fun i h1 h2 h3=>by have:=hn i h3 h1;omega
 have fr:∀ {w:AV}{l:List ah},PcV H w l→free R w→PcV H' w l∧free R' w:=fun {w l} hp hf=>by
  refine ⟨hp.stay fun Q cs e hQ=>hs Q _ (hf Q _ _ _ _ e) hQ,fun Q o n e r eq hR => ?_⟩;rcases hp with ⟨_,hv⟩ | ⟨_,Q',hv,hQ⟩
  ·rw [hv] at eq;cases eq
  ·have e1:=hv
   rw [hv] at eq;cases eq;exact nr _ (hf _ _ _ _ _ e1) (bp hQ) hR
 refine ⟨P,q,vs,v,ta,ov,⟨nr c h.hn (bp h.cell),nr P h.hP (bp h.par),hr,hs c _ h.hn h.cell,hs P _ h.hP h.par,h.len,fun i w l hi hl => ?_,(fr h.cr h.pr).1,h.ab,(fr h.cr h.pr).2,Nat.le_trans h.ql hlen, ?_, ?_,h.tg⟩⟩
 ·obtain ⟨d1,d2,d3⟩:=h.dn i w l hi hl
  exact ⟨(fr d1 d3).1,d2,(fr d1 d3).2⟩
 ·rcases h.op with hz | ⟨O,junk,h1,h2⟩
  ·exact .inl hz
  ·exact .inr ⟨O,junk,h1,hs O _ (h.oa _ _ _ _ _ h1) h2⟩
 ·intro Q o n e r eq hR
  rcases h.op with ⟨_,hv⟩ | ⟨O,junk,h1,h2⟩
  ·rw [hv] at eq;cases eq
  ·have e1:=h1
   rw [eq] at h1;cases h1;exact nr _ (h.oa _ _ _ _ _ e1) (bp h2) hR
def FP(N:Nat)(R:Nat→Prop)(H:List AObj)(v:AV)(l:List ah):Prop:=(l=[]∧v = .slice .nil 3 [])∨∃ t,N≤t∧R t∧v = .slice (.own t) 3 (l.map ah.row)∧H[t]?=some (.tok (l.length*3) ae)
structure SdV (R:Nat→Prop) (H0 H:List AObj) (ts:List ah) (tv:AV) (o:List ah):Prop where
 lo:∀ i,i<H0.length→R i
 k2:R (H0.length+2)
 k3:R (H0.length+3)
 k4:R (H0.length+4)
 cv:rV R (H0.length+1) H ⟨[],o,[],0,false,[]⟩
 c2:H[H0.length+2]?=some (.cells [.ptr (H0.length+1) 0] kn)
 c3:H[H0.length+3]?=some (.cells [tv] aj)
 c4:H[H0.length+4]?=some (.cells [.fn (.func fe) [] [.ptr (H0.length+2) 0]] Cu)
 tg:FP H0.length R H tv ts
 low:∀ i,i<H0.length→H[i]?=H0[i]?
theorem SdV.rl{R:Nat→Prop}{H0 H:List AObj}{ts:List ah}{tv:AV}{o:List ah}(h:SdV R H0 H ts tv o):∀ i,R i→i<H.length:=by
 obtain ⟨P,q,vs,v,ta,ov,h⟩:=h.cv;exact h.rl
theorem FP.stay{N:Nat}{R R':Nat→Prop}{H H':List AObj}{v:AV}{l:List ah}(h:FP N R H v l)(hr:∀ i,R i→R' i)(hs:∀ i n,R i→H[i]?=some (.tok n ae)→H'[i]?=some (.tok n ae)):FP N R' H' v l:=by
 rcases h with h | ⟨t,h0,h1,h2,h3⟩
 ·exact .inl h
 ·exact .inr ⟨t,h0,hr t h1,h2,hs t _ h1 h3⟩
theorem FP.sl{N:Nat}{R:Nat→Prop}{H:List AObj}{v:AV}{l:List ah}(h:FP N R H v l):∃ tg,v = .slice tg 3 (l.map ah.row):=by
 rcases h with ⟨rfl,h⟩ | ⟨t,_,_,h,_⟩
 ·exact ⟨_,h⟩
 ·exact ⟨_,h⟩
theorem SdV.alloc{R:Nat→Prop}{H0 H:List AObj}{ts:List ah}{tv:AV}{o:List ah}(h:SdV R H0 H ts tv o)(x:AObj):SdV (fun i=>R i∨i=H.length) H0 (H++[x]) ts tv o:=by
 have hrl:=h.rl;have hg:∀ (i:Nat) (y:AObj),H[i]?=some y→(H++[x])[i]?=some y:=fun i y hy=>br hy
 refine ⟨fun i hi=>.inl (h.lo i hi),.inl h.k2,.inl h.k3,.inl h.k4,h.cv.grow (by simp) (fun i y _ hy=>hg i y hy) (fun i hi => ?_) (fun i hi hn => ?_),hg _ _ h.c2,hg _ _ h.c3,hg _ _ h.c4,h.tg.stay (fun _=>.inl) (fun i n _ hy=>hg i _ hy),fun i hi => ?_⟩
 ·rcases hi with hi | hi
  ·have:=hrl i hi;simp;omega
  ·simp;omega
 ·rcases hi with hi | hi
  ·exact absurd hi hn
  ·omega
 ·rw [List.getElem?_append_left (hrl i (h.lo i hi))];exact h.low i hi
theorem SdV.back{R R1:Nat→Prop}{H0 H H':List AObj}{ts:List ah}{tv:AV}{o o':List ah}(h:SdV R H0 H ts tv o)(h':SdV R1 H0 H' ts tv o')(hr:∀ i,R i→R1 i):SdV R H0 H' ts tv o':=by
 have hrl:=h'.rl;refine ⟨h.lo,h.k2,h.k3,h.k4,h'.cv.grow (Nat.le_refl _) (fun _ _ _ hy=>hy) (fun i hi=>hrl i (hr i hi)) (fun i hi hn=>absurd (hr i hi) hn),h'.c2,h'.c3,h'.c4, ?_,h'.low⟩;rcases h'.tg with h1 | ⟨t,h0,h1,h2,h3⟩
 ·exact .inl h1
 ·rcases h.tg with ⟨_,g2⟩ | ⟨t',_,g1,g2,_⟩
  ·rw [g2] at h2;cases h2
  ·rw [g2] at h2
   injection h2 with h2;injection h2 with h2;subst h2;exact .inr ⟨_,h0,g1,g2,h3⟩
theorem SdV.put(hC:wu E){R:Nat→Prop}{H0 H:List AObj}{ts:List ah}{tv:AV}{o:List ah}(h:SdV R H0 H ts tv o){m:Nat}(hb:PcB m o)(hm:m≤100000000)(p:ah)(hp:p.text.length≤100000000) :
  ∃ H',M.run bj [.ptr (H0.length+1) 0,.agg p.row] H=some (.ret (.tuple []),H')∧SdV R H0 H' ts tv (dI o p)∧wx R H H':=by
 obtain ⟨H',a1,a2,a3,_⟩:=LR M hC h.cv (by simp) (by have:=hb.1;dsimp only;omega) (fun x hx=>by have:=hb.2 x hx;omega) hp;refine ⟨H',a1,⟨h.lo,h.k2,h.k3,h.k4,a2, ?_, ?_, ?_,h.tg.stay (fun _ hi=>hi) (fun i n hi hy=>by rw [a3.low i hi];exact hy),fun i hi=>by rw [a3.low i (h.lo i hi)];exact h.low i hi⟩,⟨a3.len,a3.low⟩⟩
 ·rw [a3.low _ h.k2];exact h.c2
 ·rw [a3.low _ h.k3];exact h.c3
 ·rw [a3.low _ h.k4];exact h.c4
theorem BC(hC:wu E)(hW:WsE E){R:Nat→Prop}{H0 H:List AObj}{ts:List ah}{tv:AV}{o:List ah}(h:SdV R H0 H ts tv o){m:Nat}(hb:PcB m o)(hm:m≤100000000) :
  ∃ H',M.run fe [.ptr (H0.length+2) 0] H=some (.ret (.tuple []),H')∧SdV R H0 H' ts tv (dI o mW)∧wx R H H':=by
 obtain ⟨H',a1,a2,a3⟩:=h.put M hC hb hm mW (by decide);refine ⟨H', ?_,a2,a3⟩;have hr:mW.row=[.int .u8 1,.str [32],.bool false]:=rfl;rw [hr] at a1;have c2:=h.c2;have l1:∀ v:AV,bt none [v] 0=some v:=fun _=>rfl
 rw [aP M hW.docs_spaced_1 rfl (c:=na) rfl,na];simp (maxSteps:=3000000) (maxDischargeDepth:=6) +contextual -implicitDefEqProofs only [amC M,↓amD,Nat.reduceBEq,Nat.reduceAdd,env,ao,xh,amG,AV.cell,Nat.reduceMul,Nat.reduceLeDiff,c2,l1,a1]
def wtP(l:List ah):Nat:=(l.map fun p=>p.text.length+4).sum
theorem Ew(p:ah)(l:List ah):wtP (p::l)=p.text.length+4+wtP l:=by simp [wtP]
theorem sfl(hC:wu E)(hW:WsE E){R:Nat→Prop}{H0 Hc:List AObj}{ts:List ah}{tv:AV}(ht:ts.length≤1000000)(hx:∀ p∈ts,p.text.length≤10000000) :
  ∀ (n i m:Nat) (H:List AObj) (o:List ah) (due:Bool),i+n=ts.length→SdV R H0 H ts tv o→PcB m o→m+wtP (ts.drop i)≤100000000 →
  ∃ H' due' o',(∀ (k:List Fra) (He:List AObj),M.go fh Hc (.c dh :: .lp ⟨(some [0,1,2,3,7,8,9]),[],false⟩ dh He :: .blk 0 :: .c (.lv [0,1,2])::k) (kv [(0,.bool due),(1,.ptr (H0.length+3) 0),(2,.ptr (H0.length+4) 0),(3,.ptr (H0.length+2) 0),(7,tv),(8,.int .i64 ts.length),(9,.int .i64 i)]) H=M.go fh Hc k (kv [(0,.bool due'),(1,.ptr (H0.length+3) 0),(2,.ptr (H0.length+4) 0)]) H') ∧
   SdV R H0 H' ts tv o'∧jY (ts.drop i) due o=jY [] due' o'∧PcB (m+wtP (ts.drop i)) o'
 |0,i,m,H,o,due,h,hv,hb,hm=>by
  have e:i=ts.length:=by omega
  subst e;refine ⟨H,due,o,fun k He => ?_,hv,by rw [List.drop_length],hb.mono (by omega)⟩;rw [aK M dh.eq_1];simp (maxSteps:=3000000) (maxDischargeDepth:=6) +contextual -implicitDefEqProofs only [amC M,↓amD,Nat.reduceBEq,Nat.reduceAdd,env,ao,fi,Nat.lt_irrefl]
 |n+1,i,m,H,o,due,h,hv,hb,hm=>by
  have hi:i<ts.length:=by omega
  have hxi:ts[i]?=some ts[i]:=List.getElem?_eq_getElem hi;have hsz:=hx _ (List.getElem_mem hi);have hwi:=jJ (n:=ts.length) hi (by simp only [bJ];omega);have hd:=List.drop_eq_getElem_cons hi;obtain ⟨tg,htv⟩:=hv.tg.sl;have hir:=bG (row:=ah.row) (l:=ts) (tag:=tg) (sz:=3) (k:=.i64) hi;rw [hd,Ew] at hm ⊢;rw [jY];have h1:=hv.alloc (AObj.cells ts[i].row ae);have l1:∀ v:AV,bt none [v] 0=some v:=fun _=>rfl
  have c2:=h1.c2;have c4:=h1.c4;have g0:(H++[AObj.cells ts[i].row ae])[H.length]?=some (AObj.cells ts[i].row ae):=by rw [aF];rfl
  cases hc:due && !(ts[i].kind == 3) with
  |true=>
   rw [sel_true];simp only [Bool.and_eq_true,Bool.not_eq_true'] at hc;obtain ⟨rfl,hk⟩:=hc;obtain ⟨G1,a1,a2,a3⟩:=BC M hC hW h1 hb (by omega);have b1:=hb.put mW;obtain ⟨G2,d1,d2,d3⟩:=a2.put M hC (m:=m+2) b1 (by omega) ts[i] (by omega);have b2:=b1.put ts[i];obtain ⟨H',due',o',i1,i2,i3,i4⟩:=sfl hC hW (Hc:=Hc) ht hx n (i+1) _ G2 _ false (by omega) (hv.back d2 fun _=>.inl) b2 (by show m+2+_+_≤_;omega);refine ⟨H',due',o',fun k He => ?_,i2,i3,i4.mono (by show m+2+_+_≤_;omega)⟩
   have i1:=i1 k;have x0:G1[H.length]?=some (AObj.cells ts[i].row ae):=by rw [a3.low _ (.inr rfl)];exact g0
   have x2:=a2.c2;simp only [kv_cons,kv_nil] at i1;rw [htv] at i1 ⊢;rw [aK M dh.eq_1];simp (maxSteps:=3000000) (maxDischargeDepth:=6) +contextual -implicitDefEqProofs only [amC M,↓amD,Nat.reduceBEq,Nat.reduceAdd,env,ao,fi,amG,AV.cell,Nat.reduceMul,Nat.reduceLeDiff,hi,hxi,hwi,hir,bk,l1,hk,c2,c4,a1,x0,x2,d1,i1,aF,hp_set0,List.getElem?_cons_zero,List.set_cons_zero]
  |false=>
   rw [sel_false];obtain ⟨G2,d1,d2,d3⟩:=h1.put M hC hb (by omega) ts[i] (by omega);have b2:=hb.put ts[i];obtain ⟨H',due',o',i1,i2,i3,i4⟩:=sfl hC hW (Hc:=Hc) ht hx n (i+1) _ G2 _ due (by omega) (hv.back d2 fun _=>.inl) b2 (by omega);refine ⟨H',due',o',fun k He => ?_,i2,i3,i4.mono (by omega)⟩;have i1:=i1 k;simp only [kv_cons,kv_nil] at i1;rw [htv] at i1 ⊢;cases due with
   |false=>
    rw [aK M dh.eq_1];simp (maxSteps:=3000000) (maxDischargeDepth:=6) +contextual -implicitDefEqProofs only [amC M,↓amD,Nat.reduceBEq,Nat.reduceAdd,env,ao,fi,amG,AV.cell,Nat.reduceMul,Nat.reduceLeDiff,hi,hxi,hwi,hir,bk,l1,c2,d1,i1,aF,hp_set0,List.getElem?_cons_zero,List.set_cons_zero]
   |true=>
    rw [Bool.true_and,Bool.not_eq_false'] at hc;rw [aK M dh.eq_1];simp (maxSteps:=3000000) (maxDischargeDepth:=6) +contextual -implicitDefEqProofs only [amC M,↓amD,Nat.reduceBEq,Nat.reduceAdd,env,ao,fi,amG,AV.cell,Nat.reduceMul,Nat.reduceLeDiff,hi,hxi,hwi,hir,bk,l1,hc,c2,d1,i1,aF,hp_set0,List.getElem?_cons_zero,List.set_cons_zero]
theorem SdV.setT{R R':Nat→Prop}{H0 H H':List AObj}{ts ts':List ah}{tv tv':AV}{o:List ah}(h:SdV R H0 H ts tv o)(hr:∀ i,R i→R' i)(hl:H.length≤H'.length)(hn:∀ i,R' i→R i∨H.length≤i)(hrl:∀ i,R' i→i<H'.length)
  (hs:∀ (i:Nat) (y:AObj),H[i]?=some y→(∀ n,y≠.tok n ae)→H'[i]?=some y) (hlow:∀ i,i<H0.length→H'[i]?=H[i]?) (ht:FP H0.length R' H' tv' ts') :
  SdV R' H0 (H'.set (H0.length+3) (.cells [tv'] aj)) ts' tv' o∧H'[H0.length+3]?=some (.cells [tv] aj):=by
 have g3:H'[H0.length+3]?=some (.cells [tv] aj):=hs _ _ h.c3 fun n e=>by cases e
 have hlt:=bp g3;refine ⟨⟨fun i hi=>hr i (h.lo i hi),hr _ h.k2,hr _ h.k3,hr _ h.k4, ?_, ?_,List.getElem?_set_self hlt, ?_,ht.stay (fun _ hi=>hi) (fun i n _ hy => ?_),fun i hi => ?_⟩,g3⟩
 ·obtain ⟨P,q,vs,v,ta,ov,hw⟩:=h.cv
  have nr:∀ (i:Nat),¬ R i→i<H.length→¬ R' i:=fun i h1 h2 h3=>by rcases hn i h3 with h4 | h4<;>first | exact h1 h4 | omega
  have st:∀ (i:Nat) (cs:List AV) (T:TypeId),¬ R i→H[i]?=some (.cells cs T)→(H'.set (H0.length+3) (AObj.cells [tv'] aj))[i]?=some (.cells cs T):=fun i cs T hi hy=>by
   rw [List.getElem?_set_ne (fun e=>hi (by rw [← e];exact h.k3))];exact hs i _ hy fun n e=>by cases e
  have fr:∀ {w:AV}{l:List ah},PcV H w l→free R w→PcV (H'.set (H0.length+3) (AObj.cells [tv'] aj)) w l∧free R' w:=fun {w l} hp hf=>by
   refine ⟨hp.stay fun Q cs e hQ=>st Q _ _ (hf Q _ _ _ _ e) hQ,fun Q o n e r eq hR => ?_⟩;rcases hp with ⟨_,hv⟩ | ⟨_,Q',hv,hQ⟩
   ·rw [hv] at eq;cases eq
   ·have e1:=hv
    rw [hv] at eq;cases eq;exact nr _ (hf _ _ _ _ _ e1) (bp hQ) hR
  refine ⟨P,q,vs,v,ta,ov,⟨nr _ hw.hn (bp hw.cell),nr P hw.hP (bp hw.par),fun i hi=>by simpa using hrl i hi,st _ _ _ hw.hn hw.cell,st P _ _ hw.hP hw.par,hw.len,fun i w l hi hl => ?_,(fr hw.cr hw.pr).1,hw.ab,(fr hw.cr hw.pr).2,by have:=hw.ql;simp;omega, ?_, ?_,hw.tg⟩⟩
  ·obtain ⟨d1,d2,d3⟩:=hw.dn i w l hi hl
   exact ⟨(fr d1 d3).1,d2,(fr d1 d3).2⟩
  ·rcases hw.op with hz | ⟨O,junk,h1,h2⟩
   ·exact .inl hz
   ·exact .inr ⟨O,junk,h1,st O _ _ (hw.oa _ _ _ _ _ h1) h2⟩
  ·intro Q o n e r eq hR
   rcases hw.op with ⟨_,hv⟩ | ⟨O,junk,h1,h2⟩
   ·rw [hv] at eq;cases eq
   ·have e1:=h1
    rw [eq] at h1;cases h1;exact nr _ (hw.oa _ _ _ _ _ e1) (bp h2) hR
 ·rw [List.getElem?_set_ne (by omega)];exact hs _ _ h.c2 fun n e=>by cases e
 ·rw [List.getElem?_set_ne (by omega)];exact hs _ _ h.c4 fun n e=>by cases e
 ·rw [List.getElem?_set_ne (fun e=>by rw [← e,g3] at hy;cases hy)];exact hy
 ·rw [List.getElem?_set_ne (by omega),hlow i hi];exact h.low i hi
theorem zX(hC:wu E)(hW:WsE E){R:Nat→Prop}{H0 H:List AObj}{ts:List ah}{tv:AV}{o:List ah}(h:SdV R H0 H ts tv o)(ht:ts.length≤1000000)(hx:∀ p∈ts,p.text.length≤10000000){m:Nat}(hb:PcB m o)(hm:m+wtP ts≤100000000)(due:Bool) :
  ∃ H',M.run ff [.bool due,.ptr (H0.length+3) 0,.ptr (H0.length+4) 0,.ptr (H0.length+2) 0] H=some (.ret (.tuple []),H')∧SdV R H0 H' [] (.slice .nil 3 []) (jY ts due o)∧PcB (m+wtP ts+2) (jY ts due o):=by
 obtain ⟨H1,due',o',i1,i2,i3,i4⟩:=sfl M hC hW (Hc:=H) ht hx ts.length 0 m H o due (by omega) h hb (by rw [List.drop_zero];exact hm);rw [List.drop_zero] at i3 i4;simp only [kv_cons,kv_nil,Int.ofNat_zero] at i1;rw [i3,jY];have l1:∀ v:AV,bt none [v] 0=some v:=fun _=>rfl
 have c3:=h.c3;have c4:=i2.c4
 have fin:∀ {G:List AObj}{oo:List ah},SdV R H0 G ts tv oo→SdV R H0 (G.set (H0.length+3) (.cells [.slice .nil 3 []] aj)) [] (.slice .nil 3 []) oo∧G[H0.length+3]?=some (.cells [tv] aj):=fun {G oo} hg=>
  hg.setT (fun _ hi=>hi) (Nat.le_refl _) (fun _ hi=>.inl hi) hg.rl (fun _ _ hy _=>hy) (fun _ _=>rfl) (.inl ⟨rfl,rfl⟩)
 have stq:∀ G:List AObj,stO 1 G (H0.length+3) 0 [.slice .nil 3 []] (some (.cells [tv] aj))=some (G.set (H0.length+3) (.cells [.slice .nil 3 []] aj)):=fun G=>by rw [stO_cells (sz:=1) rfl (by simp) rfl];rfl
 have hln:∀ G,o9 G .sl tv=some (.int .i64 (ts.length:Int)):=fun G=>by
  obtain ⟨tg,e⟩:=h.tg.sl;rw [e];simp only [o9,List.length_map]
 cases due' with
 |false=>
  rw [sel_false];obtain ⟨f1,f2⟩:=fin i2;refine ⟨_, ?_,f1,i4.mono (by omega)⟩;rw [aP M hW.docs_spaced_2 rfl (c:=gO) rfl,gO];simp (maxSteps:=3000000) (maxDischargeDepth:=6) +contextual -implicitDefEqProofs only [amC M,↓amD,Nat.reduceBEq,Nat.reduceAdd,env,ao,fi,amG,AV.cell,Nat.reduceMul,Nat.reduceLeDiff,c3,l1,hln,i1,f2,stq]
 |true=>
  rw [sel_true];obtain ⟨G1,a1,a2,a3⟩:=BC M hC hW i2 i4 (by omega);obtain ⟨f1,f2⟩:=fin a2;refine ⟨_, ?_,f1,i4.put mW⟩;rw [aP M hW.docs_spaced_2 rfl (c:=gO) rfl,gO];simp (maxSteps:=3000000) (maxDischargeDepth:=6) +contextual -implicitDefEqProofs only [amC M,↓amD,Nat.reduceBEq,Nat.reduceAdd,env,ao,fi,amG,AV.cell,Nat.reduceMul,Nat.reduceLeDiff,c3,l1,hln,i1,c4,a1,f2,stq]
theorem SdV.push{R:Nat→Prop}{H0 H:List AObj}{ts:List ah}{tv:AV}{o:List ah}(h:SdV R H0 H ts tv o)(ht:ts.length≤1000000)(p:ah) :
  ∃ tv' G R',rap false H ae 3 32 false tv (.slice .full 3 [p.row])=some (tv',G)∧G[H0.length+3]?=some (.cells [tv] aj)∧bC tv'=some [tv']∧tv'.cell=true ∧
   stO 1 G (H0.length+3) 0 [tv'] (some (.cells [tv] aj))=some (G.set (H0.length+3) (.cells [tv'] aj))∧SdV R' H0 (G.set (H0.length+3) (.cells [tv'] aj)) (ts++[p]) tv' o:=by
 have hrl:=h.rl;have hlo:=h.lo;have h3l:=bp h.c3;rcases h.tg with ⟨rfl,rfl⟩ | ⟨t,t0,t1,rfl,t3⟩
 ·have hr:=FH (sz:=3) (bytes:=32) (e:=ae) (r:=p.row) H rfl rfl (by omega)
  obtain ⟨a1,a2⟩:=h.setT (H':=H++[.tok 3 ae]) (R':=fun i=>R i∨i=H.length) (ts':=[p]) (tv':=.slice (.own H.length) 3 [p.row.map AV.strip]) (fun _=>.inl) (by simp) (fun i hi=>by rcases hi with hi | hi;exact .inl hi;exact .inr (by omega)) (fun i hi=>by
   rcases hi with hi | hi
   ·have:=hrl i hi;simp;omega
   ·simp;omega) (fun i y hy _=>br hy) (fun i hi=>List.getElem?_append_left (by omega)) (.inr ⟨H.length,by omega,.inr rfl,rfl,by rw [aF];rfl⟩)
  exact ⟨_,_,_,hr,a2,rfl,rfl,by rw [stO_cells (sz:=1) rfl (by simp) rfl];rfl,a1⟩
 ·have htl:=(List.getElem?_eq_some_iff.1 t3).1
  have hr:=GG (row:=ah.row) (l:=ts) (x:=p) (r:=p.row) (sz:=3) (bytes:=32) (e:=ae) (H:=H) (t:=t) t3 rfl rfl rfl (by omega) (by omega)
  obtain ⟨a1,a2⟩:=h.setT (H':=H.set t (.tok ((ts++[p]).length*3) ae)) (R':=R) (ts':=ts++[p]) (tv':=.slice (.own t) 3 ((ts++[p]).map ah.row)) (fun _ hi=>hi) (by simp) (fun _=>.inl) (fun i hi=>by simpa using hrl i hi)
   (fun i y hy hn=>by
    rw [List.getElem?_set_ne (fun e=>by subst e;rw [t3] at hy;cases hy;exact hn _ rfl)];exact hy)
   (fun i hi=>List.getElem?_set_ne (by omega)) (.inr ⟨t,t0,t1,rfl,List.getElem?_set_self htl⟩)
  exact ⟨_,_,_,hr,a2,rfl,rfl,by rw [stO_cells (sz:=1) rfl (by simp) rfl];rfl,a1⟩
theorem LZ(l m:List ah):wtP (l++m)=wtP l+wtP m:=by simp [wtP,List.sum_append]
theorem dsp(hB:lG E)(hS:mU E)(hX:tK M)(hC:wu E)(hW:WsE E){l:List Str}{tg:Tag}(hl:l.length≤1000000)(hs:∀ w∈l,w.length≤1000000){H0 Hc:List AObj} :
  ∀ (n i m:Nat) (R:Nat→Prop) (H:List AObj) (ts:List ah) (tv:AV) (o:List ah) (last:Str) (any:Bool),i+n=l.length→SdV R H0 H ts tv o→PcB m o→ts.length+n≤1000000→(∀ p∈ts,p.text.length≤10000000)→m+wtP ts+wtS (l.drop i)+2≤100000000 →
  ∃ H' R' ts' tv' o',(∀ (k:List Fra) (He:List AObj),M.go kg Hc (.c cJ :: .lp ⟨(some [3,4,5,6,8,20,21,22]),[],false⟩ cJ He :: .blk 0 :: .c (.lv [3,8])::k) (kv [(3,.ptr (H0.length+2) 0),(4,.ptr (H0.length+3) 0),(5,.str last),(6,.bool any),(8,.fn (.func ff) [] [.ptr (H0.length+3) 0,.ptr (H0.length+4) 0,.ptr (H0.length+2) 0]),(20,.slice tg 1 (l.map bh)),(21,.int .i64 l.length),(22,.int .i64 i)]) H =
   M.go kg Hc k (kv [(3,.ptr (H0.length+2) 0),(8,.fn (.func ff) [] [.ptr (H0.length+3) 0,.ptr (H0.length+4) 0,.ptr (H0.length+2) 0])]) H') ∧
   SdV R' H0 H' ts' tv' o'∧spD (l.drop i) ts o last any=jY ts' false o'∧ts'.length≤1000000∧(∀ p∈ts',p.text.length≤10000000)∧∃ m',PcB m' o'∧m'+wtP ts'+2≤100000000
 |0,i,m,R,H,ts,tv,o,last,any,h,hv,hb,ht,hx,hm=>by
  have e:i=l.length:=by omega
  subst e;refine ⟨H,R,ts,tv,o,fun k He => ?_,hv,by rw [List.drop_length];rfl,by omega,hx,m,hb,by omega⟩;rw [aK M cJ.eq_1];simp (maxSteps:=3000000) (maxDischargeDepth:=6) +contextual -implicitDefEqProofs only [amC M,↓amD,Nat.reduceBEq,Nat.reduceAdd,env,ao,fG,Nat.lt_irrefl]
 |n+1,i,m,R,H,ts,tv,o,last,any,h,hv,hb,ht,hx,hm=>by
  have hi:i<l.length:=by omega
  have hxi:l[i]?=some l[i]:=List.getElem?_eq_getElem hi;have hsz:=hs _ (List.getElem_mem hi);have hp:=fun H=>qW M hB hS hX hW (w:=l[i]) (by omega) H
  have htg:=fun H=>J6 M hB hS hX hW (w:=l[i]) (by omega) H
  have hpa:=fun a b H=>FO M hW a b H
  have hwi:=jJ (n:=l.length) hi (by simp only [bJ];omega);have hir:=bG (row:=bh) (tag:=tg) (sz:=1) (k:=.i64) hi;have hr:∀ p:ah,p.row=[.int .u8 p.kind,.str p.text,.bool p.car]:=fun _=>rfl
  have hsr:∀ s:Str,bh s=[.str s]:=fun _=>rfl
  have hwt:=GT l[i];have hd:=List.drop_eq_getElem_cons hi;have l1:∀ v:AV,bt none [v] 0=some v:=fun _=>rfl
  have g0:∀ (G:List AObj) (x:AObj),(G++[x])[G.length]?=some x:=fun G x=>by rw [aF];rfl
  rw [hd,sY] at hm;rw [hd,spD];cases hq:mg l[i] with
  |true=>
   rw [sel_true]
   have hok:(pcF l[i]).2=true:=by
    unfold mg tgF at hq;simp only [Bool.and_eq_true] at hq;exact hq.1
   have ew:(pcF l[i]).1=wPc l[i]:=by rw [wPc,hok,sel_true]
   have et:tgF l[i]=(wPc l[i],true):=by
    have:(tgF l[i]).2=true:=hq
    rw [← ew,← this];rfl
   simp only [et,uB,hr] at htg;have h1:=hv.alloc (AObj.cells (wPc l[i]).row ae);obtain ⟨tv',G,R',a1,a2,a3,a4,a5,a6⟩:=h1.push (by omega) (wPc l[i])
   obtain ⟨H',R2,ts',tv2,o',i1,i2,i3,i4,i5,m',i6,i7⟩:=dsp hB hS hX hC hW (Hc:=Hc) (tg:=tg) hl hs n (i+1) m R' _ (ts++[wPc l[i]]) tv' o last any (by omega) a6 hb (by simp;omega) (fun p hp=>by
    rcases List.mem_append.1 hp with hp | hp
    ·exact hx p hp
    ·rw [List.mem_singleton] at hp;subst hp;omega) (by rw [LZ,Ew,show wtP []=0 from rfl];omega)
   refine ⟨H',R2,ts',tv2,o',fun k He => ?_,i2,i3,i4,i5,m',i6,i7⟩;have i1:=i1 k;have c3:=h1.c3;simp only [kv_cons,kv_nil] at i1;have g0:=g0 H (AObj.cells (wPc l[i]).row ae);rw [hr] at a1 c3 g0;rw [aK M cJ.eq_1];simp (maxSteps:=3000000) (maxDischargeDepth:=6) +contextual -implicitDefEqProofs only [amC M,↓amD,Nat.reduceBEq,Nat.reduceAdd,env,ao,fG,amG,AV.cell,Nat.reduceMul,Nat.reduceLeDiff,hi,hxi,htg,hwi,hir,hsr,l1,c3,a1,a2,a3,a4,a5,i1,g0,aF,hp_set0,aT,List.getElem?_cons_zero,List.getElem?_cons_succ]
  |false=>
   rw [sel_false];have et:(tgF l[i]).2=false:=hq;rw [show tgF l[i]=((tgF l[i]).1,false) from Prod.ext rfl et] at htg;simp only [uB,hr] at htg;have h1:=hv.alloc (AObj.cells (tgF l[i]).1.row ae);obtain ⟨G1,f1,f2,f3⟩:=zX M hC hW h1 (by omega) hx hb (by omega) (any&&mV last l[i]);have h2:=f2.alloc (AObj.cells (pcF l[i]).1.row ae);obtain ⟨G2,d1,d2,d3⟩:=h2.put M hC f3 (by omega) (wPc l[i]) (by omega);obtain ⟨H',R2,ts',tv2,o',i1,i2,i3,i4,i5,m',i6,i7⟩:=dsp hB hS hX hC hW (Hc:=Hc) (tg:=tg) hl hs n (i+1) _ _ G2 [] _ _ l[i] true (by omega) d2 (f3.put (wPc l[i])) (by simp;omega) (fun p hp=>by cases hp) (by rw [show wtP []=0 from rfl];omega)
   refine ⟨H',R2,ts',tv2,o',fun k He => ?_,i2,i3,i4,i5,m',i6,i7⟩;have i1:=i1 k;have c2:=h2.c2;simp only [kv_cons,kv_nil] at i1;have g0:=g0 G1 (AObj.cells (pcF l[i]).1.row ae);have hrt:=hr (tgF l[i]).1;rw [hrt] at f1;rw [hr (pcF l[i]).1] at d1 c2 g0;cases any with
   |false=>
    rw [Bool.false_and] at f1;cases hok:(pcF l[i]).2 with
    |true=>
     have ew:(pcF l[i]).1=wPc l[i]:=by rw [wPc,hok,sel_true]
     rw [show pcF l[i]=((pcF l[i]).1,true) from Prod.ext rfl hok] at hp;simp only [uB,hr] at hp;rw [← ew,hr] at d1;rw [aK M cJ.eq_1];simp (maxSteps:=3000000) (maxDischargeDepth:=6) +contextual -implicitDefEqProofs only [amC M,↓amD,Nat.reduceBEq,Nat.reduceAdd,env,ao,fG,amG,AV.cell,Nat.reduceMul,Nat.reduceLeDiff,hi,hxi,htg,hp,hpa,hwi,hir,hsr,l1,c2,f1,d1,i1,g0,aF,hp_set0,aT,List.getElem?_cons_zero,List.getElem?_cons_succ]
    |false=>
     have ew:(wPc l[i]).row=[.int .u8 1,.str l[i],.bool false]:=by rw [wPc,hok,sel_false];rfl
     rw [show pcF l[i]=((pcF l[i]).1,false) from Prod.ext rfl hok] at hp;simp only [uB,hr] at hp;rw [ew] at d1;rw [aK M cJ.eq_1];simp (maxSteps:=3000000) (maxDischargeDepth:=6) +contextual -implicitDefEqProofs only [amC M,↓amD,Nat.reduceBEq,Nat.reduceAdd,env,ao,fG,amG,AV.cell,Nat.reduceMul,Nat.reduceLeDiff,hi,hxi,htg,hp,hpa,hwi,hir,hsr,l1,c2,f1,d1,i1,g0,aF,hp_set0,aT,List.getElem?_cons_zero,List.getElem?_cons_succ]
   |true=>
    rw [Bool.true_and] at f1;cases hok:(pcF l[i]).2 with
    |true=>
     have ew:(pcF l[i]).1=wPc l[i]:=by rw [wPc,hok,sel_true]
     rw [show pcF l[i]=((pcF l[i]).1,true) from Prod.ext rfl hok] at hp;simp only [uB,hr] at hp;rw [← ew,hr] at d1;rw [aK M cJ.eq_1];simp (maxSteps:=3000000) (maxDischargeDepth:=6) +contextual -implicitDefEqProofs only [amC M,↓amD,Nat.reduceBEq,Nat.reduceAdd,env,ao,fG,amG,AV.cell,Nat.reduceMul,Nat.reduceLeDiff,hi,hxi,htg,hp,hpa,hwi,hir,hsr,l1,c2,f1,d1,i1,g0,aF,hp_set0,aT,List.getElem?_cons_zero,List.getElem?_cons_succ]
    |false=>
     have ew:(wPc l[i]).row=[.int .u8 1,.str l[i],.bool false]:=by rw [wPc,hok,sel_false];rfl
     rw [show pcF l[i]=((pcF l[i]).1,false) from Prod.ext rfl hok] at hp;simp only [uB,hr] at hp;rw [ew] at d1;rw [aK M cJ.eq_1];simp (maxSteps:=3000000) (maxDischargeDepth:=6) +contextual -implicitDefEqProofs only [amC M,↓amD,Nat.reduceBEq,Nat.reduceAdd,env,ao,fG,amG,AV.cell,Nat.reduceMul,Nat.reduceLeDiff,hi,hxi,htg,hp,hpa,hwi,hir,hsr,l1,c2,f1,d1,i1,g0,aF,hp_set0,aT,List.getElem?_cons_zero,List.getElem?_cons_succ]
theorem Ex(hB:lG E)(hS:mU E)(hX:tK M)(hC:wu E)(hW:WsE E){l:List Str}{tg:Tag}(hl:l.length≤1000000)(hs:∀ w∈l,w.length≤1000000)(hm:wtS l+2≤100000000)(H:List AObj) :
  M.run mq [.slice tg 1 (l.map bh)] H=some (.ret (.slice (LY (spD l [] [] [] false)) 3 ((spD l [] [] [] false).map ah.row)),H):=by
 obtain ⟨G,hG⟩:∃ G,G=H++[AObj.cells [.slice .nil 3 []] aj,AObj.cells [.rslice H.length 0 1 1 true,.slice .nil 1 [],.int .i64 0,.bool false,.slice .nil 1 []] fF,AObj.cells [.ptr (H.length+1) 0] kn,AObj.cells [.slice .nil 3 []] aj,AObj.cells [.fn (.func fe) [] [.ptr (H.length+2) 0]] Cu]:=⟨_,rfl⟩
 have hgl:G.length=H.length+5:=by rw [hG];simp
 have w0:SdV (fun i=>i<H.length∨i=H.length+2∨i=H.length+3∨i=H.length+4) H G [] (.slice .nil 3 []) []:=by
  refine ⟨fun i hi=>.inl hi,.inr (.inl rfl),.inr (.inr (.inl rfl)),.inr (.inr (.inr rfl)), ?_,by rw [hG,hp_getk];rfl,by rw [hG,hp_getk];rfl,by rw [hG,hp_getk];rfl,.inl ⟨rfl,rfl⟩,fun i hi=>by rw [hG,List.getElem?_append_left hi]⟩;exact ⟨H.length,G.length,[],.slice .nil 3 [],.nil,.slice .nil 1 [],⟨by omega,by omega,fun i hi=>by omega,by rw [hG,hp_getk];rfl,by rw [hG,aF];rfl,rfl,fun i w l h=>by simp at h,.inl ⟨rfl,rfl⟩,fun Q o n e r eq=>(by cases eq),fun Q o n e r eq=>(by cases eq),Nat.le_refl _,.inl ⟨rfl,rfl⟩,fun Q o n e r eq=>(by cases eq),.inr (.inr (.inl rfl))⟩⟩
 obtain ⟨H1,R',ts',tv',o',i1,i2,i3,i4,i5,m',i6,i7⟩:=dsp M hB hS hX hC hW (Hc:=H) (tg:=tg) hl hs l.length 0 0 _ G [] _ [] [] false (by omega) w0 ⟨Nat.le_refl _,fun x hx=>(by cases hx)⟩ (by simpa using hl) (fun p hp=>by cases hp) (by rw [List.drop_zero,show wtP []=0 from rfl];omega);obtain ⟨H2,f1,f2,f3⟩:=zX M hC hW i2 i4 i5 i6 (by omega) false;rw [List.drop_zero] at i3;rw [← i3] at f2 f3;simp only [kv_cons,kv_nil,Int.ofNat_zero] at i1
 have c2:=f2.c2;obtain ⟨P,q,vs,v,ta,ov,hw⟩:=f2.cv;have hvs:vs=[]:=List.length_eq_zero_iff.1 hw.len;subst hvs;have hce:=hw.cell;have hpa:=hw.par;dsimp only [List.length_nil,List.nil_append] at hce hpa
 have hk:H2.take H.length=H:=by
  have:=f2.rl;have h4:=this _ f2.k4;refine List.ext_getElem? fun i => ?_
  by_cases hi:i<H.length
  ·rw [List.getElem?_take_of_lt hi,f2.low i hi]
  ·rw [List.getElem?_eq_none (by simp;omega),List.getElem?_eq_none (by omega)]
 have hcut:cY H H2:=⟨by have:=f2.rl _ f2.k4;omega,fun i x hi hx=>.inl (by rw [← hk,List.getElem?_take_of_lt hi];exact hx)⟩
 have hh:=Fm hcut ⟨4,Oc hw.cr fun Q o n e r eq hR=>hw.pr Q o n e r eq (f2.lo Q hR)⟩;rw [hk] at hh;have l1:∀ v:AV,bt none [v] 0=some v:=fun _=>rfl
 have hia:sj 1 (.rslice P 0 1 1 true) (.int .i64 0)=some (.ptr P 0):=GM (id:=P) (n:=1) (i:=0) (by omega) .i64;rw [aP M hW.docs_spaced rfl (c:=pq) rfl,pq];simp (maxSteps:=3000000) (maxDischargeDepth:=6) +contextual -implicitDefEqProofs only [amC M,↓amD,Nat.reduceBEq,Nat.reduceAdd,env,ao,fG,amG,AV.cell,Nat.reduceMul,Nat.reduceLeDiff,rnc,cl5,l1,aF,hp_set0,hp_getk,hp_setk,aT,List.getElem?_cons_zero,List.getElem?_cons_succ,List.set_cons_zero,List.set_cons_succ,List.append_assoc,List.cons_append,List.nil_append,← hG,i1,f1,c2,hce,hpa,hia,hh]
end
section
attribute [local congr] aq aO aI au aH aC aw ak al aD aE
variable{E:aN}(M:a8 bn E)
def jw(l:List Str):List ah:=spD l [] [] [] false
def Ey(l:List Str):AV:=sel (sX l == 0) (sel (decide ((512:Int)<((jw l).length:Int))) (.tuple [.slice .any 3 [],.int .u8 3]) (.tuple [.slice .any 3 ((jw l).map ah.row),.int .u8 0])) (.tuple [.slice .any 3 [],.int .u8 (sX l)])
theorem qX{l:List Str}(h:sX l=0):l.length≤512∧∀ w∈l,gy w=true:=by
 unfold sX at h;cases h5:decide ((512:Int)<(l.length:Int)) with
 |true=>rw [h5,sel_true] at h;cases h
 |false=>
  rw [h5,sel_false] at h;refine ⟨by have:=of_decide_eq_false h5;omega, ?_⟩;cases ha:l.all gy with
  |true=>exact List.all_eq_true.1 ha
  |false=>rw [ha,sel_false] at h;cases h
theorem Ez{w:Str}(h:gy w=true):w≠[]:=fun e=>by subst e;cases h
theorem GU{l:List Str}(h:sX l=0):spR l [] [] false=jw l:=
 (CQ l [] [] [] (fun w hw _=>Ez ((qX h).2 w hw)) rfl).symm
theorem CR:∀ {l:List Str}{w:Str},w∈l→w.length+8≤wtS l
 |x::l,w,h=>by
  rw [sY];rcases List.mem_cons.1 h with rfl | h
  ·omega
  ·have:=CR h;omega
theorem sZ(hB:lG E)(hS:mU E)(hX:tK M)(hD:wk M)(hU:qV E)(hC:wu E)(hW:WsE E){l:List Str}{tg:Tag}(hs:l.length≤512→wtS l≤10000000∧∀ w∈l,w.length≤1000000)(hk:∀ n,Wk n (.slice tg 1 (l.map bh)) (.slice tg 1 (l.map bh)))(H:List AObj) :
  M.run gb [.slice tg 1 (l.map bh)] H=some (.ret (Ey l),H):=by
 have hc:=fun H=>rn M hB hS hX hD hU hW (l:=l) (tg:=tg) (fun h=>(hs h).2) hk H
 unfold Ey;cases h0:sX l == 0 with
 |false=>
  rw [sel_false];rw [aP M hW.docs_FromWords rfl (c:=dF) rfl,dF];simp (maxSteps:=3000000) (maxDischargeDepth:=6) +contextual -implicitDefEqProofs only [amC M,↓amD,Nat.reduceBEq,Nat.reduceAdd,env,ao,lY,amG,AV.cell,Nat.reduceMul,Nat.reduceLeDiff,hc,h0,hp_self,cut_refl,wk_tuple,qz]
 |true=>
  have e0:=eq_of_beq h0;have hl:=(qX e0).1;obtain ⟨hwt,hws⟩:=hs hl;rw [e0] at hc;rw [sel_true];have hsp:=fun H=>Ex M hB hS hX hC hW (l:=l) (tg:=tg) (by omega) hws (by omega) H
  rw [show spD l [] [] [] false=jw l from rfl] at hsp;cases h5:decide ((512:Int)<((jw l).length:Int)) with
  |true=>
   rw [sel_true];rw [aP M hW.docs_FromWords rfl (c:=dF) rfl,dF];simp (maxSteps:=3000000) (maxDischargeDepth:=6) +contextual -implicitDefEqProofs only [amC M,↓amD,Nat.reduceBEq,Nat.reduceAdd,env,ao,lY,amG,AV.cell,Nat.reduceMul,Nat.reduceLeDiff,hc,(show ((0:Int) == 0)=true from rfl),hsp,List.length_map,h5,hp_self,cut_refl,wk_tuple,qz]
  |false=>
   have hh:=handV_drop (cut_refl H) (wk_tuple (n:=H.length) (xs:=[.slice (LY (jw l)) 3 ((jw l).map ah.row),.int .u8 0]) ⟨wk_any (esz:=3) (JP H.length (jw l)),wk_int _ _ 0,trivial⟩);simp only [anyV_tuple,List.map_cons,List.map_nil,anyS_slice,anyS_int,hp_self] at hh;rw [sel_false];rw [aP M hW.docs_FromWords rfl (c:=dF) rfl,dF];simp (maxSteps:=3000000) (maxDischargeDepth:=6) +contextual -implicitDefEqProofs only [amC M,↓amD,Nat.reduceBEq,Nat.reduceAdd,env,ao,lY,amG,AV.cell,Nat.reduceMul,Nat.reduceLeDiff,hc,(show ((0:Int) == 0)=true from rfl),hsp,List.length_map,h5,hh]
theorem zY:∀ l:List ah,(bK l).length≤2*uC l+l.length
 |[]=>by simp [bK]
 |x::l=>by
  show (wdP x++bK l).length≤_;have h1:=LW x;have h2:=zY l;rw [List.length_append,uC,List.map_cons,List.sum_cons,List.length_cons];unfold uC at h2;omega
theorem CS:∀ (n:Nat) (l:List Str),l.length≤n→wyN n l+8*l.length=wtS l
 |0,l,h=>by
  obtain rfl:l=[]:=List.length_eq_zero_iff.1 (by omega);rfl
 |n+1,[],h=>rfl
 |n+1,w::l,h=>by
  have:=CS n l (by simp at h;omega);rw [wyN,sY,List.length_cons];omega
theorem EA{l:List Str}(h:zV l=false):l.length≤3000∧(l.length≤512→wtS l≤10000000∧∀ w∈l,w.length≤1000000):=by
 have h1:=of_decide_eq_false h;refine ⟨by omega,fun h2 => ?_⟩;have:=CS 700 l (by omega);exact ⟨by omega,fun w hw=>by have:=CR hw;omega⟩
end
section
attribute [local congr] aq aO aI au aH aC aw ak al aD aE
variable{E:aN}(M:a8 bn E)
structure uD (t:Nat) (R:Nat→Prop) (H:List AObj) (S:CSt) (q:Nat) (vs:List AV) (v ov:AV):Prop where
 rl:∀ i,R i→i<H.length
 tr:¬ R t
 tok:H[t]?=some (.tok (vs.length*1) aj)
 len:vs.length=S.done.length
 dn:∀ (i:Nat) (w:AV) (l:List ah),vs[i]?=some w→S.done[i]?=some l→PcV H w l∧below q w∧free R w
 cr:PcV H v S.cur
 ab:GL q v
 pr:free R v
 ql:q≤H.length
 op:OpV H ov S.opn
 oa:free R ov
structure zZ (R:Nat→Prop) (H H':List AObj):Prop where
 len:H.length≤H'.length
 low:∀ i,R i→H'[i]?=H[i]?
theorem zZ.refl(R:Nat→Prop)(H:List AObj):zZ R H H:=⟨Nat.le_refl _,fun _ _=>rfl⟩
theorem zZ.trans{R:Nat→Prop}{A B C:List AObj}(h:zZ R A B)(k:zZ R B C):zZ R A C:=⟨Nat.le_trans h.len k.len,fun i hi=>(k.low i hi).trans (h.low i hi)⟩
theorem uD.turned{t:Nat}{R:Nat→Prop}{H H2:List AObj}{S:CSt}{q:Nat}{vs:List AV}{v w ov:AV}(h:uD t R H S q vs v ov){cur:List ah}(hlen:H.length≤H2.length)(hs:∀ (i:Nat) (y:AObj),H[i]?=some y→(∀ Q,v = .rslice Q 0 S.cur.length 3 true→i≠Q)→H2[i]?=some y)
  (hw:PcV H2 w cur) (hwa:GL q w) (hwf:free R w):uD t R H2 { S with cur:=cur } q vs w ov∧zZ R H H2:=by
 have nq:∀ (i:Nat) (y:AObj),H[i]?=some y→(∀ cs,y≠.cells cs ae)→∀ Q,v = .rslice Q 0 S.cur.length 3 true→i≠Q:=fun i y hi hy Q e ei=>by
  obtain ⟨ds,hd⟩:=Em h.cr e;subst ei;rw [hi] at hd;cases hd;exact hy ds rfl
 refine ⟨⟨fun i hi=>Nat.lt_of_lt_of_le (h.rl i hi) hlen,h.tr,hs t _ h.tok (nq t _ h.tok fun cs e=>by cases e),h.len,fun i w' l hi hl => ?_,hw,hwa,hwf,Nat.le_trans h.ql hlen,h.op.stay fun O cs hO=>hs O _ hO (nq O _ hO fun ds e=>by injection e with _ e;exact El e),h.oa⟩,⟨hlen,fun i hi => ?_⟩⟩
 ·obtain ⟨h1,h2,h3⟩:=h.dn i w' l hi hl
  refine ⟨h1.stay fun Q cs e hQ=>hs Q _ hQ fun Q' e' ei => ?_,h2,h3⟩;have a1:=h2 Q _ _ _ _ e;have a2:=h.ab Q' _ _ _ _ e';omega
 ·have hin:=h.rl i hi
  rw [List.getElem?_eq_getElem hin];exact hs i _ (List.getElem?_eq_getElem hin) fun Q e ei=>h.pr Q _ _ _ _ e (ei ▸ hi)
theorem uD.more{t:Nat}{R:Nat→Prop}{H:List AObj}{S:CSt}{q:Nat}{vs:List AV}{v ov:AV}(h:uD t R H S q vs v ov)(hl:S.cur.length≤100000000)(p:ah) :
  ∃ w G,rap true H ae 3 32 false v (.slice .full 3 [p.row])=some (w,G)∧uD t R G { S with cur:=S.cur++[p] } q vs w ov∧zZ R H G:=by
 obtain ⟨G,a1,a2,a3,a4⟩:=J2 h.cr hl p
 obtain ⟨b1,b2⟩:=h.turned (H2:=G) (cur:=S.cur++[p]) (w:=.rslice H.length 0 (S.cur.length+1) 3 true) (by omega) (fun i y hi hne=>by
  rw [a4 i (List.getElem?_eq_some_iff.1 hi).1 hne];exact hi) (.inr ⟨by simp,H.length,by simp,a2⟩) (fun Q o n e r eq=>by cases eq;exact h.ql) (fun Q o n e r eq hR=>by cases eq;have:=h.rl _ hR;omega)
 exact ⟨_,G,a1,b1,b2⟩
theorem Ic{H:List AObj}{v:AV}{l:List ah}(h:PcV H v l):v.strip=v:=by
 rcases h with ⟨rfl,rfl⟩ | ⟨_,Q,rfl,_⟩<;>rfl
theorem uD.push{t:Nat}{R:Nat→Prop}{H:List AObj}{S:CSt}{q:Nat}{vs:List AV}{v ov:AV}(h:uD t R H S q vs v ov)(hd:S.done.length≤100000000) :
  rap false H aj 1 24 false (.slice (.own t) 1 (vs.map GF)) (.slice .full 1 [[v]])=some (.slice (.own t) 1 ((vs++[v]).map GF),H.set t (.tok ((vs++[v]).length*1) aj)) ∧
   uD t R (H.set t (.tok ((vs++[v]).length*1) aj)) { S with done:=S.done++[S.cur],cur:=[] } H.length (vs++[v]) (.slice .nil 3 []) ov∧zZ R H (H.set t (.tok ((vs++[v]).length*1) aj)):=by
 have htl:=(List.getElem?_eq_some_iff.1 h.tok).1
 have hs:∀ {i:Nat}{cs:List AV}{T:TypeId},H[i]?=some (.cells cs T)→(H.set t (.tok ((vs++[v]).length*1) aj))[i]?=some (.cells cs T):=fun {i cs T} hi=>by
  rw [List.getElem?_set_ne (fun e=>by subst e;have:=h.tok;rw [hi] at this;cases this)];exact hi
 have hvs:=h.len;refine ⟨GG (row:=GF) (l:=vs) (x:=v) (r:=[v]) (sz:=1) (bytes:=24) h.tok rfl (by simp [(J1 h.cr).1]) (by simp [Ic h.cr,GF]) (by omega) (by omega),⟨fun i hi=>by simpa using h.rl i hi,h.tr,List.getElem?_set_self htl,by simp [hvs],fun i w l hi hl => ?_,.inl ⟨rfl,rfl⟩,fun Q o n e r eq=>(by cases eq),fun Q o n e r eq=>(by cases eq),by simp,h.op.stay fun O cs hO=>hs hO,h.oa⟩,⟨by simp,fun i hi=>List.getElem?_set_ne (fun e:t=i=>h.tr (by rw [e];exact hi))⟩⟩
 by_cases hlt:i<vs.length
 ·rw [List.getElem?_append_left hlt] at hi
  rw [List.getElem?_append_left (by omega)] at hl;obtain ⟨d1,d2,d3⟩:=h.dn i w l hi hl;exact ⟨d1.stay fun Q cs _ hQ=>hs hQ,fun Q o n e r eq=>Nat.lt_of_lt_of_le (d2 Q o n e r eq) h.ql,d3⟩
 ·have hi2:i=vs.length:=by
   have:=(List.getElem?_eq_some_iff.1 hi).1;simp at this;omega
  subst hi2;rw [List.getElem?_append_right (Nat.le_refl _),Nat.sub_self,List.getElem?_cons_zero] at hi;rw [List.getElem?_append_right (by omega),show vs.length-S.done.length=0 by omega,List.getElem?_cons_zero] at hl;cases hi;cases hl;refine ⟨h.cr.stay fun Q cs _ hQ=>hs hQ,fun Q o n e r eq => ?_,h.pr⟩;rcases h.cr with ⟨_,hv⟩ | ⟨_,Q',hv,hQ⟩
  ·rw [hv] at eq;cases eq
  ·rw [hv] at eq;cases eq;exact bp hQ
end
section
attribute [local congr] aq aO aI au aH aC aw ak al aD aE
variable{E:aN}(M:a8 bn E)
theorem uD.add(hC:wu E){t:Nat}{R:Nat→Prop}{H:List AObj}{S:CSt}{q:Nat}{vs:List AV}{v ov:AV}(h:uD t R H S q vs v ov)(hl:S.cur.length≤100000000)(ht:∀ x∈S.cur,x.text.length≤100000000){p:ah}(hp:p.text.length≤100000000) :
  ∃ w G,M.run b3 [v,.agg p.row] H=some (.ret w,G)∧uD t R G { S with cur:=dI S.cur p } q vs w ov∧zZ R H G:=by
 obtain ⟨w,G,a1,a2,a3,a4,a5,a6⟩:=GS M hC h.cr hl ht hp
 have:=h.turned (H2:=G) (cur:=dI S.cur p) (w:=w) a5 a6 a2 (fun Q o n e r eq=>by
  rcases a4 Q o n e r eq with e1 | e1
  ·exact h.ab Q o n e r (e1 ▸ eq)
  ·have:=h.ql;omega) (fun Q o n e r eq hR=>by
  rcases a4 Q o n e r eq with e1 | e1
  ·exact h.pr Q o n e r (e1 ▸ eq) hR
  ·have:=h.rl _ hR;omega)
 exact ⟨w,G,a1,this.1,this.2⟩
theorem uD.open{t:Nat}{R:Nat→Prop}{H:List AObj}{S:CSt}{q:Nat}{vs:List AV}{v ov:AV}(h:uD t R H S q vs v ov)(hl:S.opn.length≤100000)(s:Str) :
  ∃ w G,rap true H aG 1 16 false ov (.slice .full 1 [[.str s]])=some (w,G)∧uD t R G { S with opn:=S.opn++[s] } q vs v w∧zZ R H G:=by
 obtain ⟨w,G,a1,a2,a3,a4,a5,a6,a7⟩:=Oa h.op h.oa h.rl (by omega) s
 have tk:G[t]?=some (.tok (vs.length*1) aj):=by
  have htok:=h.tok
  have:∀ O,ov≠.rslice O 0 S.opn.length 1 true∨t≠O:=fun O=>by
   rcases h.op with ⟨_,e⟩ | ⟨O',junk,e,hO⟩
   ·left;rw [e];intro h;cases h
   ·by_cases ht:t=O
    ·left;rw [e];intro h2;cases h2;rw [ht,hO] at htok;cases htok
    ·exact .inr ht
  rcases h.op with ⟨e0,e⟩ | ⟨O',junk,e,hO⟩
  ·rw [e] at a1
   simp only [rap,n8,tl,or_true,if_true,ma] at a1;rw [if_pos (by simp)] at a1;cases a1;exact br htok
  ·rw [e] at a1
   have hlen:S.opn.length*1≤(tL S.opn++junk).length:=by rw [List.length_append,qb];omega
   simp only [rap,n8,tl,or_true,if_true,ma,hO] at a1;rw [if_pos ⟨trivial,trivial,hlen,by simp;omega,by simp;omega⟩] at a1;cases a1;have htl:=(List.getElem?_eq_some_iff.1 htok).1;rw [List.getElem?_append_left (by simp;omega),List.getElem?_set_ne (fun e=>by subst e;rw [hO] at htok;cases htok)];exact htok
 exact ⟨w,G,a1,⟨fun i hi=>by have:=h.rl i hi;have:=a6.len;omega,h.tr,tk,h.len,fun i w' l hi hl=>⟨(h.dn i w' l hi hl).1.stay fun Q cs _ hQ=>a7 Q _ _ hQ El.symm,(h.dn i w' l hi hl).2⟩,h.cr.stay fun Q cs _ hQ=>a7 Q _ _ hQ El.symm,h.ab,h.pr,by have:=h.ql;have:=a6.len;omega,a2,a3⟩,⟨a6.len,a6.low⟩⟩
end
section
attribute [local congr] aq aO aI au aH aC aw ak al aD aE
variable{E:aN}(M:a8 bn E)
end
section
attribute [local congr] aq aO aI au aH aC aw ak al aD aE
variable{E:aN}(M:a8 bn E)
end
section
attribute [local congr] aq aO aI au aH aC aw ak al aD aE
variable{E:aN}(M:a8 bn E)
def OC(pos:List Int)(T:CSt):Bool:=decide (T.done.length<pos.length)&&((T.place:Int) == pos.getD T.done.length 0)
structure RelC (pos:List Int) (S T:CSt):Prop where
 done:S.done=T.done
 cur:S.cur=T.cur
 opn:S.opn=T.opn
 place:S.place=T.place
 due:S.due=OC pos T
 pos:S.pos=pos.drop (T.done.length+(if S.due=true then 1 else 0))
end
section
attribute [local congr] aq aO aI au aH aC aw ak al aD aE
variable{E:aN}(M:a8 bn E)
theorem OpV.own{H H':List AObj}{v:AV}{l:List Str}(h:OpV H v l)(hs:∀ (O:Nat) (y:AObj),v = .rslice O 0 l.length 1 true→H[O]?=some y→H'[O]?=some y):OpV H' v l:=by
 rcases h with h | ⟨O,junk,h1,h2⟩
 ·exact .inl h
 ·exact .inr ⟨O,junk,h1,hs O _ h1 h2⟩
end
section
attribute [local congr] aq aO aI au aH aC aw ak al aD aE
variable{E:aN}(M:a8 bn E)
end
section
attribute [local congr] aq aO aI au aH aC aw ak al aD aE
variable{E:aN}(M:a8 bn E)
def Ie(m:Nat)(cur:List ah):Prop:=cur.length≤m∧∀ x∈cur,x.text.length≤m
theorem Ie.put{m:Nat}{cur:List ah}(h:Ie m cur)(p:ah):Ie (m+(p.text.length+1)) (dI cur p):=
 ⟨by have:=Ep cur p;have:=h.1;omega,fun x hx=>by have:=Er h.2 (Nat.le_refl p.text.length) x hx;omega⟩
theorem Ie.mono{m n:Nat}{cur:List ah}(h:Ie m cur)(hn:m≤n):Ie n cur:=⟨Nat.le_trans h.1 hn,fun x hx=>Nat.le_trans (h.2 x hx) hn⟩
end
section
attribute [local congr] aq aO aI au aH aC aw ak al aD aE
variable{E:aN}(M:a8 bn E)
end
section
attribute [local congr] aq aO aI au aH aC aw ak al aD aE
variable{E:aN}(M:a8 bn E)
end
section
attribute [local congr] aq aO aI au aH aC aw ak al aD aE
variable{E:aN}(M:a8 bn E)
end
section
attribute [local congr] aq aO aI au aH aC aw ak al aD aE
variable{E:aN}(M:a8 bn E)
end
theorem J9{s:Str}(hne:s≠[])(hv:¬ ((aW s).1=65533∧(aW s).2=1))(t:Str):aW (s.take (aW s).2++t)=aW s:=by
 have hl:0<s.length:=List.length_pos_iff.2 hne;unfold aW at *
 rw [Lib.decodeL_N s] at *
 rcases Lib.decodeN_shape s.length (s.getD 0 0).toNat (s.getD 1 0).toNat (s.getD 2 0).toNat (s.getD 3 0).toNat with ⟨c,e⟩ | ⟨c1,c2,c3,cv,e⟩ | ⟨c1,c2,c3,c4,cv,cs,e⟩ | ⟨c1,c2,c3,c4,c5,cv,cw,e⟩ | e
 ·rw [e,Lib.takeA s hl,Lib.decodeL_N]
  generalize s.getD 0 0=a at *
  simp only [List.cons_append,List.nil_append,List.getD_cons_zero,List.length_cons];unfold Lib.decodeN;rw [if_pos c]
 ·rw [e,Lib.takeB s c2,Lib.decodeL_N]
  generalize s.getD 0 0=a at *
  generalize s.getD 1 0=b at *
  simp only [List.cons_append,List.nil_append,List.getD_cons_zero,List.getD_cons_succ,List.length_cons];unfold Lib.decodeN;rw [if_neg (by omega),if_pos (by omega),if_pos (by omega)]
 ·rw [e,Lib.takeC s c2,Lib.decodeL_N]
  generalize s.getD 0 0=a at *
  generalize s.getD 1 0=b at *
  generalize s.getD 2 0=d at *
  simp only [List.cons_append,List.nil_append,List.getD_cons_zero,List.getD_cons_succ,List.length_cons];have:=a.toNat_lt;have:=b.toNat_lt;have:=d.toNat_lt;unfold Lib.decodeN;rw [if_neg (by omega),if_neg (by omega),if_pos (by omega),if_pos (by omega)]
 ·rw [e,Lib.takeD s c2,Lib.decodeL_N]
  generalize s.getD 0 0=a at *
  generalize s.getD 1 0=b at *
  generalize s.getD 2 0=d at *
  generalize s.getD 3 0=f at *
  simp only [List.cons_append,List.nil_append,List.getD_cons_zero,List.getD_cons_succ,List.length_cons];unfold Lib.decodeN;rw [if_neg (by omega),if_neg (by omega),if_neg (by omega),if_pos (by omega),if_pos (by omega)]
 ·rw [e] at hv
  exact absurd ⟨rfl,rfl⟩ hv
def mX(r:Nat):Prop:=lH r≠[]∧HO r (lH r).length=false∧∀ t,aW (lH r++t)=(r,(lH r).length)
theorem FQ{s:Str}(hne:s≠[])(h:kG s=true):mX (aW s).1∧lH (aW s).1=s.take (aW s).2∧kG (s.drop (aW s).2)=true:=by
 rw [zE hne,Bool.and_eq_true,Bool.not_eq_true'] at h
 have hv:¬ ((aW s).1=65533∧(aW s).2=1):=fun e=>by
  have h1:=h.1;rw [e.1,e.2] at h1;cases h1
 have e1:lH (aW s).1=s.take (aW s).2:=Gu hne hv;have hl:=tf hne;have hw:=l6 s;have e2:(s.take (aW s).2).length=(aW s).2:=by rw [List.length_take];omega
 refine ⟨⟨?_, ?_,fun t => ?_⟩,e1,h.2⟩
 ·intro e
  rw [e1] at e;rw [e] at e2;simp at e2;omega
 ·rw [e1,e2];exact h.1
 ·rw [e1,J9 hne hv,e2]
theorem s4:∀ (n:Nat) (s:Str),s.length≤n→kG s=true→∀ r∈aS s,mX r
 |0,s,h,_,r,hr=>by
  obtain rfl:s=[]:=List.eq_nil_of_length_eq_zero (by omega);cases hr
 |n+1,s,h,ht,r,hr=>by
  by_cases hs:s=[]
  ·subst hs;cases hr
  ·obtain ⟨g1,_,g3⟩:=FQ hs ht
   rw [mT hs] at hr;rcases List.mem_cons.1 hr with rfl | hr
   ·exact g1
   ·have hw:=l6 s
    exact s4 n _ (by rw [List.length_drop];omega) g3 r hr
theorem oH:∀ (rs:List Nat),(∀ r∈rs,mX r)→aS (gr rs)=rs∧kG (gr rs)=true
 |[],_=>⟨rfl,rfl⟩
 |r::rs,h=>by
  obtain ⟨g1,g2,g3⟩:=h r (by simp);obtain ⟨i1,i2⟩:=oH rs fun x hx=>h x (by simp [hx])
  have e:gr (r::rs)=lH r++gr rs:=rfl;have hne:gr (r::rs)≠[]:=by rw [e];simp [g1]
  rw [mT hne,zE hne,e,g3,List.drop_left' rfl,i1,i2,g2];exact ⟨rfl,rfl⟩
theorem oI(a b:List Nat):gr (a++b)=gr a++gr b:=by simp [gr]
theorem GV{rs:List Nat}(h:∀ r∈rs,mX r)(h0:rs≠[]):gr rs≠[]:=by
 cases rs with
 |nil=>exact absurd rfl h0
 |cons r rs=>
  show lH r++gr rs≠[];simp [(h r (by simp)).1]
def txP(rs:List Nat):ah:=⟨1,gr rs,false⟩
def Tx(x:ah):Prop:=(x.kind == 1)=false∨∃ rs,rs≠[]∧(∀ r∈rs,mX r)∧x=txP rs
def Sg(x:ah):Prop:=(x.kind == 1)=false∨∃ r,mX r∧x=txP [r]
theorem Sg.tx{x:ah}(h:Sg x):Tx x:=by
 rcases h with h | ⟨r,h1,h2⟩
 ·exact .inl h
 ·exact .inr ⟨[r],by simp,fun y hy=>by simp at hy;subst hy;exact h1,h2⟩
def wy(s:List ah):List ah:=s.foldl dI []
theorem BD(s:List ah)(x:ah):wy (s++[x])=dI (wy s) x:=by unfold wy;rw [List.foldl_append];rfl
theorem Ka(l:List ah)(a b:List Nat):dI (l++[txP a]) (txP b)=l++[txP (a++b)]:=by
 rw [fj];show sel true _ _=_;rw [sel_true,txP,txP,txP,oI]
theorem L0{l:List ah}{x p:ah}(h:(x.kind == 1)=false):dI (l++[x]) p=l++[x]++[p]:=by
 rw [fj,h,Bool.and_false,sel_false]
theorem qY{α:Type}(l:List α):l=[]∨∃ m x,l=m++[x]:=by
 rcases List.eq_nil_or_concat l with h | ⟨m,x,h⟩
 ·exact .inl h
 ·exact .inr ⟨m,x,by simpa using h⟩
theorem EB{α:Type}{P:List α→Prop}(h0:P [])(h1:∀ l x,P l→P (l++[x]))(l:List α):P l:=by
 have key:∀ n (l:List α),l.length=n→P l:=by
  intro n;induction n with
  |zero=>intro l hl;rw [List.eq_nil_of_length_eq_zero hl];exact h0
  |succ n ih=>
   intro l hl;rcases qY l with rfl | ⟨m,x,rfl⟩
   ·exact h0
   ·exact h1 m x (ih m (by simpa using hl))
 exact key _ l rfl
theorem BE{l:List ah}(hl:∀ y∈l,Tx y){x:ah}(hx:Tx x):dI l x=l++[x]∨∃ m a b,l=m++[txP a]∧x=txP b∧dI l x=m++[txP (a++b)]:=by
 rcases hx with hx | ⟨b,b0,b1,rfl⟩
 ·exact .inl (LU hx)
 ·rcases qY l with rfl | ⟨m,y,rfl⟩
  ·exact .inl rfl
  ·rcases hl y (by simp) with hy | ⟨a,a0,a1,rfl⟩
   ·exact .inl (L0 hy)
   ·exact .inr ⟨m,a,b,rfl,rfl,Ka _ _ _⟩
theorem Nn{l:List ah}(hl:∀ y∈l,Tx y){x:ah}(hx:Tx x):∀ y∈dI l x,Tx y:=fun y hy=>by
 rcases BE hl hx with h | ⟨m,a,b,rfl,rfl,h⟩
 ·rw [h] at hy
  rcases List.mem_append.1 hy with hy | hy
  ·exact hl y hy
  ·simp at hy;subst hy;exact hx
 ·rw [h] at hy
  rcases List.mem_append.1 hy with hy | hy
  ·exact hl y (by simp [hy])
  ·simp at hy;subst hy
   have h1:=hl (txP a) (by simp);rcases h1 with h1 | ⟨a',n1,g1,e1⟩
   ·cases h1
   rcases hx with h2 | ⟨b',n2,g2,e2⟩
   ·cases h2
   refine .inr ⟨a'++b',by simp [n1],fun r hr => ?_, ?_⟩
   ·rcases List.mem_append.1 hr with hr | hr
    ·exact g1 r hr
    ·exact g2 r hr
   ·unfold txP at *
    injection e1 with _ e1 _;injection e2 with _ e2 _;rw [oI,oI,e1,e2]
theorem EC:∀ (s:List ah) {c:List ah},(∀ y∈c,Tx y)→(∀ y∈s,Tx y)→∀ y∈s.foldl dI c,Tx y
 |[],_,hc,_=>hc
 |x::s,_,hc,hs=>EC s (Nn hc (hs x (by simp))) fun y hy=>hs y (by simp [hy])
theorem CT{s:List ah}(h:∀ y∈s,Tx y):∀ y∈wy s,Tx y:=EC s (fun y hy=>(by cases hy)) h
def NA:Bool→List ah→Prop
 |_,[]=>True
 |p,x::l=>(p&&(x.kind == 1))=false∧NA (x.kind == 1) l
theorem FR{a b:List ah}:∀ {p:Bool},NA p (a++b)↔NA p a∧NA (a.foldl (fun _ x=>x.kind == 1) p) b:=by
 induction a with
 |nil=>intro p;simp [NA]
 |cons x a ih=>intro p;simp only [List.cons_append,NA,List.foldl_cons,ih,and_assoc]
def ED(x:ah):Bool := !(x.kind == 1)||(!(x.text == [])&&kG x.text)
def nxt(st:List Str)(x:ah):List Str:=if x.kind == 2 then x.text::st else if x.kind == 3 then st.tail else st
def okW(b e:Bool)(st:List Str)(x:ah):Bool:=
 !rU x&&(!wq x&&(ED x&&(!xK x&&(iI b e x&&(!((x.kind == 3) && !uz st x.text) && !((x.kind == 2)&&decide ((16:Int)<((x.text::st).length:Int))))))))
def Wok:List ah→Bool→Bool→List Str→Prop
 |[],_,_,_=>True
 |x::l,b,e,st=>okW b e st x=true∧Wok l (b || !bB x) (e||aV x) (nxt st x)
def bF(b:Bool)(l:List ah):Bool:=b||l.any fun x => !bB x
def eF(e:Bool)(l:List ah):Bool:=e||l.any aV
def sF(st:List Str)(l:List ah):List Str:=l.foldl nxt st
theorem L2(b:Bool)(x:ah)(l:List ah):bF b (x::l)=bF (b || !bB x) l:=by simp [bF,Bool.or_assoc]
theorem L3(b:Bool)(x:ah)(l:List ah):eF b (x::l)=eF (b||aV x) l:=by simp [eF,Bool.or_assoc]
theorem z6(b:Bool)(l m:List ah):bF b (l++m)=bF (bF b l) m:=by simp [bF,Bool.or_assoc]
theorem z8(b:Bool)(l m:List ah):eF b (l++m)=eF (eF b l) m:=by simp [eF,Bool.or_assoc]
theorem Aa(st:List Str)(l m:List ah):sF st (l++m)=sF (sF st l) m:=List.foldl_append ..
theorem vq:∀ {a c:List ah}{b e:Bool}{st:List Str},Wok (a++c) b e st↔Wok a b e st∧Wok c (bF b a) (eF e a) (sF st a)
 |[],c,b,e,st=>by simp [Wok,bF,eF,sF]
 |x::a,c,b,e,st=>by
  rw [List.cons_append,Wok,Wok,vq,L2,L3,and_assoc];rfl
theorem k12{x:ah}(h:(x.kind == 1)=true):(x.kind == 2)=false∧(x.kind == 3)=false∧(x.kind == 5)=false:=by
 rw [eq_of_beq h];exact ⟨rfl,rfl,rfl⟩
theorem k23{x:ah}(h:(x.kind == 2)=true):(x.kind == 1)=false∧(x.kind == 3)=false∧(x.kind == 5)=false:=by
 rw [eq_of_beq h];exact ⟨rfl,rfl,rfl⟩
theorem GW(x:ah)(st:List Str):(if x.kind == 2 then x.text::stP x st else stP x st)=nxt st x:=by
 unfold stP nxt;cases c2:x.kind == 2 with
 |true=>simp [(k23 c2).2.1]
 |false=>simp only [Bool.false_eq_true,if_false]
theorem Kb{p:Bool}{x:ah}:CG p x=false↔ED x=true∧(p&&(x.kind == 1))=false:=by
 unfold CG ED;cases x.kind == 1<;>cases x.text == []<;>cases kG x.text<;>cases p<;>simp
theorem EE:∀ (l:List ah) (p b e:Bool) (st:List Str),vl l p b e st=0↔NA p l∧Wok l b e st∧sF st l=[]
 |[],p,b,e,st=>by
  unfold vl NA Wok sF;cases st<;>simp [sel]<;>omega
 |x::l,p,b,e,st=>by
  have ih:=EE l (x.kind == 1) (b || !bB x) (e||aV x) (nxt st x);rw [vl,NA,Wok,show sF st (x::l)=sF (nxt st x) l from rfl];unfold okW;cases c1:rU x with
  |true=>simp [sel]
  |false=>
  cases c2:wq x with
  |true=>simp [sel]
  |false=>
  cases c3:CG p x with
  |true=>
   have h3:¬ (ED x=true∧(p&&(x.kind == 1))=false):=fun h=>by rw [Kb.2 h] at c3;cases c3
   simp only [sel];constructor
   ·intro h;cases h
   ·rintro ⟨⟨h1,_⟩,⟨h2,_⟩,_⟩
    simp only [Bool.and_eq_true] at h2;exact absurd ⟨h2.2.2.1,h1⟩ h3
  |false=>
  obtain ⟨t1,t2⟩:=Kb.1 c3;rw [t1,t2];cases c4:xK x with
  |true=>simp [sel]
  |false=>
  cases c5:iI b e x with
  |false=>simp [sel]
  |true=>
  cases c6:(x.kind == 3) && !uz st x.text with
  |true=>simp [sel]
  |false=>
  cases c7:x.kind == 2 with
  |false=>
   have hs:stP x st=nxt st x:=by have:=GW x st;rwa [c7,if_neg (by simp)] at this
   rw [hs];simp only [sel,Bool.not_false,Bool.true_and,Bool.false_and,true_and];exact ih
  |true=>
   have hs:x.text::stP x st=nxt st x:=by have:=GW x st;rwa [c7,if_pos rfl] at this
   have hp:stP x st=st:=by unfold stP;rw [if_neg (by rw [(k23 c7).2.1];simp)]
   have h2:nxt st x=x.text::st:=by rw [← hs,hp]
   rw [hs,h2];rw [h2] at ih;cases c8:decide ((16:Int)<((x.text::st).length:Int)) with
   |true=>simp [sel]
   |false=>
    simp only [sel,Bool.not_false,Bool.true_and,true_and];exact ih
theorem qZ(l:List ah):gM l=0↔l.length≤512∧NA false l∧Wok l false false []∧sF [] l=[]:=by
 unfold gM;cases c:decide ((512:Int)<(l.length:Int)) with
 |true=>
  have:=of_decide_eq_true c;simp only [sel];constructor
  ·intro h;cases h
  ·intro h;omega
 |false=>
  have:=of_decide_eq_false c;rw [sel_false,EE];constructor
  ·intro h;exact ⟨by omega,h⟩
  ·intro h;exact h.2
theorem FS{b e:Bool}{st:List Str}{x:ah}(h:okW b e st x=true):Tx x:=by
 unfold okW at h;simp only [Bool.and_eq_true,Bool.not_eq_true'] at h;cases k:x.kind == 1 with
 |false=>exact .inl k
 |true=>
  have h1:=h.2.1;have h2:=h.2.2.1;unfold wq at h1;rw [(k12 k).1,(k12 k).2.1] at h1;unfold ED at h2;rw [k] at h2;simp only [Bool.not_true,Bool.false_or,Bool.and_eq_true,Bool.not_eq_true',beq_eq_false_iff_ne] at h2;refine .inr ⟨aS x.text,fun e => ?_,s4 _ _ (Nat.le_refl _) h2.2, ?_⟩
  ·have:=wj h2.2
   rw [e] at this;exact h2.1 this.symm
  ·obtain ⟨kd,t,c⟩:=x
   unfold txP;dsimp only at *
   rw [wj h2.2,eq_of_beq k];simp at h1;rw [h1]
theorem Kc:∀ {l:List ah}{b e:Bool}{st:List Str},Wok l b e st→∀ y∈l,Tx y
 |x::l,b,e,st,h,y,hy=>by
  rcases List.mem_cons.1 hy with rfl | hy
  ·exact FS h.1
  ·exact Kc h.2 y hy
theorem xU{b e:Bool}{st:List Str}{rs:List Nat}(h0:rs≠[])(hg:∀ r∈rs,mX r):okW b e st (txP rs) = !e:=by
 have h1:ED (txP rs)=true:=by
  unfold ED;have h2:=GV hg h0;have h3:=(oH rs hg).2;simp [txP,h2,h3]
 unfold okW;rw [h1];simp [rU,wq,xK,iI,bB,aV,txP]
theorem L4{b e:Bool}{st:List Str}{s:List ah}(h:Wok s b e st):Wok (wy s) b e st∧bF b (wy s)=bF b s∧eF e (wy s)=eF e s∧sF st (wy s)=sF st s∧NA false (wy s):=by
 induction s using EB with
 |h0=>exact ⟨trivial,rfl,rfl,rfl,trivial⟩
 |h1 s x ih=>
  obtain ⟨h1,h2⟩:=vq.1 h;obtain ⟨i1,i2,i3,i4,i5⟩:=ih h1;have hs1:=Kc h1;have hx:=FS h2.1;rw [BD];rcases BE (CT hs1) hx with hc | ⟨m,a,c,e1,e2,hc⟩
  ·rw [hc,z6,z8,Aa,z6,z8,Aa,i2,i3,i4,vq,i2,i3,i4]
   refine ⟨⟨i1,h2⟩,rfl,rfl,rfl, ?_⟩;rw [FR];refine ⟨i5, ?_,trivial⟩;rcases qY (wy s) with e0 | ⟨m,y,e0⟩
   ·rw [e0];rfl
   ·rw [e0,List.foldl_append]
    show ((y.kind == 1)&&(x.kind == 1))=false;cases k1:x.kind == 1 with
    |false=>exact Bool.and_false _
    |true=>
     cases k2:y.kind == 1 with
     |false=>rfl
     |true=>
      rw [e0,fj,k1,k2] at hc;have:=congrArg List.length hc;simp [sel] at this
  ·subst e2
   rw [e1] at i1 i2 i3 i4 i5;obtain ⟨j1,j2⟩:=vq.1 i1
   have ha:∃ a',a'≠[]∧(∀ r∈a',mX r)∧txP a=txP a':=by
    rcases CT hs1 (txP a) (by rw [e1];simp) with h1 | ⟨a',n,g,e⟩
    ·cases h1
    ·exact ⟨a',n,g,e⟩
   obtain ⟨a',n1,g1,ea⟩:=ha
   have hcc:∃ c',c'≠[]∧(∀ r∈c',mX r)∧txP c=txP c':=by
    rcases hx with h1 | ⟨c',n,g,e⟩
    ·cases h1
    ·exact ⟨c',n,g,e⟩
   obtain ⟨c',n2,g2,ec⟩:=hcc
   have eac:txP (a++c)=txP (a'++c'):=by
    unfold txP at ea ec ⊢;injection ea with _ ea _;injection ec with _ ec _;rw [oI,oI,ea,ec]
   have g3:∀ r∈a'++c',mX r:=fun r hr=>by
    rcases List.mem_append.1 hr with hr | hr
    ·exact g1 r hr
    ·exact g2 r hr
   rw [hc,eac,z6,z8,Aa,z6,z8,Aa,← i2,← i3,← i4,z6,z8,Aa,vq,FR];have o1:=j2.1;rw [ea,xU n1 g1] at o1;refine ⟨⟨j1, ?_,trivial⟩, ?_, ?_,rfl, ?_⟩
   ·rw [xU (by simp [n1]) g3];exact o1
   ·simp [bF,txP,bB]
   ·simp [eF,txP,aV]
   ·rw [FR] at i5
    exact ⟨i5.1,i5.2.1,trivial⟩
theorem FT{b e b' e':Bool}{x:ah}(hb:b'=true→b=true)(he:e'=true→e=true)(h:iI b e x=true):iI b' e' x=true:=by
 unfold iI at *
 generalize bB x=o at *
 generalize aV x=c at *
 revert b e b' e' o c;decide
theorem Kd{b e b' e':Bool}{st:List Str}{x:ah}(hb:b'=true→b=true)(he:e'=true→e=true)(h:okW b e st x=true):okW b' e' st x=true:=by
 unfold okW at *
 simp only [Bool.and_eq_true] at h ⊢;exact ⟨h.1,h.2.1,h.2.2.1,h.2.2.2.1,FT hb he h.2.2.2.2.1,h.2.2.2.2.2⟩
theorem EF:∀ {l:List ah}{b e b' e':Bool}{st:List Str},(b'=true→b=true)→(e'=true→e=true)→Wok l b e st→Wok l b' e' st
 |[],_,_,_,_,_,_,_,_=>trivial
 |x :: l,b,e,b',e',st,hb,he,h=>⟨Kd hb he h.1,EF (fun hh=>by
    cases b' with
    |true=>rw [hb rfl];rfl
    |false=>simp at hh;simp [hh]) (fun hh=>by
    cases e' with
    |true=>rw [he rfl];rfl
    |false=>simp at hh;simp [hh]) h.2⟩
def mh:List Str→Str→Bool→List ah
 |[],_,_=>[]
 |w::ws,last,blank=>
  sel (mg w)
   (sel (!((wPc w).kind == 3) && !(last == []) && !blank)
    (sel (!(bbF (w::ws) == [])&&mV last (bbF (w::ws))) [mW] []++wPc w::mh ws last true)
    (wPc w::mh ws last blank))
   (sel (!(last == []) && !blank&&mV last w) [mW] []++wPc w::mh ws w false)
theorem vr:∀ (ws:List Str) (out:List ah) (last:Str) (blank:Bool),spR ws out last blank=(mh ws last blank).foldl dI out
 |[],_,_,_=>rfl
 |w::ws,out,last,blank=>by
  rw [spR,mh,vr ws,vr ws,vr ws];cases mg w with
  |true=>
   rw [sel_true,sel_true];cases !((wPc w).kind == 3) && !(last == []) && !blank with
   |true=>
    rw [sel_true,sel_true];cases !(bbF (w::ws) == [])&&mV last (bbF (w::ws))<;>rfl
   |false=>rfl
  |false=>
   rw [sel_false,sel_false];cases !(last == []) && !blank&&mV last w<;>rfl
theorem vt{w:Str}(h:(pcF w).2=true):wP w=wPc w∧wrF (wPc w)=w∧((wPc w).kind == 1)=false∧mg w = !((wPc w).kind == 5):=by
 have h2:=GH w;have hr:(rmk w).2=true:=by rw [← h2.1];exact h
 have T:=JQ hr;have e:wPc w=(rmk w).1:=by rw [wPc,h,sel_true,h2.2 hr]
 refine ⟨by rw [wP,wPc,h,sel_true,sel_true],by rw [e,T.wr,List.take_length], ?_, ?_⟩
 ·rw [e];rcases T.kind with k | k | ⟨k,_⟩ | ⟨k,_⟩<;>(rw [k];rfl)
 ·unfold mg tgF
  dsimp only;rw [h,Bool.true_and,wPc,h,sel_true]
theorem CU{w:Str}(h:gy w=true)(hp:(pcF w).2=false):mg w=false∧wP w=⟨5,[120],false⟩∧wPc w=txP (aS w)∧aS w≠[]∧(∀ r∈aS w,mX r)∧gr (aS w)=w∧CM (aS w)=true:=by
 unfold gy at h;rw [hp,Bool.false_or] at h;unfold H9 at h;rw [Bool.and_eq_true] at h;have hs:=wj h.1;refine ⟨by unfold mg tgF;dsimp only;rw [hp,Bool.false_and],by rw [wP,hp,sel_false],by rw [wPc,hp,sel_false,txP,hs],fun e => ?_,s4 _ _ (Nat.le_refl _) h.1,hs,h.2⟩;have:=h.2;rw [e] at this;cases this
def stW(a:List Str×Str)(p:ah):List Str×Str:=sel (p.kind == 1) (a.1++(wdS (aS p.text) a.2).1,(wdS (aS p.text) a.2).2) (a.1++lB a.2++[wrF p],[])
theorem CV:∀ (a b:List Nat) (w:Str),wdS (a++b) w=((wdS a w).1++(wdS b (wdS a w).2).1,(wdS b (wdS a w).2).2)
 |[],b,w=>by simp [wdS]
 |r::a,b,w=>by
  rw [List.cons_append,wdS,wdS];cases lA (unR r) with
  |true=>rw [sel_true,sel_true];exact CV a b _
  |false=>rw [sel_false,sel_false,CV a b []];simp
theorem CW{a:List Str×Str}{rs:List Nat}(hg:∀ r∈rs,mX r):stW a (txP rs)=(a.1++(wdS rs a.2).1,(wdS rs a.2).2):=by
 unfold stW;rw [show ((txP rs).kind == 1)=true from rfl,sel_true,show (txP rs).text=gr rs from rfl,(oH rs hg).1]
theorem L5{c:List ah}(hc:∀ y∈c,Tx y){x:ah}(hx:Tx x)(z:List Str×Str):(dI c x).foldl stW z=stW (c.foldl stW z) x:=by
 rcases qY c with rfl | ⟨m,y,rfl⟩
 ·rfl
 ·rw [fj]
  cases k:x.kind == 1&&y.kind == 1 with
  |false=>rw [sel_false];simp [List.foldl_append]
  |true=>
   rw [Bool.and_eq_true] at k;rcases hx with h | ⟨b,b0,bg,rfl⟩
   ·rw [k.1] at h;cases h
   rcases hc y (by simp) with h | ⟨a,a0,ag,rfl⟩
   ·rw [k.2] at h;cases h
   have e:({ txP a with text:=(txP a).text++(txP b).text }:ah)=txP (a++b):=by simp [txP,oI]
   rw [sel_true,e,List.foldl_append,List.foldl_append];generalize m.foldl stW z=q;simp only [List.foldl_cons,List.foldl_nil]
   rw [CW bg,CW ag,CW (fun r hr=>by
    rcases List.mem_append.1 hr with hr | hr
    ·exact ag r hr
    ·exact bg r hr),CV,List.append_assoc]
theorem Ke(z:List Str×Str)(s:List ah):(∀ y∈s,Tx y)→(wy s).foldl stW z=s.foldl stW z:=by
 induction s using EB with
 |h0=>intro _;rfl
 |h1 s x ih=>
  intro hs;have h1:∀ y∈s,Tx y:=fun y hy=>hs y (by simp [hy])
  rw [BD,L5 (CT h1) (hs x (by simp)),ih h1,List.foldl_append];rfl
theorem wz:∀ (l:List ah) (p:Bool) (a:List Str×Str),NA p l→(p=false→a.2=[])→(l.foldl stW a).1++lB (l.foldl stW a).2=a.1++lB a.2++bK l
 |[],p,a,_,_=>by simp [bK]
 |x::l,p,a,hn,ha=>by
  have hw:bK (x::l)=wdP x++bK l:=rfl;rw [List.foldl_cons,hw];cases k:x.kind == 1 with
  |true=>
   have hp:=hn.1;rw [k,Bool.and_true] at hp;have h0:=ha hp;rw [wz l (x.kind == 1) _ hn.2 (fun h=>by rw [k] at h;cases h)];unfold stW wdP;rw [k,sel_true,sel_true,h0,wdL];simp [lB,sel]
  |false=>
   rw [wz l (x.kind == 1) _ hn.2 (fun h=>by unfold stW;rw [k,sel_false])];unfold stW wdP;rw [k,sel_false,sel_false];simp [lB,sel]
theorem qh:lB []=[]:=rfl
theorem CX{w:Str}(h:w≠[]):lB w=[w]:=by
 unfold lB;rw [show (w == [])=false from beq_eq_false_iff_ne.2 h,sel_false]
theorem GX:∀ (rs:List Nat) (w:Str),vo rs=true→wdS rs w=([],w++gr rs)
 |[],w,_=>by simp [wdS,gr]
 |r::rs,w,h=>by
  unfold vo at h;rw [List.all_cons,Bool.and_eq_true] at h;rw [wdS,h.1,sel_true,GX rs _ h.2,show gr (r::rs)=lH r++gr rs from rfl,List.append_assoc]
theorem If{r:Nat}(h:nA (unR r)=true):lA (unR r)=false:=by
 unfold nA at h;unfold lA;simp only [Bool.and_eq_true,Bool.not_eq_true'] at h;rw [h.1.1.1,h.1.1.2,h.1.2];rfl
theorem CY(a:List Str×Str):stW a mW=(a.1++lB a.2,[]):=by
 have h:aS mW.text=[32]:=rfl;have u:lA (unR 32)=false:=rfl;have m:mkS 32=[]:=rfl;unfold stW;rw [show (mW.kind == 1)=true from rfl,sel_true,h,wdS,u,sel_false,m];simp [wdS]
theorem Ig{w:Str}(h:(FN.any fun s=>w == s)=true):vo (aS w)=false:=by
 simp only [FN,List.any_cons,List.any_nil,Bool.or_false,Bool.or_eq_true,beq_iff_eq] at h;rcases h with rfl | rfl | rfl | rfl | rfl | rfl | rfl | rfl<;>rfl
def MB(buf last:Str)(blank:Bool):Prop:=buf=[]∨(blank=false∧buf=last∧last≠[]∧vo (aS last)=true)
theorem mj:∀ (ws:List Str) (last:Str) (blank:Bool) (a:List Str×Str),(∀ w∈ws,gy w=true)→MB a.2 last blank →
  ((mh ws last blank).foldl stW a).1++lB ((mh ws last blank).foldl stW a).2=a.1++lB a.2++ws
 |[],last,blank,a,_,_=>by simp [mh]
 |w::ws,last,blank,a,hw,hb=>by
  have hws:∀ w∈ws,gy w=true:=fun y hy=>hw y (List.mem_cons_of_mem _ hy)
  have hwf:=hw w List.mem_cons_self
  have pc:(pcF w).2=true→∀ (c:Bool) (last':Str) (blank':Bool),((sel c [mW] []++wPc w::mh ws last' blank').foldl stW a).1++lB ((sel c [mW] []++wPc w::mh ws last' blank').foldl stW a).2=a.1++lB a.2++w::ws:=fun hp c last' blank'=>by
   obtain ⟨_,h2,h3,_⟩:=vt hp;have hst:∀ b:List Str×Str,stW b (wPc w)=(b.1++lB b.2++[w],[]):=fun b=>by unfold stW;rw [h3,sel_false,h2]
   cases c with
   |true=>
    rw [sel_true,List.cons_append,List.nil_append,List.foldl_cons,List.foldl_cons,CY,hst,mj ws last' blank' _ hws (.inl rfl)];simp [qh]
   |false=>
    rw [sel_false,List.nil_append,List.foldl_cons,hst,mj ws last' blank' _ hws (.inl rfl)];simp [qh]
  rw [mh];cases hp:(pcF w).2 with
  |true=>
   have pc:=pc hp;cases mg w with
   |true=>
    rw [sel_true];cases !((wPc w).kind == 3) && !(last == []) && !blank with
    |true=>rw [sel_true];exact pc _ _ _
    |false=>rw [sel_false];exact pc false _ _
   |false=>rw [sel_false];exact pc _ _ _
  |false=>
   obtain ⟨h1,_,h3,h4,h5,h6,h7⟩:=CU hwf hp;have hne:=Ez hwf;rw [h1,sel_false,h3];have hst:∀ b:List Str×Str,stW b (txP (aS w))=(b.1++(wdS (aS w) b.2).1,(wdS (aS w) b.2).2):=fun b=>CW h5
   have mk:∀ r,aS w=[r]→nA (unR r)=true→∀ (c:Bool),((sel c [mW] []++txP (aS w)::mh ws w false).foldl stW a).1++lB ((sel c [mW] []++txP (aS w)::mh ws w false).foldl stW a).2=a.1++lB a.2++w::ws:=fun r hr hm c=>by
    have hs:∀ b:Str,wdS (aS w) b=(lB b++[w],[]):=fun b=>by
     have:lH r=w:=by
      have:=h6;rw [hr,show gr [r]=lH r++[] from rfl,List.append_nil] at this;exact this
     rw [hr,wdS,If hm,sel_false,mkS,hm,sel_true,this];simp [wdS]
    cases c with
    |true=>
     rw [sel_true,List.cons_append,List.nil_append,List.foldl_cons,List.foldl_cons,CY,hst,hs,mj ws w false _ hws (.inl rfl)];simp [qh]
    |false=>
     rw [sel_false,List.nil_append,List.foldl_cons,hst,hs,mj ws w false _ hws (.inl rfl)];simp [qh]
   cases hrs:aS w with
   |nil=>exact absurd hrs h4
   |cons r t=>
    rw [← hrs];rw [hrs,CM] at h7;cases hm:t.isEmpty&&nA (unR r) with
    |true=>
     rw [Bool.and_eq_true,List.isEmpty_iff] at hm;obtain ⟨rfl,hm⟩:=hm;exact mk r hrs hm _
    |false=>
     rw [hm,sel_false,← hrs] at h7;have hs:∀ b:Str,wdS (aS w) b=([],b++w):=fun b=>by rw [GX _ b h7,h6]
     have hb2:MB w w false:=.inr ⟨rfl,rfl,hne,h7⟩;cases hc : !(last == []) && !blank&&mV last w with
     |true=>
      rw [sel_true,List.cons_append,List.nil_append,List.foldl_cons,List.foldl_cons,CY,hst,hs,mj ws w false _ hws (by simpa using hb2)];simp [CX hne]
     |false=>
      have h0:a.2=[]:=by
       rcases hb with h | ⟨q1,q2,q3,q4⟩
       ·exact h
       ·exfalso
        rw [show (last == [])=false from beq_eq_false_iff_ne.2 q3,q1,Bool.not_false,Bool.true_and,Bool.true_and] at hc;unfold mV at hc;cases hpn:FN.any fun s=>w == s with
        |true=>rw [Ig hpn] at h7;cases h7
        |false=>
         rw [hpn,Bool.not_false,Bool.true_and] at hc;cases h40:last == [40] with
         |true=>rw [eq_of_beq h40] at q4;cases q4
         |false=>
          rw [h40,Bool.not_false,Bool.true_and,Bool.not_eq_false'] at hc;rw [eq_of_beq hc] at q4;cases q4
      rw [sel_false,List.nil_append,List.foldl_cons,hst,hs,h0,mj ws w false _ hws (by simpa using hb2)];simp [CX hne,qh]
theorem No:Tx mW:=.inr ⟨[32],by simp,fun r hr=>by
 rw [List.mem_singleton] at hr;subst hr;have:=s4 1 [32] (by simp) (by rfl) 32 (by show 32∈[32];simp);exact this,rfl⟩
theorem Np{w:Str}(h:gy w=true):Tx (wPc w):=by
 cases hp:(pcF w).2 with
 |true=>exact .inl (vt hp).2.2.1
 |false=>
  obtain ⟨_,_,h3,h4,h5,_⟩:=CU h hp;exact .inr ⟨_,h4,h5,h3⟩
theorem Kf:∀ (ws:List Str) (last:Str) (blank:Bool),(∀ w∈ws,gy w=true)→∀ y∈mh ws last blank,Tx y
 |[],_,_,_,y,hy=>by cases hy
 |w::ws,last,blank,hw,y,hy=>by
  have hws:∀ w∈ws,gy w=true:=fun y hy=>hw y (List.mem_cons_of_mem _ hy)
  have hwt:=Np (hw w List.mem_cons_self)
  have key:∀ (c:Bool) (last':Str) (blank':Bool),y∈sel c [mW] []++wPc w::mh ws last' blank'→Tx y:=fun c last' blank' h=>by
   rcases List.mem_append.1 h with h | h
   ·cases c with
    |true=>rw [sel_true,List.mem_singleton] at h;rw [h];exact No
    |false=>cases h
   ·rcases List.mem_cons.1 h with h | h
    ·rw [h];exact hwt
    ·exact Kf ws last' blank' hws y h
  rw [mh] at hy;cases ht:mg w with
  |true=>
   rw [ht,sel_true] at hy;cases hc : !((wPc w).kind == 3) && !(last == []) && !blank with
   |true=>rw [hc,sel_true] at hy;exact key _ _ _ hy
   |false=>rw [hc,sel_false] at hy;exact key false _ _ hy
  |false=>rw [ht,sel_false] at hy;exact key _ _ _ hy
theorem EG(b e:Bool)(st:List Str):okW b e st ⟨5,[120],false⟩ = !e:=by
 unfold okW;have h:kH [120]=true:=rfl;simp [rU,wq,xK,iI,bB,aV,ED,h]
theorem Kg{b e:Bool}{st:List Str}{x:ah}(h:okW b e st x=true)(hc:aV x=false):e=false:=by
 unfold okW iI at h;simp only [Bool.and_eq_true,Bool.not_eq_true',Bool.or_eq_false_iff] at h;have:=h.2.2.2.2.1.2;rw [hc,Bool.not_false,Bool.and_true] at this;exact this
theorem Kh{w:Str}(h:gy w=true)(ht:mg w=false):aV (wP w)=false∧bB (wP w)=false∧(∀ st,nxt st (wP w)=st)∧aV (wPc w)=false∧bB (wPc w)=false∧(∀ st,nxt st (wPc w)=st)∧∀ b e st,okW b e st (wP w)=true→okW b e st (wPc w)=true:=by
 cases hp:(pcF w).2 with
 |true=>
  obtain ⟨h1,_,_,h4⟩:=vt hp;have k:((wPc w).kind == 5)=true:=by rw [ht] at h4;simpa using h4.symm
  have k2:=eq_of_beq k;have f1:aV (wPc w)=false:=by unfold aV;rw [k2];rfl
  have f2:bB (wPc w)=false:=by unfold bB;rw [k2];rfl
  have f3:∀ st,nxt st (wPc w)=st:=fun st=>by unfold nxt;rw [k2];rfl
  rw [h1];exact ⟨f1,f2,f3,f1,f2,f3,fun _ _ _ h=>h⟩
 |false=>
  obtain ⟨_,h2,h3,h4,h5,_⟩:=CU h hp;rw [h2,h3];refine ⟨rfl,rfl,fun _=>rfl,rfl,rfl,fun _=>rfl,fun b e st h => ?_⟩;rw [xU h4 h5];rw [EG] at h;exact h
theorem Od:∀ {ws:List Str}{b e:Bool}{st:List Str},(∀ w∈ws,gy w=true)→Wok (ws.map wP) b e st→bbF ws≠[]→e=false
 |[],_,_,_,_,_,h=>absurd rfl h
 |w::ws,b,e,st,hw,h,hb=>by
  rw [bbF] at hb;cases ht:mg w with
  |true=>
   rw [ht,sel_true] at hb;have:=Od (fun y hy=>hw y (List.mem_cons_of_mem _ hy)) h.2 hb;rw [Bool.or_eq_false_iff] at this;exact this.1
  |false=>exact Kg h.1 (Kh (hw w List.mem_cons_self) ht).1
theorem CZ:∀ (ws:List Str) (last:Str) (blank:Bool) (b e:Bool) (st:List Str),(∀ w∈ws,gy w=true)→(last≠[]→b=true)→Wok (ws.map wP) b e st→Wok (mh ws last blank) b e st∧sF st (mh ws last blank)=sF st (ws.map wP)
 |[],last,blank,b,e,st,_,_,_=>⟨trivial,rfl⟩
 |w::ws,last,blank,b,e,st,hw,hl,h=>by
  have hws:∀ w∈ws,gy w=true:=fun y hy=>hw y (List.mem_cons_of_mem _ hy)
  have hwf:=hw w List.mem_cons_self
  have okb:∀ b' e':Bool,e'=false→okW b' e' st mW=true:=fun b' e' he=>by
   have:=xU (b:=b') (e:=e') (st:=st) (rs:=[32]) (by simp) (fun r hr=>by
    rw [List.mem_singleton] at hr;subst hr;exact s4 1 [32] (by simp) (by rfl) 32 (by show 32∈[32];simp))
   rw [he] at this ⊢;exact this
  have step:∀ (c:Bool) (l:List ah),(c=true→e=false∧b=true)→Wok l b e st→Wok (sel c [mW] []++l) b e st∧sF st (sel c [mW] []++l)=sF st l:=fun c l hc hk=>by
   cases c with
   |false=>exact ⟨hk,rfl⟩
   |true=>
    obtain ⟨he,hb⟩:=hc rfl;subst hb;refine ⟨⟨okb _ _ he, ?_⟩,rfl⟩;rw [show aV mW=false from rfl,Bool.or_false];exact hk
  have bl:(last == [])=false→b=true:=fun h=>hl (beq_eq_false_iff_ne.1 h)
  rw [mh];cases ht:mg w with
  |true=>
   have hp:(pcF w).2=true:=by
    unfold mg tgF at ht;simp only [Bool.and_eq_true] at ht;exact ht.1
   have e1:=(vt hp).1;rw [List.map_cons,e1] at h;have hl2:∀ x:Bool,last≠[]→(b||x)=true:=fun x hne=>by rw [hl hne];rfl
   rw [sel_true];cases hc : !((wPc w).kind == 3) && !(last == []) && !blank with
   |true=>
    simp only [Bool.and_eq_true,Bool.not_eq_true'] at hc;obtain ⟨i1,i2⟩:=CZ ws last true _ _ _ hws (hl2 _) h.2;rw [sel_true]
    obtain ⟨j1,j2⟩:=step (!(bbF (w::ws) == [])&&mV last (bbF (w::ws))) (wPc w::mh ws last true) (fun hq=>by
     rw [Bool.and_eq_true,Bool.not_eq_true',beq_eq_false_iff_ne] at hq;refine ⟨?_,bl hc.1.2⟩;have hq1:=hq.1;rw [bbF,ht,sel_true] at hq1;have:=Od hws h.2 hq1;rw [Bool.or_eq_false_iff] at this;exact this.1) ⟨h.1,i1⟩
    exact ⟨j1,by rw [j2,List.map_cons,e1];exact i2⟩
   |false=>
    obtain ⟨i1,i2⟩:=CZ ws last blank _ _ _ hws (hl2 _) h.2;rw [sel_false];exact ⟨⟨h.1,i1⟩,by rw [List.map_cons,e1];exact i2⟩
  |false=>
   obtain ⟨f1,f2,f3,f4,f5,f6,f7⟩:=Kh hwf ht;rw [List.map_cons] at h;have h2:=h.2;rw [f1,f2,f3,Bool.or_false,Bool.not_false,Bool.or_true] at h2;have he:=Kg h.1 f1;obtain ⟨i1,i2⟩:=CZ ws w false _ _ _ hws (fun _=>rfl) h2;rw [sel_false]
   obtain ⟨j1,j2⟩:=step (!(last == []) && !blank&&mV last w) (wPc w::mh ws w false) (fun hq=>by
    simp only [Bool.and_eq_true,Bool.not_eq_true'] at hq;exact ⟨he,bl hq.1.1⟩) ⟨f7 _ _ _ h.1,by rw [f4,f5,f6,Bool.or_false,Bool.not_false,Bool.or_true];exact i1⟩
   refine ⟨j1, ?_⟩;rw [j2,List.map_cons];show sF (nxt st (wPc w)) _=sF (nxt st (wP w)) _;rw [f3,f6];exact i2
theorem xV{ws:List Str}(h:sX ws=0)(hl:(jw ws).length≤512):gM (jw ws)=0∧bK (jw ws)=ws:=by
 obtain ⟨hn,hw⟩:=qX h;have e:jw ws=wy (mh ws [] false):=by rw [← GU h,vr];rfl
 have h1:gM (ws.map wP)=0:=by
  unfold sX at h;rw [decide_eq_false (by omega),sel_false] at h;cases ha:ws.all gy with
  |true=>rw [ha,sel_true] at h;exact h
  |false=>rw [ha,sel_false] at h;cases h
 obtain ⟨_,_,k3,k4⟩:=(qZ _).1 h1;obtain ⟨s1,s2⟩:=CZ ws [] false false false [] hw (fun hh=>absurd rfl hh) k3;obtain ⟨n1,_,_,n4,n5⟩:=L4 s1;rw [e] at hl ⊢;refine ⟨(qZ _).2 ⟨hl,n5,n1,by rw [n4,s2];exact k4⟩, ?_⟩;have w1:=wz (wy (mh ws [] false)) false ([],[]) n5 (fun _=>rfl);rw [Ke _ _ (Kf ws [] false hw),mj ws [] false ([],[]) hw (.inl rfl)] at w1;simpa [qh] using w1.symm
theorem FU(r:Nat):gr [r]=lH r:=by rw [show gr [r]=lH r++[] from rfl,List.append_nil]
def Ih(w:Str):Prop:=∃ rs,rs≠[]∧(∀ r∈rs,mX r)∧w=gr rs∧CM rs=true
theorem Nq{rs:List Nat}(h:vo rs=true)(h0:rs≠[]):CM rs=true:=by
 cases rs with
 |nil=>exact absurd rfl h0
 |cons r t=>
  unfold CM;dsimp only;cases t.isEmpty&&nA (unR r) with
  |true=>rfl
  |false=>rw [sel_false];exact h
theorem Nr{r:Nat}(h:mX r){c:UInt8}{t:Str}(e:lH r=c::t)(hc:c.toNat<128):r=c.toNat∧t=[]:=by
 have h1:=h.2.2 [];rw [List.append_nil,e,CE hc] at h1;injection h1 with h1 h2;refine ⟨h1.symm,List.eq_nil_of_length_eq_zero ?_⟩;rw [List.length_cons] at h2;omega
theorem Ih.word{w:Str}(h:Ih w):gy w=true∧wP w=⟨5,[120],false⟩:=by
 obtain ⟨rs,h0,hg,rfl,hr⟩:=h;obtain ⟨e1,e2⟩:=oH rs hg;have hrow:H9 (gr rs)=true:=by unfold H9;rw [e1,e2,hr];rfl
 have hp:(pcF (gr rs)).2=false:=by
  cases rs with
  |nil=>exact absurd rfl h0
  |cons r t=>
   have g:=hg r (by simp);have e:gr (r::t)=lH r++gr t:=rfl;cases hc:lH r with
   |nil=>exact absurd hc g.1
   |cons c u=>
    rw [e,hc,List.cons_append,pcF];cases k:(c == 60)||(c == 123) with
    |false=>rfl
    |true=>
     have hcl:c.toNat<128:=by
      rw [Bool.or_eq_true] at k;rcases k with k | k<;>(rw [eq_of_beq k];decide)
     obtain ⟨er,eu⟩:=Nr g hc hcl
     have hb:lA (unR r)=false:=by
      rw [er];rw [Bool.or_eq_true] at k;rcases k with k | k<;>(rw [eq_of_beq k];rfl)
     unfold CM at hr;dsimp only at hr;cases hm:t.isEmpty&&nA (unR r) with
     |false=>
      rw [hm,sel_false] at hr;unfold vo at hr;rw [List.all_cons,hb,Bool.false_and] at hr;cases hr
     |true=>
      rw [Bool.and_eq_true,List.isEmpty_iff] at hm;obtain ⟨rfl,_⟩:=hm;subst eu;rfl
 refine ⟨by unfold gy;rw [hrow,Bool.or_true],by rw [wP,hp,sel_false]⟩
def L6(w:Str):Prop:=w=[]∨∃ q,q≠[]∧(∀ r∈q,mX r)∧w=gr q∧vo q=true
theorem L6.fls{w:Str}(h:L6 w):∀ x∈lB w,Ih x:=fun x hx=>by
 rcases h with rfl | ⟨q,q0,qg,rfl,qa⟩
 ·cases hx
 ·rw [CX (GV qg q0),List.mem_singleton] at hx
  exact ⟨q,q0,qg,hx,Nq qa q0⟩
theorem Ab:∀ (rs:List Nat) (w:Str),(∀ r∈rs,mX r)→L6 w→(∀ x∈(wdS rs w).1,Ih x)∧L6 (wdS rs w).2
 |[],w,_,h=>⟨fun x hx=>(by cases hx),h⟩
 |r::rs,w,hg,h=>by
  have g:=hg r (by simp);have hg2:∀ r∈rs,mX r:=fun y hy=>hg y (by simp [hy])
  rw [wdS];cases hu:lA (unR r) with
  |true=>
   rw [sel_true];refine Ab rs _ hg2 (.inr ?_);rcases h with rfl | ⟨q,q0,qg,rfl,qa⟩
   ·exact ⟨[r],by simp,fun y hy=>by rw [List.mem_singleton] at hy;subst hy;exact g,by rw [FU,List.nil_append],by unfold vo;rw [List.all_cons,hu];rfl⟩
   ·refine ⟨q++[r],by simp,fun y hy => ?_,by rw [oI,FU], ?_⟩
    ·rcases List.mem_append.1 hy with hy | hy
     ·exact qg y hy
     ·rw [List.mem_singleton] at hy;subst hy;exact g
    ·unfold vo at qa ⊢
     rw [List.all_append,qa,List.all_cons,hu];rfl
  |false=>
   rw [sel_false];obtain ⟨i1,i2⟩:=Ab rs [] hg2 (.inl rfl);refine ⟨fun x hx => ?_,i2⟩;dsimp only at hx;rcases List.mem_append.1 hx with hx | hx
   ·rcases List.mem_append.1 hx with hx | hx
    ·exact h.fls x hx
    ·unfold mkS at hx
     cases hm:nA (unR r) with
     |false=>rw [hm] at hx;cases hx
     |true=>
      rw [hm,sel_true,List.mem_singleton] at hx;refine ⟨[r],by simp,fun y hy=>by rw [List.mem_singleton] at hy;subst hy;exact g,by rw [hx,FU], ?_⟩;unfold CM;dsimp only;rw [hm];rfl
   ·exact i1 x hx
theorem GY:∀ (k:List Str) (b:Bool) (st:List Str) (rest:List ah),(∀ x∈k,Ih x)→Wok rest true false st→Wok (k.map wP++rest) b false st∧sF st (k.map wP++rest)=sF st rest
 |[],b,st,rest,_,h=>⟨EF (fun _=>rfl) (fun h=>h) h,rfl⟩
 |w::k,b,st,rest,hk,h=>by
  have e:=((hk w (by simp)).word).2;obtain ⟨i1,i2⟩:=GY k true st rest (fun x hx=>hk x (by simp [hx])) h;rw [List.map_cons,List.cons_append,e];refine ⟨⟨by rw [EG];rfl, ?_⟩,i2⟩;rw [show bB ⟨5,[120],false⟩=false from rfl,show aV ⟨5,[120],false⟩=false from rfl,Bool.not_false,Bool.or_true,Bool.or_false];exact i1
theorem Ki{x:ah}(h1:rU x=false)(h2:wq x=false)(h3:xK x=false)(k:(x.kind == 1)=false):gy (wrF x)=true∧wP (wrF x)=x:=by
 have hn:kH x.text=true:=by
  unfold xK at h3;rw [k,Bool.not_false,Bool.true_and,Bool.not_eq_false'] at h3;exact h3
 have hk:x.kind=2∨x.kind=3∨(x.kind=4∧x.car=false)∨(x.kind=5∧x.car=false):=by
  unfold rU at h1;unfold wq at h2;rw [Bool.or_eq_false_iff] at h1;have a1:=of_decide_eq_false h1.1;have a2:=of_decide_eq_false h1.2;have a3:x.kind≠1:=by simpa using k
  have:x.kind=2∨x.kind=3∨x.kind=4∨x.kind=5:=by omega
  rcases this with e | e | e | e
  ·exact .inl e
  ·exact .inr (.inl e)
  ·refine .inr (.inr (.inl ⟨e, ?_⟩));rw [e] at h2;simpa using h2
  ·refine .inr (.inr (.inr ⟨e, ?_⟩));rw [e] at h2;simpa using h2
 have hr:=JS hn hk;have hq:=GH (wrF x);rw [hr] at hq;have h2:=hq.2 rfl;exact ⟨by unfold gy;rw [hq.1];rfl,by rw [wP,hq.1,sel_true,h2]⟩
theorem BF:∀ (l:List ah) (b e:Bool) (st:List Str),Wok l b e st→(∀ w∈bK l,gy w=true)∧Wok ((bK l).map wP) b e st∧sF st ((bK l).map wP)=sF st l
 |[],b,e,st,_=>⟨fun w hw=>(by cases hw),trivial,rfl⟩
 |x::l,b,e,st,h=>by
  have hw:bK (x::l)=wdP x++bK l:=rfl;have hx:=h.1;obtain ⟨i1,i2,i3⟩:=BF l _ _ _ h.2;rw [hw];cases k:x.kind == 1 with
  |true=>
   have hc:aV x=false:=by unfold aV;rw [(k12 k).2.1];rfl
   have ho:bB x=false:=by unfold bB;rw [(k12 k).1];rfl
   have hs:nxt st x=st:=by unfold nxt;rw [(k12 k).1,(k12 k).2.1];rfl
   have he:=Kg hx hc;subst he
   have hrow:∀ y∈wdP x,Ih y:=by
    rcases FS hx with h1 | ⟨rs,r0,rg,rfl⟩
    ·rw [k] at h1;cases h1
    ·unfold wdP
     rw [k,sel_true,show (txP rs).text=gr rs from rfl,(oH rs rg).1,wdL];obtain ⟨w1,w2⟩:=Ab rs [] rg (.inl rfl);intro y hy;rcases List.mem_append.1 hy with hy | hy
     ·exact w1 y hy
     ·exact w2.fls y hy
   rw [ho,hc,hs,Bool.not_false,Bool.or_true,Bool.or_false] at i2;rw [hs] at i3;obtain ⟨r1,r2⟩:=GY (wdP x) b st ((bK l).map wP) hrow i2;rw [List.map_append];refine ⟨fun w hw => ?_,r1, ?_⟩
   ·rcases List.mem_append.1 hw with hw | hw
    ·exact ((hrow w hw).word).1
    ·exact i1 w hw
   ·rw [r2,i3]
    show sF st l=sF (nxt st x) l;rw [hs]
  |false=>
   have hx2:=hx;unfold okW at hx2;simp only [Bool.and_eq_true,Bool.not_eq_true'] at hx2;obtain ⟨t1,t2⟩:=Ki hx2.1 hx2.2.1 hx2.2.2.2.1 k;have e1:wdP x=[wrF x]:=by unfold wdP;rw [k,sel_false]
   rw [e1,List.map_append,List.map_cons,List.map_nil,t2];refine ⟨fun w hw => ?_,⟨hx,i2⟩,i3⟩;rcases List.mem_append.1 hw with hw | hw
   ·rw [List.mem_singleton] at hw;rw [hw];exact t1
   ·exact i1 w hw
theorem L7{w:Str}:((wP w).kind == 1)=false:=by
 cases hp:(pcF w).2 with
 |true=>
  obtain ⟨h1,_,h3,_⟩:=vt hp;rw [h1];exact h3
 |false=>rw [wP,hp,sel_false];rfl
theorem MC:∀ {l:List ah} (p:Bool),(∀ y∈l,(y.kind == 1)=false)→NA p l
 |[],_,_=>trivial
 |x::l,p,h=>⟨by rw [h x (by simp),Bool.and_false],MC _ fun y hy=>h y (by simp [hy])⟩
theorem Kj{l:List ah}(h:gM l=0)(hn:(bK l).length≤512):sX (bK l)=0:=by
 obtain ⟨_,_,k3,k4⟩:=(qZ _).1 h;obtain ⟨i1,i2,i3⟩:=BF l _ _ _ k3;unfold sX;rw [decide_eq_false (by omega),sel_false,List.all_eq_true.2 i1,sel_true];refine (qZ _).2 ⟨by rw [List.length_map];exact hn,MC _ fun y hy => ?_,i2,by rw [i3];exact k4⟩;obtain ⟨w,_,rfl⟩:=List.mem_map.1 hy;exact L7
section
attribute [local congr] aq aO aI au aH aC aw ak al aD aE
variable{E:aN}(M:a8 bn E)
structure Oe (E:aN):Prop where
 truchmanlaw01_DocsSpaced:E.fn eK=some eU
theorem Kk:∀ (ws:List Str) (last:Str) (blank:Bool) (m:Nat) (o:List ah),PcB m o→PcB (m+wtS ws) ((mh ws last blank).foldl dI o)
 |[],last,blank,m,o,h=>h.mono (Nat.le_add_right _ _)
 |w::ws,last,blank,m,o,h=>by
  have hw:=GT w
  have key:∀ (c:Bool) (last':Str) (blank':Bool),PcB (m+wtS (w::ws)) ((sel c [mW] []++wPc w::mh ws last' blank').foldl dI o):=fun c last' blank'=>by
   rw [sY];cases c with
   |true=>exact (Kk ws last' blank' _ _ ((h.put mW).put (wPc w))).mono (by show m+2+_+_≤_;omega)
   |false=>exact (Kk ws last' blank' _ _ (h.put (wPc w))).mono (by omega)
  rw [mh];cases mg w with
  |true=>
   rw [sel_true];cases !((wPc w).kind == 3) && !(last == []) && !blank with
   |true=>rw [sel_true];exact key _ _ _
   |false=>rw [sel_false];exact key false _ _
  |false=>rw [sel_false];exact key _ _ _
theorem C0{ws:List Str}(h:sX ws=0):∀ x∈jw ws,x.text.length≤wtS ws:=by
 have e:jw ws=(mh ws [] false).foldl dI []:=by rw [← GU h,vr]
 have:=Kk ws [] false 0 [] ⟨Nat.le_refl _,fun x hx=>by cases hx⟩;rw [← e,Nat.zero_add] at this;exact this.2
def vu(l:List Str):Nat:=(l.map List.length).sum
theorem vv(a b:List Str):vu (a++b)=vu a+vu b:=by simp [vu,List.sum_append]
theorem GZ:∀ l:List Str,wtS l=vu l+8*l.length
 |[]=>rfl
 |w::l=>by
  rw [sY,GZ l,List.length_cons];show _=w.length+vu l+_;omega
theorem EH(w:Str):vu (lB w)≤w.length:=by
 unfold lB;cases w == [] with
 |true=>exact Nat.zero_le _
 |false=>simp [sel,vu]
theorem L8(r:Nat):vu (mkS r)≤4:=by
 have hc:=CN r;unfold mkS;cases nA (unR r) with
 |true=>
  show (lH r).length+0≤4;generalize (lH r).length=c at *
  omega
 |false=>exact Nat.zero_le _
theorem C1:∀ (rs:List Nat) (w:Str),vu (wdS rs w).1+(wdS rs w).2.length≤w.length+4*rs.length
 |[],w=>by simp [wdS,vu]
 |r::rs,w=>by
  have hc:=CN r;rw [wdS,List.length_cons];cases lA (unR r) with
  |true=>
   have i1:=C1 rs (w++lH r);rw [sel_true];rw [List.length_append] at i1;generalize (lH r).length=c at *
   omega
  |false=>
   have i1:=C1 rs [];have h1:=EH w;have h2:=L8 r;rw [sel_false];dsimp only;rw [vv,vv];rw [List.length_nil] at i1;omega
theorem BG:∀ {l:List ah},(∀ x∈l,rU x=false)→vu (bK l)≤4*uC l+4*l.length
 |[],_=>Nat.zero_le _
 |x::l,ha=>by
  have ih:=BG (l:=l) fun y hy=>ha y (by simp [hy])
  have hd:vu (wdP x)≤4*x.text.length+4:=by
   unfold wdP;cases k:x.kind == 1 with
   |true=>
    have hr:=qT x.text;have h1:=C1 (aS x.text) [];have h2:=EH (wdS (aS x.text) []).2;rw [sel_true,wdL,vv];rw [List.length_nil] at h1;omega
   |false=>
    have h:=ha x (by simp)
    have hk:x.kind=2∨x.kind=3∨x.kind=4∨x.kind=5:=by
     unfold rU at h
     have:x.kind≠1:=by simpa using k
     simp at h;omega
    have hp:(gv x).length≤1:=by unfold gv;cases x.car<;>simp [sel]
    rw [sel_false];show (wrF x).length+0≤_;unfold wrF;rcases hk with k | k | k | k<;>(rw [k];simp [sel];try omega)
  show vu (wdP x++bK l)≤_;rw [vv,uC,List.map_cons,List.sum_cons,List.length_cons];unfold uC at ih;omega
theorem q8(ws:List Str):(∃ e,Ey ws = .tuple [.slice .any 3 [],.int .u8 e]∧(e == 0)=false∧(sX ws=0→e=3))∨(Ey ws = .tuple [.slice .any 3 ((jw ws).map ah.row),.int .u8 0]∧sX ws=0∧(jw ws).length≤512):=by
 unfold Ey;cases h0:sX ws == 0 with
 |false=>exact .inl ⟨_,rfl,h0,fun h=>by rw [h] at h0;cases h0⟩
 |true=>
  rw [sel_true];cases h5:decide ((512:Int)<((jw ws).length:Int)) with
  |true=>exact .inl ⟨_,rfl,rfl,fun _=>rfl⟩
  |false=>exact .inr ⟨rfl,eq_of_beq h0,by have:=of_decide_eq_false h5;omega⟩
theorem EI(l:List ah):(∃ e,wv l = .tuple [.slice .any 1 [],.int .u8 e]∧(e == 0)=false)∨(wv l = .tuple [.slice .any 1 ((bK l).map bh),.int .u8 0]∧gM l=0∧(bK l).length≤512):=by
 unfold wv;cases h0:gM l == 0 with
 |false=>exact .inl ⟨_,rfl,h0⟩
 |true=>
  rw [sel_true];cases h5:decide ((512:Int)<((bK l).length:Int)) with
  |true=>exact .inl ⟨_,rfl,rfl⟩
  |false=>exact .inr ⟨rfl,eq_of_beq h0,by have:=of_decide_eq_false h5;omega⟩
theorem Ac{l:List Str}(h:zV l=false)(hl:l.length≤512):wtS l≤1000000:=by
 have h1:=of_decide_eq_false h;have:=CS 700 l (by omega);omega
theorem vw(hB:lG E)(hS:mU E)(hD:wk M)(hU:qV E)(hN:JV E)(hW:WsE E){ws:List Str}(h:sX ws=0)(hl:(jw ws).length≤512)(hw:wtS ws≤1000000)(H:List AObj) :
  M.run ep [.slice .any 3 ((jw ws).map ah.row)] H=some (.ret (.tuple [.slice .any 1 (ws.map bh),.int .u8 0]),H):=by
 obtain ⟨k1,k2⟩:=xV h hl;have hn:=(qX h).1;have:=zU M hB hS hD hU hN hW (l:=⟨.any,jw ws⟩) (by dsimp only;omega) (fun x hx=>by have:=C0 h x hx;omega) (by rw [k2];omega) H;dsimp only at this;unfold wv at this;rw [k1,k2,decide_eq_false (by omega)] at this;exact this
theorem Ad(hB:lG E)(hS:mU E)(hX:tK M)(hD:wk M)(hU:qV E)(hN:JV E)(hC:wu E)(hW:WsE E)(hA:Oe E){l:Sl ah}(hl:l.ok 0 (ah.ok 0)){ws:Sl Str}(hws:ws.ok 0 (fun s=>s.length≤bJ)){H:List AObj}
  (hL:∀ H,M.run aX [] H=some (.ret (.bool true),H)):M.run eK [.slice l.tag 3 (l.l.map ah.row),.slice ws.tag 1 (ws.l.map bh)] H=some (.ret (.bool true),H):=by
 have s1:=fun H=>H8 M hB hl H
 have s2:=fun H=>Ib M hW (l:=ws.l) (tg:=ws.tag) hws.len hws.all H
 have hkw:∀ n,Wk n (.slice ws.tag 1 (ws.l.map bh)) (.slice ws.tag 1 (ws.l.map bh)):=fun n=>wk_slice (hws.tag.mono (Nat.zero_le _)) (En n ws.l)
 rw [aP M hA.truchmanlaw01_DocsSpaced rfl (c:=eT) rfl,eT];cases c1:Ek [l] with
 |true=>simp (maxSteps:=3000000) (maxDischargeDepth:=6) +contextual -implicitDefEqProofs only [amC M,↓amD,Nat.reduceBEq,Nat.reduceAdd,env,ao,bc,amG,AV.cell,Nat.reduceMul,Nat.reduceLeDiff,s1,fo,c1,hL]
 |false=>
 cases c2:zV ws.l with
 |true=>simp (maxSteps:=3000000) (maxDischargeDepth:=6) +contextual -implicitDefEqProofs only [amC M,↓amD,Nat.reduceBEq,Nat.reduceAdd,env,ao,bc,amG,AV.cell,Nat.reduceMul,Nat.reduceLeDiff,s1,s2,fo,c1,c2,hL]
 |false=>
 have hlong:=H7 c1;obtain ⟨w1,w2⟩:=EA c2;have htx:∀ x∈l.l,x.text.length≤1000000:=fun x hx=>by have:=JY hx;omega
 have hwl:=zY l.l;have v1:=fun H=>zU M hB hS hD hU hN hW (l:=l) (by omega) htx (by omega) H
 have v7:=fun H=>sZ M hB hS hX hD hU hC hW (l:=ws.l) (tg:=ws.tag) w2 hkw H
 have z0:((0:Int) == 0)=true:=rfl;have z3:((3:Int) == 0)=false:=rfl;have z00:(((0:Nat):Int) == 0)=true:=rfl;have z33:((3:Int) == 3)=true:=rfl;rcases EI l.l with ⟨e1,h1,k1⟩ | ⟨h1,k1,k2⟩
 ·rw [h1] at v1
  rcases q8 ws.l with ⟨e2,h2,k3,_⟩ | ⟨h2,k3,k4⟩
  ·rw [h2] at v7
   simp (maxSteps:=3000000) (maxDischargeDepth:=6) +contextual -implicitDefEqProofs only [amC M,↓amD,Nat.reduceBEq,Nat.reduceAdd,env,ao,bc,amG,AV.cell,Nat.reduceMul,Nat.reduceLeDiff,s1,s2,fo,c1,c2,v7,k3,v1,k1,z00,hL,aT,List.getElem?_cons_zero,List.getElem?_cons_succ,Bool.not_true,hp_self]
  ·rw [h2] at v7
   have hsm:wtS ws.l≤1000000:=Ac c2 (qX k3).1;have v2:=fun H=>vw M hB hS hD hU hN hW k3 k4 hsm H
   have m1:=fun H=>vp M hW (l:=ws.l) (ta:=.any) (tb:=ws.tag) hws.len H
   have cp:=fun H=>mb M hB (l:=⟨.any,jw ws.l⟩) (by dsimp only;omega) (fun x hx=>by have:=C0 k3 x hx;omega) H
   dsimp only at cp;rw [(xV k3 k4).1] at cp;simp (maxSteps:=3000000) (maxDischargeDepth:=6) +contextual -implicitDefEqProofs only [amC M,↓amD,Nat.reduceBEq,Nat.reduceAdd,env,ao,bc,amG,AV.cell,Nat.reduceMul,Nat.reduceLeDiff,s1,s2,fo,c1,c2,v7,z0,v2,m1,cp,v1,k1,z00,hL,aT,List.getElem?_cons_zero,List.getElem?_cons_succ,Bool.not_true,hp_self]
 ·rw [h1] at v1
  have hck:=Kj k1 k2;have htot:=BG (zS k1);have hwt:=GZ (bK l.l);have ha:∀ n,Wk n (.slice .any 1 ((bK l.l).map bh)) (.slice .any 1 ((bK l.l).map bh)):=fun n=>wk_slice trivial (En n _)
  have hwm:∀ w∈bK l.l,w.length≤1000000:=fun w hw=>by have:=CR hw;omega
  have v3:=fun H=>rn M hB hS hX hD hU hW (l:=bK l.l) (tg:=.any) (fun _=>hwm) ha H
  rw [hck] at v3;have v8:=fun H=>sZ M hB hS hX hD hU hC hW (l:=bK l.l) (tg:=.any) (fun _=>⟨by omega,hwm⟩) ha H
  have m2:=fun H=>vp M hW (l:=bK l.l) (ta:=.any) (tb:=.any) (by simp only [bJ];omega) H
  rcases q8 (bK l.l) with ⟨e3,h3,k5,k6⟩ | ⟨h3,k5,k6⟩
  ·rw [h3,k6 hck] at v8
   rcases q8 ws.l with ⟨e2,h2,k3,_⟩ | ⟨h2,k3,k4⟩
   ·rw [h2] at v7
    simp (maxSteps:=3000000) (maxDischargeDepth:=6) +contextual -implicitDefEqProofs only [amC M,↓amD,Nat.reduceBEq,Nat.reduceAdd,env,ao,bc,amG,AV.cell,Nat.reduceMul,Nat.reduceLeDiff,s1,s2,fo,c1,c2,v7,k3,v1,z0,v3,v8,z3,z33,hL,aT,List.getElem?_cons_zero,List.getElem?_cons_succ,Bool.not_true,hp_self]
   ·rw [h2] at v7
    have hsm:wtS ws.l≤1000000:=Ac c2 (qX k3).1;have v2:=fun H=>vw M hB hS hD hU hN hW k3 k4 hsm H
    have m1:=fun H=>vp M hW (l:=ws.l) (ta:=.any) (tb:=ws.tag) hws.len H
    have cp:=fun H=>mb M hB (l:=⟨.any,jw ws.l⟩) (by dsimp only;omega) (fun x hx=>by have:=C0 k3 x hx;omega) H
    dsimp only at cp;rw [(xV k3 k4).1] at cp;simp (maxSteps:=3000000) (maxDischargeDepth:=6) +contextual -implicitDefEqProofs only [amC M,↓amD,Nat.reduceBEq,Nat.reduceAdd,env,ao,bc,amG,AV.cell,Nat.reduceMul,Nat.reduceLeDiff,s1,s2,fo,c1,c2,v7,z0,v2,m1,cp,v1,v3,v8,z3,z33,hL,aT,List.getElem?_cons_zero,List.getElem?_cons_succ,Bool.not_true,hp_self]
  ·rw [h3] at v8
   have v9:=fun H=>vw M hB hS hD hU hN hW k5 k6 (by omega) H
   rcases q8 ws.l with ⟨e2,h2,k3,_⟩ | ⟨h2,k3,k4⟩
   ·rw [h2] at v7
    simp (maxSteps:=3000000) (maxDischargeDepth:=6) +contextual -implicitDefEqProofs only [amC M,↓amD,Nat.reduceBEq,Nat.reduceAdd,env,ao,bc,amG,AV.cell,Nat.reduceMul,Nat.reduceLeDiff,s1,s2,fo,c1,c2,v7,k3,v1,z0,v3,v8,v9,m2,hL,aT,List.getElem?_cons_zero,List.getElem?_cons_succ,Bool.not_true,hp_self]
   ·rw [h2] at v7
    have hsm:wtS ws.l≤1000000:=Ac c2 (qX k3).1;have v2:=fun H=>vw M hB hS hD hU hN hW k3 k4 hsm H
    have m1:=fun H=>vp M hW (l:=ws.l) (ta:=.any) (tb:=ws.tag) hws.len H
    have cp:=fun H=>mb M hB (l:=⟨.any,jw ws.l⟩) (by dsimp only;omega) (fun x hx=>by have:=C0 k3 x hx;omega) H
    dsimp only at cp;rw [(xV k3 k4).1] at cp;simp (maxSteps:=3000000) (maxDischargeDepth:=6) +contextual -implicitDefEqProofs only [amC M,↓amD,Nat.reduceBEq,Nat.reduceAdd,env,ao,bc,amG,AV.cell,Nat.reduceMul,Nat.reduceLeDiff,s1,s2,fo,c1,c2,v7,z0,v2,m1,cp,v1,v3,v8,v9,m2,hL,aT,List.getElem?_cons_zero,List.getElem?_cons_succ,Bool.not_true,hp_self]
end
section
open Go.ChangeShapes Go.WideShapes
structure xW (P:Program):Prop where
 u_api_PieceKind:P.underlying m7=some (.int .u8)
 c_api_PieceKind:P.cellsOf m7=1
 u_string:P.underlying aG=some .string
 c_string:P.cellsOf aG=1
 u_bool:P.underlying Cv=some .bool
 c_bool:P.cellsOf Cv=1
 f_Piece:fieldsOf P ae=some [(0,m7),(1,aG),(2,Cv)]
 c_Piece:P.cellsOf ae=3
 u_sl_Piece:P.underlying aj=some (.slice ae)
 c_sl_Piece:P.cellsOf aj=1
 y_Piece:Nat.blt 0 (P.bytesOf ae)=true
 u_sl_string:P.underlying bb=some (.slice aG)
 c_sl_string:P.cellsOf bb=1
 y_string:Nat.blt 0 (P.bytesOf aG)=true
section
variable{P:Program}{W:World}{G:Nat→Option (List AV)}
theorem FV(h:xW P):og P W G ae ah.row (ah.ok 0):=
 Cn h.f_Piece h.c_Piece (sB (Lq h.u_api_PieceKind) h.c_api_PieceKind (sB (Bl h.u_string) h.c_string (sB (Fu h.u_bool) h.c_bool (Fv _)))) (fun a=>⟨a.1,a.2.1,a.2.2.1⟩) (fun a=>rfl) (fun a ha=>⟨ha.2.1⟩)
theorem AZ(h:xW P):og P W G aj (fun s:Sl ah=>[.slice s.tag 3 (s.l.map ah.row)]) (fun s=>s.ok 0 (ah.ok 0)):=
 wU h.u_sl_Piece h.c_Piece (by decide) (Gl h.y_Piece) (fun _=>by simp only [bk]) (FV h)
theorem Ae(h:xW P):og P W G bb (fun s:Sl Str=>[.slice s.tag 1 (s.l.map bh)]) (fun s=>s.ok 0 fun s=>s.length≤bJ):=
 wU h.u_sl_string h.c_string (by decide) (Gl h.y_string) (fun _=>rfl) (Bl h.u_string)
end
end
section
open Go.Shelf Go.RowKit Go.Lib Go.Proofs
def Af:Go.Shelf.Ren:=⟨fun | 197=>100 | 260=>122 | n=>n,fun | 9=>9 | 21=>21 | 3=>3 | 4=>4 | 5=>5 | 105=>141 | 119=>197 | 0=>0 | 46=>198 | 139=>201 | 138=>200 | n=>n,fun | 3=>0 | 4=>1 | n=>n⟩
theorem Kl:Go.Proofs.Lays.n197 Tryz.prog Af where
 mixed:=by kernel_rfl
 f197:=Tryz.func100.trans (congrArg some (by kernel_rfl))
 f260:=Tryz.func122.trans (congrArg some (by kernel_rfl))
 t0:=Tryz.underlying0
 a0:=Tryz.isAgg0
 z0:=Tryz.sizeOf0
 v0:=Tryz.zeroValue0
 t3:=Tryz.underlying3
 a3:=Tryz.isAgg3
 z3:=Tryz.sizeOf3
 v3:=Tryz.zeroValue3
 t4:=Tryz.underlying4
 a4:=Tryz.isAgg4
 z4:=Tryz.sizeOf4
 v4:=Tryz.zeroValue4
 t5:=Tryz.underlying5
 a5:=Tryz.isAgg5
 z5:=Tryz.sizeOf5
 v5:=Tryz.zeroValue5
 t9:=Tryz.underlying9
 a9:=Tryz.isAgg9
 z9:=Tryz.sizeOf9
 v9:=Tryz.zeroValue9
 t21:=Tryz.underlying21
 a21:=Tryz.isAgg21
 z21:=Tryz.sizeOf21
 v21:=Tryz.zeroValue21
 t46:=Tryz.underlying198
 a46:=Tryz.isAgg198
 z46:=Tryz.sizeOf198
 v46:=Tryz.zeroValue198
 t105:=Tryz.underlying141
 a105:=Tryz.isAgg141
 z105:=Tryz.sizeOf141
 v105:=Tryz.zeroValue141
 t119:=Tryz.underlying197
 a119:=Tryz.isAgg197
 z119:=Tryz.sizeOf197
 t138:=Tryz.underlying200
 a138:=Tryz.isAgg200
 z138:=Tryz.sizeOf200
 v138:=Tryz.zeroValue200
 t139:=Tryz.underlying201
 a139:=Tryz.isAgg201
 z139:=Tryz.sizeOf201
 v139:=Tryz.zeroValue201
 g3:=by kernel_rfl
 g4:=by kernel_rfl
theorem FW:∀ args w,(callFunc 100 args).run Tryz.prog w = .ok (.enter 100 args) w:=enters_of Tryz.func100 (by kernel_rfl) rfl
theorem Ii:∀ (s:ByteArray) (w:World),Lib.Utf8Tabs 0 1 w→Calls Tryz.prog 100 #[.string s] w fun e w'=>e = .returned (.tuple #[.int .i32 (Lib.decodeGo s).1,.int .i64 (Lib.decodeGo s).2])∧Below w.heap.size w w':=fun s w hT=>Any.utf8_DecodeRuneInString Kl s w hT
theorem Ij {W:World} (h3:VarReads Tryz.prog W "unicode/utf8.first" firstData) (h4:VarReads Tryz.prog W "unicode/utf8.acceptRanges" acceptData):Lib.Utf8Tabs 0 1 W:=
 utf8Tabs_of_readsT (ρ:=Af) { Kl with } ⟨by kernel_rfl,by kernel_rfl,by kernel_rfl,by kernel_rfl,by kernel_rfl,by kernel_rfl,by kernel_rfl⟩ h3 h4
end
section
open Go.Proofs
def Km:List (Nat×AFn):=[(5,eU),(6,jG),(7,cq),(8,dC),(12,eO),(13,bM),(14,lK),(15,b5),(16,cR),(17,mM),(21,lX),(22,dV)]
theorem Ns:kZ (cB Tryz.prog G0) Km:=by repeat' first | (unfold cB;kernel_rfl) | exact trivial | refine ⟨?_, ?_⟩
def Kn:List (Nat×AFn):=[(23,jh),(24,sG),(25,jH),(26,wX),(27,mN),(37,nI),(38,fx),(39,kg),(43,lf),(44,dG),(45,oz),(46,nJ)]
theorem Nt:kZ (cB Tryz.prog G0) Kn:=by repeat' first | (unfold cB;kernel_rfl) | exact trivial | refine ⟨?_, ?_⟩
def Ko:List (Nat×AFn):=[(47,jD),(48,jE),(49,kh),(50,iB),(51,cS),(52,lL),(53,lM),(54,my),(55,qJ),(56,ny),(57,kF),(61,ij)]
theorem Nu:kZ (cB Tryz.prog G0) Ko:=by repeat' first | (unfold cB;kernel_rfl) | exact trivial | refine ⟨?_, ?_⟩
def Kq:List (Nat×AFn):=[(64,mA),(75,ko),(76,iL),(77,fh),(78,mB),(80,jj),(81,lN),(82,jN),(83,ik),(84,dW),(85,fK),(88,sI)]
theorem Nv:kZ (cB Tryz.prog G0) Kq:=by repeat' first | (unfold cB;kernel_rfl) | exact trivial | refine ⟨?_, ?_⟩
def Kr:List (Nat×AFn):=[(89,gH),(90,iN),(91,iO),(92,ll),(93,dN),(94,dO),(95,ln),(96,nz),(97,nK),(98,eB),(99,kp),(103,cu)]
theorem Nw:kZ (cB Tryz.prog G0) Kr:=by repeat' first | (unfold cB;kernel_rfl) | exact trivial | refine ⟨?_, ?_⟩
def Ks:List (Nat×AFn):=[(104,fV),(105,fW),(114,cf),(115,oE),(118,lq),(119,lO),(120,mP),(121,fX),(125,fY),(126,cU),(127,eD),(128,cV)]
theorem Nx:kZ (cB Tryz.prog G0) Ks:=by repeat' first | (unfold cB;kernel_rfl) | exact trivial | refine ⟨?_, ?_⟩
def Ku:List (Nat×AFn):=[(129,b7),(130,b8),(144,bu),(148,du),(149,b9),(151,jn),(153,ga),(154,dH)]
theorem Ny:kZ (cB Tryz.prog G0) Ku:=by repeat' first | (unfold cB;kernel_rfl) | exact trivial | refine ⟨?_, ?_⟩
def Kw:List (Nat×List (Nat×AFn)):=[(22,Km),(46,Kn),(61,Ko),(88,Kq),(103,Kr),(128,Ks),(154,Ku)]
def Of(f:FuncId):Option AFn:=DO Kw f
theorem L9:∀ f af,Of f=some af→cB Tryz.prog G0 f af:=fun f af h=>yW (show Ci _ Kw from ⟨Ns,Nt,Nu,Nv,Nw,Nx,Ny,trivial⟩) h
def Nz(f:FuncId)(args:List AV)(H:List AObj):Option Out:=
 match args with
 |[]=>bif Nat.beq f aX then some (.ret (.bool true),H) else none
 |[.str s]=>bif Nat.beq f bq then some (.ret (.tuple [.int .i32 ((xc s).1:Nat),.int .i64 ((xc s).2:Nat)]),H) else none
 |_=>Lu f args H
theorem Ma{f:FuncId}{args:List AV}{H H':List AObj}{r:nC}(h:Nz f args H=some (r,H')):cg Tryz.prog G0 f args H fun r2 H2=>r2=r∧H2=H':=by
 unfold Nz at h;split at h
 ·cases h1:Nat.beq f aX with
  |true=>rw [h1] at h;cases h;rw [Nat.eq_of_beq_eq_true h1];exact JA H
  |false=>rw [h1] at h;cases h
 ·rename_i s
  cases h1:Nat.beq f bq with
  |true=>rw [h1] at h;cases h;rw [Nat.eq_of_beq_eq_true h1];exact Lo rfl FW Ii s H
  |false=>rw [h1] at h;cases h
 ·exact Gq h
noncomputable def EN:aN := { P:=Tryz.prog,G:=G0,fn:=Of,orc:=Nz,dfn:=fun _=>none,seq:=Lw,sar:=fun _=>1 }
theorem Og:EN.Ok:=⟨Gr,fun f af h=>L9 f af h,(fun _ _ _ h=>by cases h),(fun _ _ _ _ _ h=>by cases h),fun _ _ _ _ _ h=>Ma h,(fun _ _ _ h=>by cases h),Gs⟩
end
end Go.Am
