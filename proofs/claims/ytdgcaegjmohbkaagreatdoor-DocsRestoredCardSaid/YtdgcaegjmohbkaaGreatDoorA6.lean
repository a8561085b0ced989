import Derived.Test.YtdgcaegjmohbkaaGreatDoorA5
/-
  Part 6 of the tool: an abstract machine over the model, proved sound, and what it says of the functions that the law reaches. Condition: none but those that each theorem names.
-/
set_option linter.unusedVariables false
set_option linter.unusedSimpArgs false
set_option maxRecDepth 100000
set_option maxHeartbeats 4000000
namespace Go.Am
open Go.RowKit
section
attribute [local congr] aA bo aM aC aL aG aD aq au aH aI
variable{E:bb}(M:bO bU E)
structure IA (E:bb):Prop where
 seq:E.seq fJ=wP
 sar:E.sar fJ=1
theorem Qs{α:Type}{row:α→List AV}{l:List α}{x:α}{r:List AV}{sz bytes t:Nat}{e:TypeId}{H:List AObj}(ht:H[t]?=some (.tok (l.length*sz) e))(h1:r.length=sz)(h2:r.all AV.cell=true)(h3:r.map AV.strip=row x)
  (hl:(l.length+1)*bytes≤140737488355328) (hl2:l.length+1≤4611686018427387904) :
  rap false H e sz bytes false (.slice (.own t) sz (l.map row)) (.slice .full sz [r])=some (.slice (.own t) sz ((l++[x]).map row),H.set t (.tok ((l++[x]).length*sz) e)):=by
 simp only [rap,qL,kQ,List.length_map,List.length_cons,List.length_nil,Nat.zero_add,or_true,if_true,hl,hl2,kC h1 h2,and_true,true_and,ht,List.map_cons,List.map_nil,h3,List.map_append,List.length_append,Nat.add_mul,Nat.one_mul];rw [Nat.add_mul,Nat.one_mul] at hl;rw [if_pos hl]
theorem Rp{sz bytes:Nat}{e:TypeId}{r:List AV}(H:List AObj)(h1:r.length=sz)(h2:r.all AV.cell=true)(hb:bytes≤140737488355328) :
  rap false H e sz bytes false (.slice .nil sz []) (.slice .full sz [r])=some (.slice (.own H.length) sz [r.map AV.strip],H++[.tok sz e]):=by
 simp only [rap,qL,kQ,List.length_cons,List.length_nil,Nat.zero_add,or_true,if_true,kC h1 h2,and_true,true_and,List.map_cons,List.map_nil,Nat.one_mul];rw [if_pos ⟨hb,by omega⟩];rfl
theorem IB(hU:jf E){l:List ae}{t:Tag}(H:List AObj):M.run lB [.slice t 3 (l.map ae.row)] H=some (.ret (.fn (.func fJ) [] [.ptr H.length 0]),H++[.cells [.slice t 3 (l.map ae.row)] al]):=by
 rw [bI M hU.docs_units rfl (c:=rU) rfl,rU];simp (maxSteps:=3000000) (maxDischargeDepth:=6) +contextual -implicitDefEqProofs only [amC M,↓amD,Nat.reduceBEq,Nat.reduceAdd,env,aj,EL,amG,AV.cell,Nat.reduceMul,Nat.reduceLeDiff]
theorem yR:∀ l:List ae,qT (l.map ae.row)=some ((unL l).map fun u=>[.agg u.row])
 |[]=>rfl
 |x::l=>by
  rw [List.map_cons,show ae.row x=[.int .u8 x.kind,.str x.text,.bool x.car] from rfl,qT,yR l];show _=some ((unP x++unL l).map _);rw [List.map_append];dsimp only
  by_cases h5:x.kind=5
  ·rw [if_pos h5,unP,h5];rfl
  ·have e5:(x.kind == 5)=false:=by simpa using h5
   rw [if_neg h5,unP,e5,sel_false]
   by_cases h1:x.kind=1
   ·rw [if_pos h1,h1]
    show _=some (((dv x.text).map unR).map _++_);rw [DB,List.map_map,List.map_map];rfl
   ·have e1:(x.kind == 1)=false:=by simpa using h1
    rw [if_neg h1,e1];rfl
def uX(b:Nat):List Un→List AObj
 |[]=>[.cells [.slice .nil 2 []] dF]
 |x::l=>.cells [.slice (.own (b+2)) 2 ((x::l).map Un.row)] dF :: .cells x.row aZ :: .tok ((x::l).length*2) aZ::l.map fun u=>.cells u.row aZ
theorem Pn(H:List AObj)(b:Nat)(l:List Un):vt (H++uX b []) (H++uX b l)=true:=Gi H (by
 have h:∀ l:List Un,vt [] (l.map fun u=>AObj.cells u.row aZ)=true:=fun l=>by
  induction l with
  |nil=>rfl
  |cons x l ih=>simpa [vt,AA] using ih
 cases l with
 |nil=>rfl
 |cons x l=>simpa [uX,vt,AA] using h l)
theorem JD{H:List AObj}{e:Env}(he2:dZ e 2 = .ptr H.length 0):∀ (xs st:List Un),st.length+xs.length≤1000000 →
  iq bU M.go (mZ aK) [7] [[⟨some 5,none,.op (.nw [.int .i32 0,.bool false] aZ)⟩,⟨none,none,.op (.st 2 (.t 5) (.t 7))⟩]] b5 e [] (H++uX H.length []) (xs.map fun u=>[.agg u.row]) (H++uX H.length st)=some (none,H++uX H.length (st++xs))
 |[],st,_=>by rw [List.append_nil];rfl
 |x::xs,st,hb=>by
  have q1:(mZ aK).dfr=some ([],.c .unk,.bad):=rfl;have q2:(mZ aK).mode = .keep:=rfl;have q3:(mZ aK).res=[]:=rfl;have ih:=JD he2 xs (st++[x]) (by simp at hb ⊢;omega);rw [List.append_assoc] at ih;rw [List.map_cons];refine My ?_ (Pn H H.length (st++[x])) (fun _ h=>by cases h) ih;generalize mZ aK=rf at q1 q2 q3;cases st with
  |nil=>
   have gk:∀ L:List AObj,(H++L)[H.length+1]?=L[1]? := fun L=>hp_getk H L 1
   have sk:∀ (L:List AObj) (x:AObj),(H++L).set (H.length+1) x=H++L.set 1 x:=fun L x=>hp_setk H L 1 x
   have ap:rap false (H++[.cells [.slice .nil 2 []] dF,.cells x.row aZ]) aZ 2 8 false (.slice .nil 2 []) (.slice .full 2 [x.row])=some (.slice (.own (H.length+2)) 2 [x.row],H++[.cells [.slice .nil 2 []] dF,.cells x.row aZ,.tok 2 aZ]):=by
    rw [Rp (sz:=2) (bytes:=8) (r:=x.row) _ rfl rfl (by omega)];simp [Un.row,AV.strip]
   simp only [List.nil_append,uX,vk,List.map_cons,List.map_nil,List.cons_append,kv_cons,kv_nil,b5,List.length_cons,List.length_nil,Nat.zero_add,Nat.one_mul] at ap ⊢;simp (maxSteps:=3000000) (maxDischargeDepth:=6) +contextual -implicitDefEqProofs only [amC M,↓amD,Nat.reduceBEq,Nat.reduceAdd,env,aj,cu,amG,AV.cell,Nat.reduceMul,Nat.reduceLeDiff,q1,q2,q3,he2,ap,qUn,gk,sk,List.getElem?_cons_succ,List.set_cons_succ]
  |cons y st=>
   have hG:H++uX H.length (y::st)=H++(.cells [.slice (.own (H.length+2)) 2 ((y::st).map Un.row)] dF :: .cells y.row aZ :: .tok ((y::st).length*2) aZ::st.map fun u=>.cells u.row aZ):=rfl;obtain ⟨G2,hG2⟩:∃ G2,G2=H++(.cells [.slice (.own (H.length+2)) 2 ((y::st).map Un.row)] dF :: .cells y.row aZ :: .tok ((y::st++[x]).length*2) aZ::st.map fun u=>.cells u.row aZ):=⟨_,rfl⟩
   have gg:∀ X,(H++uX H.length (y::st)++X)[H.length]?=some (.cells [.slice (.own (H.length+2)) 2 ((y::st).map Un.row)] dF):=fun X=>by rw [hG,List.append_assoc,aJ];rfl
   have gg2:∀ X,(G2++X)[H.length]?=some (.cells [.slice (.own (H.length+2)) 2 ((y::st).map Un.row)] dF):=fun X=>by rw [hG2,List.append_assoc,aJ];rfl
   have ap:∀ X,rap false (H++uX H.length (y::st)++X) aZ 2 8 false (.slice (.own (H.length+2)) 2 ((y::st).map Un.row)) (.slice .full 2 [x.row])=some (.slice (.own (H.length+2)) 2 ((y::st++[x]).map Un.row),G2++X):=fun X=>by
    rw [hG2,hG,Qs (row:=Un.row) (l:=y::st) (x:=x) (r:=x.row) (sz:=2) (bytes:=8) (by rw [List.append_assoc,hp_getk];rfl) rfl rfl rfl (by simp at hb ⊢;omega) (by simp at hb ⊢;omega),List.append_assoc,List.append_assoc,hp_setk];rfl
   have hs:(G2++[AObj.cells x.row aZ]).set H.length (AObj.cells [.slice (.own (H.length+2)) 2 ((y::st++[x]).map Un.row)] dF)=H++uX H.length (y::st++[x]):=by
    rw [hG2,List.append_assoc,hp_set0,List.cons_append,List.set_cons_zero];simp [uX]
   clear hG hG2;simp only [vk,List.map_cons,List.map_nil,List.cons_append,List.nil_append,kv_cons,kv_nil,b5] at gg gg2 ap hs ⊢;generalize H++uX H.length (y::st)=G at *
   generalize H++uX H.length (y::(st++[x]))=G3 at *
   simp (maxSteps:=3000000) (maxDischargeDepth:=6) +contextual -implicitDefEqProofs only [amC M,↓amD,Nat.reduceBEq,Nat.reduceAdd,env,aj,cu,amG,AV.cell,Nat.reduceMul,Nat.reduceLeDiff,q1,q2,q3,he2,ap,gg,gg2,hs,qUn,aJ]
theorem GM(n:Nat)(l:List Un):gH n (l.map Un.row):=by
 rw [rowsWk_map];exact fun _ _=>⟨wk_int _ _ _,wk_bool _ _,trivial⟩
theorem C2(hU:jf E)(hN:IA E){l:List ae}{t:Tag}{H:List AObj}{id:Nat}{T:TypeId}(hl:l.length≤1000000)(hu:(unL l).length≤1000000)(hid:H[id]?=some (.cells [.slice t 3 (l.map ae.row)] T)):M.run dh [.slice .nil 2 [],.fn (.func fJ) [] [.ptr id 0]] H=some (.ret (.slice .any 2 ((unL l).map Un.row)),H):=by
 have hs:E.seq fJ [.ptr id 0] (H++uX H.length [])=some ((unL l).map fun u=>[.agg u.row],[]):=by
  rw [hN.seq];have h1:(H++uX H.length [])[id]?=some (.cells [.slice t 3 (l.map ae.row)] T):=bD hid;have h2:Nat.ble (l.map ae.row).length 9223372036854775807=true:=by rw [Nat.ble_eq,List.length_map];omega
  simp only [wP,h1,yR,h2,cond_true]
 rw [bI M hU.slices_AppendSeq_docs_unit_docs_unit rfl (c:=dt) rfl,dt]
 have he:=fun (k:List Fra) (e:Env) (H0:List AObj) (he2:dZ e 2 = .ptr H.length 0)=>by
  have hrr:=JD M (H:=H) he2 (unL l) [] (by simpa using hu);rw [List.nil_append] at hrr;exact QT (M:=M) (ps:=[7]) (fn:=aK) (k:=k) (a:=e) (H0:=H0) _ hs hN.sar hrr
 cases hq:unL l with
 |nil=>
  rw [hq] at he;simp only [uX] at he;simp (maxSteps:=3000000) (maxDischargeDepth:=6) +contextual -implicitDefEqProofs only [amC M,↓amD,Nat.reduceBEq,Nat.reduceAdd,env,aj,cu,amG,AV.cell,Nat.reduceMul,Nat.reduceLeDiff,he,rfnC_none,go_rfn,fI,aJ,cut_app,hp_take]
 |cons x xs=>
  rw [hq] at he;have hh:=handV_drop (cut_app H (uX H.length (x::xs))) (wk_any (esz:=2) (tag:=.own (H.length+2)) (GM H.length (x::xs)));simp only [uX,List.length_cons,hp_take,anyV_slice] at he hh;simp (maxSteps:=3000000) (maxDischargeDepth:=6) +contextual -implicitDefEqProofs only [amC M,↓amD,Nat.reduceBEq,Nat.reduceAdd,env,aj,cu,amG,AV.cell,Nat.reduceMul,Nat.reduceLeDiff,he,rfnC_none,go_rfn,aJ,hh,hp_take]
theorem GN(hU:jf E)(hN:IA E){l:List ae}{t:Tag}{H:List AObj}{id:Nat}{T:TypeId}(hl:l.length≤1000000)(hu:(unL l).length≤1000000)(hid:H[id]?=some (.cells [.slice t 3 (l.map ae.row)] T)):M.run ej [.fn (.func fJ) [] [.ptr id 0]] H=some (.ret (.slice .any 2 ((unL l).map Un.row)),H):=by
 rw [bI M hU.slices_Collect_docs_unit rfl (c:=fN) rfl,fN];have h1:=C2 M hU hN hl hu hid;have hh:=handV_drop (cut_refl H) (wk_any (esz:=2) (tag:=.any) (GM H.length (unL l)));simp only [anyV_slice,hp_self] at hh;simp (maxSteps:=3000000) (maxDischargeDepth:=6) +contextual -implicitDefEqProofs only [amC M,↓amD,Nat.reduceBEq,Nat.reduceAdd,env,aj,pa,h1,hh]
end
section
attribute [local congr] aA bo aM aC aL aG aD aq au aH aI
variable{E:bb}(M:bO bU E)
theorem dpi(hU:jf E){rs:List Brk}{u:List Un}(hu:u.length≤1000000)(hr0:rs.length≤bH)(hr:∀ r∈rs,r.bef.length≤1000000∧r.aft.length≤1000000){H H0:List AObj}{a:Nat}(ha:a≤u.length){o:List Int}(ho:o.length≤1000000){k:List Fra}{R:Option Out}
  (hk:∀ X,M.go fy H0 k (kv [(0,.slice .any 3 (rs.map ed)),(5,.slice .any 2 (u.map Un.row)),(6,.slice (.own H.length) 1 ((o++sel (ye u a rs) [(a:Int)] []).map cK)),(7,.int .i64 a)]) (H++(.tok ((o++sel (ye u a rs) [(a:Int)] []).length*1) mh::X))=R) :
  ∀ (n i:Nat),i+n=rs.length→ye u a (rs.drop i)=ye u a rs →
  M.go fy H0 (.c fk :: .lp ⟨(some [0,5,6,7,19,20,21]),[(6,1,mh)],true⟩ fk (H++[.tok (o.length*1) mh]) :: .blk 2 :: .c (.lv [0,5,6,7])::k) (kv [(0,.slice .any 3 (rs.map ed)),(5,.slice .any 2 (u.map Un.row)),(6,.slice (.own H.length) 1 (o.map cK)),(7,.int .i64 a),(19,.slice .any 3 (rs.map ed)),(20,.int .i64 rs.length),(21,.int .i64 i)]) (H++[.tok (o.length*1) mh])=R
 |0,i,h,hb=>by
  have e:i=rs.length:=by omega
  subst e;have h1:=hk [];rw [List.drop_length] at hb;rw [← hb,ye,sel_false,List.append_nil] at h1;simp only [kv_cons,kv_nil] at h1;rw [ak M fk.eq_1];simp (maxSteps:=3000000) (maxDischargeDepth:=6) +contextual -implicitDefEqProofs only [amC M,↓amD,Nat.reduceBEq,Nat.reduceAdd,env,aj,fA,Nat.lt_irrefl,h1]
 |n+1,i,h,hb=>by
  have hi:i<rs.length:=by omega
  have hx:rs[i]?=some rs[i]:=List.getElem?_eq_getElem hi;have hd:(rs.drop i)=rs[i]::rs.drop (i+1):=List.drop_eq_getElem_cons hi;have hm1:=hr _ (List.getElem_mem hi);have hf:=fun H=>E6 M hU (u:=u) (t:=.any) (by simp only [bH];omega) rs[i] hm1.1 hm1.2 (fun n=>wk_slice trivial (GM n u)) ha H
  have hwi:=cV (n:=rs.length) hi hr0;have hir:=a8 (row:=ed) (tag:=.any) (sz:=3) (k:=.i64) hi;have w1:Wk (H.length+1) (.slice .any 3 (rs.map ed)) (.slice .any 3 (rs.map ed)):=wk_slice trivial (BS _ _);have w2:Wk (H.length+1) (.slice .any 2 (u.map Un.row)) (.slice .any 2 (u.map Un.row)):=wk_slice trivial (GM _ _);have w3:Wk (H.length+1) (.slice (.own H.length) 1 (o.map cK)) (.slice (.own H.length) 1 (o.map cK)):=wk_slice (by simp [wN]) (E4 _ _)
  have gk:∀ L:List AObj,(H++L)[H.length+1]?=L[1]? := fun L=>hp_getk H L 1
  have sk:∀ (L:List AObj) (x:AObj),(H++L).set (H.length+1) x=H++L.set 1 x:=fun L x=>hp_setk H L 1 x
  rw [hd,ye] at hb;cases hq:JA u a rs[i] with
  |false=>
   rw [hq,sel_false] at hb;have ih:=dpi hU hu hr0 hr ha ho hk n (i+1) (by omega) hb;simp only [kv_cons,kv_nil] at ih;rw [ak M fk.eq_1];simp (maxSteps:=3000000) (maxDischargeDepth:=6) +contextual -implicitDefEqProofs only [amC M,↓amD,Nat.reduceBEq,Nat.reduceAdd,env,aj,fA,amG,AV.cell,Nat.reduceMul,Nat.reduceLeDiff,hi,hx,hf,hq,hwi,hir,Pj,ih,w1,w2,w3,gk,sk,xf,uk,List.getElem?_cons_succ,List.set_cons_succ]
  |true=>
   rw [hq,sel_true] at hb;have h1:=fun X=>hk X
   rw [← hb] at h1;cases hz:rs[i].brk with
   |true=>
    rw [hz,sel_true] at h1;have ap:=fun L=>zP (row:=cK) (l:=o) (x:=(a:Int)) (r:=[.int .i64 (a:Int)]) (sz:=1) (bytes:=8) (e:=mh) H L rfl rfl rfl (by omega) (by omega)
    simp only [kv_cons,kv_nil] at h1;rw [ak M fk.eq_1];simp (maxSteps:=3000000) (maxDischargeDepth:=6) +contextual -implicitDefEqProofs only [amC M,↓amD,Nat.reduceBEq,Nat.reduceAdd,env,aj,fA,amG,AV.cell,Nat.reduceMul,Nat.reduceLeDiff,hi,hx,hf,hq,hz,hwi,hir,Pj,ap,h1,gk,sk,List.getElem?_cons_succ,List.set_cons_succ]
   |false=>
    rw [hz,sel_false,List.append_nil] at h1;simp only [kv_cons,kv_nil] at h1;rw [ak M fk.eq_1];simp (maxSteps:=3000000) (maxDischargeDepth:=6) +contextual -implicitDefEqProofs only [amC M,↓amD,Nat.reduceBEq,Nat.reduceAdd,env,aj,fA,amG,AV.cell,Nat.reduceMul,Nat.reduceLeDiff,hi,hx,hf,hq,hz,hwi,hir,Pj,h1,gk,sk,List.getElem?_cons_succ,List.set_cons_succ]
theorem dpo(hU:jf E){rs:List Brk}{u:List Un}(hu:u.length≤1000000)(hr0:rs.length≤bH)(hr:∀ r∈rs,r.bef.length≤1000000∧r.aft.length≤1000000){H H0:List AObj}(k:List Fra) :
  ∀ (n a:Nat) (o:List Int),u.length-a=n→o.length≤a →
  M.go fy H0 (.c iC :: .lp ⟨(some [0,5,6,7]),[(6,1,mh)],true⟩ iC (H++[.tok (o.length*1) mh]) :: .blk 0 :: .c (.lv [6])::k) (kv [(0,.slice .any 3 (rs.map ed)),(5,.slice .any 2 (u.map Un.row)),(6,.slice (.own H.length) 1 (o.map cK)),(7,.int .i64 a)]) (H++[.tok (o.length*1) mh]) =
   M.go fy H0 k (kv [(6,.slice (.own H.length) 1 ((o++E3 u rs n a).map cK))]) (H++[.tok ((o++E3 u rs n a).length*1) mh])
 |0,a,o,h,ho=>by
  have e:¬ a<u.length:=by omega
  rw [ak M iC.eq_1];simp (maxSteps:=3000000) (maxDischargeDepth:=6) +contextual -implicitDefEqProofs only [amC M,↓amD,Nat.reduceBEq,Nat.reduceAdd,env,aj,fA,e,E3,List.append_nil]
 |n+1,a,o,h,ho=>by
  have hi:a<u.length:=by omega
  have hw:=cV (n:=u.length) hi (by simp only [bH];omega);have w1:Wk (H.length+1) (.slice .any 3 (rs.map ed)) (.slice .any 3 (rs.map ed)):=wk_slice trivial (BS _ _);have w2:Wk (H.length+1) (.slice .any 2 (u.map Un.row)) (.slice .any 2 (u.map Un.row)):=wk_slice trivial (GM _ _);have w3:∀ o:List Int,Wk (H.length+1) (.slice (.own H.length) 1 (o.map cK)) (.slice (.own H.length) 1 (o.map cK)):=fun o=>wk_slice (by simp [wN]) (E4 _ _)
  have hol:(sel (ye u a rs) [(a:Int)] []).length≤1:=by cases ye u a rs<;>simp [sel_true,sel_false]
  have ih:=dpo hU hu hr0 hr (H:=H) (H0:=H0) k n (a+1) (o++sel (ye u a rs) [(a:Int)] []) (by omega) (by simp;omega);simp only [kv_cons,kv_nil] at ih;rw [E3,← List.append_assoc];generalize hoo:o++sel (ye u a rs) [(a:Int)] []=oo at ih ⊢;rw [ak M iC.eq_1];simp (maxSteps:=3000000) (maxDischargeDepth:=6) +contextual -implicitDefEqProofs only [amC M,↓amD,Nat.reduceBEq,Nat.reduceAdd,env,aj,fA,hi];have hz:=fun k R hk=>dpi M hU hu hr0 hr (H:=H) (H0:=H0) (a:=a) (by omega) (o:=o) (by omega) (k:=k) (R:=R) hk rs.length 0 (by omega) (by rw [List.drop_zero])
  simp only [kv_cons,kv_nil,Int.ofNat_zero,hoo] at hz;refine hz _ _ fun X => ?_
  simp (maxSteps:=3000000) (maxDischargeDepth:=6) +contextual -implicitDefEqProofs only [amC M,↓amD,Nat.reduceBEq,Nat.reduceAdd,env,aj,fA,hw,ih,w1,w2,w3,xf,uk]
theorem IC(hB:kY E)(hU:jf E)(hN:IA E){rs:List Brk}(hr0:rs.length≤bH)(hr:∀ r∈rs,r.bef.length≤1000000∧r.aft.length≤1000000){l:Sl ae}(hl:l.l.length≤100000)(hu:(unL l.l).length≤1000000)(H:List AObj) :
  M.run mR [.slice .any 3 (rs.map ed),.slice l.tag 3 (l.l.map ae.row)] H=some (.ret (.slice .any 1 ((yg rs l.l).map cK)),H):=by
 rw [bI M hU.docs_places rfl (c:=qq) rfl,qq];have h2:=fun H=>IB M hU (l:=l.l) (t:=l.tag) H
 have h3:=GN M hU hN (l:=l.l) (t:=l.tag) (H:=H++[.cells [.slice l.tag 3 (l.l.map ae.row)] al]) (id:=H.length) (by omega) hu (aJ _ _);have h4:=fun k=>dpo M hU (rs:=rs) (u:=unL l.l) hu hr0 hr (H:=H++[.cells [.slice l.tag 3 (l.l.map ae.row)] al]) (H0:=H) k ((unL l.l).length-1) 1 [] rfl (by simp)
 simp only [kv_cons,kv_nil,List.nil_append,List.length_nil,Nat.zero_mul,List.map_nil,show ((1:Nat):Int)=1 from rfl,List.length_append,List.length_cons,List.append_assoc,List.cons_append,Nat.zero_add] at h4;have hh:=handV_drop (cut_app H [.cells [.slice l.tag 3 (l.l.map ae.row)] al,.tok ((yg rs l.l).length*1) mh]) (wk_any (esz:=1) (tag:=.own (H.length+1)) (E4 H.length (yg rs l.l)));simp only [anyV_slice,hp_take,yg] at hh
 simp (maxSteps:=3000000) (maxDischargeDepth:=6) +contextual -implicitDefEqProofs only [amC M,↓amD,Nat.reduceBEq,Nat.reduceAdd,env,aj,fA,h2,h3,h4,hh,yg]
end
section
attribute [local congr] aA bo aM aC aL aG aD aq au aH aI
variable{E:bb}(M:bO bU E)
def fq(p:Sl ae):List AV:=[.slice p.tag 3 (p.l.map ae.row)]
theorem qPl:(∀ p:Sl ae,bh none (fq p) 0=some (.slice p.tag 3 (p.l.map ae.row)))∧(∀ p:Sl ae,mg 1 (fq p)=some (fq p))∧(∀ p:Sl ae,(fq p).length=1):=⟨fun _=>rfl,fun _=>rfl,fun _=>rfl⟩
def q9(n:Nat):List ae→Nat
 |[]=>n
 |x::l=>if n<5000 then q9 (n+x.text.length) l else n
def xl(n:Nat):List (Sl ae)→Nat
 |[]=>n
 |p::ps=>xl (q9 (n+p.l.length) p.l) ps
def BU(ps:List (Sl ae)):Bool:=decide (2500<xl 0 ps)
theorem E8:∀ (l:List ae) (n:Nat),5000≤n→q9 n l=n
 |[],n,_=>rfl
 |x::l,n,h=>by rw [q9,if_neg (by omega)]
theorem JE:∀ (l:List ae) (n:Nat),(∀ x∈l,x.text.length≤bH)→n<5000→q9 n l≤bH+5000
 |[],n,_,hn=>by rw [q9];simp only [bH];omega
 |x::l,n,h,hn=>by
  rw [q9,if_pos hn];have h1:=h x List.mem_cons_self
  by_cases h2:n+x.text.length<5000
  ·exact JE l (n+x.text.length) (fun y hy=>h y (List.mem_cons_of_mem _ hy)) h2
  ·rw [E8 l _ (by omega)];omega
theorem M9(l:List ae)(n:Nat)(h:∀ x∈l,x.text.length≤bH):q9 n l≤n+bH+5000:=by
 by_cases hn:n<5000
 ·have:=JE l n h hn;omega
 ·rw [E8 l n (by omega)];omega
theorem yh:∀ (l:List ae) (n:Nat),n≤q9 n l
 |[],n=>Nat.le_refl _
 |x::l,n=>by
  rw [q9];split
  ·have:=yh l (n+x.text.length);omega
  ·exact Nat.le_refl _
theorem DH:∀ (ps:List (Sl ae)) (n:Nat),n≤xl n ps
 |[],n=>Nat.le_refl _
 |p::ps,n=>by
  rw [xl];have h1:=yh p.l (n+p.l.length);have h2:=DH ps (q9 (n+p.l.length) p.l);omega
def gR(l:List ae):Nat:=(l.map fun x=>x.text.length).sum
theorem JF:∀ (l:List ae) (n:Nat),q9 n l≤2500→q9 n l=n+gR l
 |[],n,_=>by simp [q9,gR]
 |x::l,n,h=>by
  have h0:n<5000:=by have:=yh (x::l) n;omega
  rw [q9,if_pos h0] at h ⊢;rw [JF l _ h,gR,gR,List.map_cons,List.sum_cons];omega
def Na(ps:List (Sl ae)):Nat:=(ps.map fun p=>p.l.length+gR p.l).sum
theorem JG:∀ (ps:List (Sl ae)) (n:Nat),xl n ps≤2500→xl n ps=n+Na ps
 |[],n,_=>by simp [xl,Na]
 |p::ps,n,h=>by
  rw [xl] at h ⊢;have h0:=DH ps (q9 (n+p.l.length) p.l);rw [JG ps _ h,JF p.l _ (by omega),Na,Na,List.map_cons,List.sum_cons];omega
theorem DI{p:Sl ae}(h:BU [p]=false):p.l.length+gR p.l≤2500:=by
 have h1:xl 0 [p]≤2500:=by have:=of_decide_eq_false h;omega
 have h2:=JG [p] 0 h1;simp only [Na,List.map_cons,List.map_nil,List.sum_cons,List.sum_nil] at h2;omega
theorem rh{l:List ae}{x:ae}(h:x∈l):x.text.length≤gR l:=by
 induction l with
 |nil=>cases h
 |cons y l ih=>
  rw [gR,List.map_cons,List.sum_cons];rcases List.mem_cons.1 h with rfl | h
  ·omega
  ·have:=ih h;unfold gR at this;omega
theorem JH:∀ l:List ae,(unL l).length≤l.length+gR l
 |[]=>by simp [unL]
 |x::l=>by
  show (unP x++unL l).length≤_;have h1:=O7 x;have h2:=JH l;rw [List.length_append,gR,List.map_cons,List.sum_cons,List.length_cons];unfold gR at h2;omega
theorem BV:∀ l:List ae,(b8 l).length≤gR l
 |[]=>by simp [b8]
 |x::l=>by
  have h2:=BV l;rw [b8,List.length_append,gR,List.map_cons,List.sum_cons];unfold gR at h2;cases x.kind == 1
  ·rw [sel_false,List.length_nil];omega
  ·rw [sel_true];omega
theorem lgi{H H0:List AObj}{ps:List (Sl ae)}{tg:Tag}{j:Nat}{p:Sl ae}(hp:ps[j]?=some p)(hj:j<ps.length)(hpl:p.l.length≤bH)(hpt:∀ x∈p.l,x.text.length≤bH)(hc:db H0 H)(k:List Fra):∀ (n i:Nat) (n2:Nat) (hn:n2≤1000000000000000000) (He:List AObj),i+n=(p.l).length →
  M.go dm H0 (.c dA :: .lp ⟨(some [0,3,4,5]),[],false⟩ dA He :: .blk 2 :: .c (.lv [0,3,4])::k) (kv [(0,.slice tg 1 (ps.map fq)),(3,.int .i64 n2),(4,.int .i64 j),(5,.int .i64 i)]) H =
   (M.go dm H0 k (kv [(0,.slice tg 1 (ps.map fq)),(3,.int .i64 (q9 n2 (p.l.drop i):Nat)),(4,.int .i64 j)]) (H))
 |0,i,n2,hn,He,h=>by
  have e:i=(p.l).length:=by omega
  subst e;rw [ak M dA.eq_1];simp (maxSteps:=3000000) (maxDischargeDepth:=6) +contextual -implicitDefEqProofs only [amC M,↓amD,Nat.reduceBEq,Nat.reduceAdd,env,aj,dW,Nat.lt_irrefl,List.drop_length,hp,hpl,qPl,a8 hj,q9]
 |n+1,i,n2,hn,He,h=>by
  have hi:i<(p.l).length:=by omega
  have hx:(p.l)[i]?=some (p.l)[i]:=List.getElem?_eq_getElem hi;have hd:((p.l).drop i)=(p.l)[i]::(p.l).drop (i+1):=List.drop_eq_getElem_cons hi;have hm:(p.l)[i]∈(p.l):=List.getElem_mem hi;have ih:=fun n2 hn He=>lgi (H:=H) (H0:=H0) (ps:=ps) (tg:=tg) (j:=j) (p:=p) (hp:=hp) (hj:=hj) (hpl:=hpl) (hpt:=hpt) hc k n (i+1) n2 hn He (by omega)
  simp only [kv_cons,kv_nil] at ih;have hij:=a8 (row:=fq) (tag:=tg) (sz:=1) (k:=.i64) hj;have hir:=a8 (row:=ae.row) (tag:=p.tag) (sz:=3) (k:=.i64) hi;have hwi:=cV (n:=p.l.length) hi hpl;have hmt:=hpt _ hm
  by_cases h5:n2<5000
  ·have d5:decide ((n2:Int)<5000)=true:=decide_eq_true (by omega)
   have hw2:IntKind.i64.wrap ((n2:Int)+(p.l[i].text.length:Int))=((n2+p.l[i].text.length:Nat):Int):=by rw [bV (by omega) (by simp only [bH] at hmt;omega)];omega
   have ih:=ih (n2+p.l[i].text.length) (by simp only [bH] at hmt;omega);rw [hd,q9,if_pos h5];rw [ak M dA.eq_1];simp (maxSteps:=3000000) (maxDischargeDepth:=6) +contextual -implicitDefEqProofs only [amC M,↓amD,Nat.reduceBEq,Nat.reduceAdd,env,aj,dW,hi,hx,hp,hd,d5,ih,hij,hir,hwi,hw2,qPl,bP]
  ·have d5:decide ((n2:Int)<5000)=false:=decide_eq_false (by omega)
   rw [E8 _ _ (by omega)];rw [ak M dA.eq_1];simp (maxSteps:=3000000) (maxDischargeDepth:=6) +contextual -implicitDefEqProofs only [amC M,↓amD,Nat.reduceBEq,Nat.reduceAdd,env,aj,dW,hi,hx,hp,hd,d5,hij,hir,qPl,bP]
theorem lgo{H H0:List AObj}{ps:List (Sl ae)}{tg:Tag}(hps:ps.length≤100)(hpl:∀ p∈ps,p.l.length≤bH∧∀ x∈p.l,x.text.length≤bH)(hc:db H0 H)(k:List Fra):∀ (n i:Nat) (n2:Nat) (hn:n2≤i*300000000000000) (He:List AObj),i+n=ps.length →
  M.go dm H0 (.c eu :: .lp ⟨(some [0,3,4]),[],false⟩ eu He :: .blk 0 :: .c (.lv [3])::k) (kv [(0,.slice tg 1 (ps.map fq)),(3,.int .i64 n2),(4,.int .i64 i)]) H =
   (M.go dm H0 k (kv [(3,.int .i64 (xl n2 (ps.drop i):Nat))]) (H))
 |0,i,n2,hn,He,h=>by
  have e:i=ps.length:=by omega
  subst e;rw [ak M eu.eq_1];simp (maxSteps:=3000000) (maxDischargeDepth:=6) +contextual -implicitDefEqProofs only [amC M,↓amD,Nat.reduceBEq,Nat.reduceAdd,env,aj,dW,Nat.lt_irrefl,List.drop_length,xl]
 |n+1,i,n2,hn,He,h=>by
  have hi:i<ps.length:=by omega
  have hx:ps[i]?=some ps[i]:=List.getElem?_eq_getElem hi;have hd:(ps.drop i)=ps[i]::ps.drop (i+1):=List.drop_eq_getElem_cons hi;have hm:ps[i]∈ps:=List.getElem_mem hi;have ih:=fun n2 hn He=>lgo (H:=H) (H0:=H0) (ps:=ps) (tg:=tg) (hps:=hps) (hpl:=hpl) hc k n (i+1) n2 hn He (by omega)
  simp only [kv_cons,kv_nil] at ih;have hij:=a8 (row:=fq) (tag:=tg) (sz:=1) (k:=.i64) hi;have hwi:=cV (n:=ps.length) hi (by simp only [bH];omega);have hq:=hpl _ hm;have hq1:ps[i].l.length≤140737488351232:=hq.1;have hw2:IntKind.i64.wrap ((n2:Int)+(ps[i].l.length:Int))=((n2+ps[i].l.length:Nat):Int):=by rw [bV (by omega) (by omega)];omega
  have hb:=M9 ps[i].l (n2+ps[i].l.length) hq.2;have hz:=fun k He=>lgi M (H:=H) (H0:=H0) (ps:=ps) (tg:=tg) (j:=i) (p:=ps[i]) hx hi hq.1 hq.2 hc k ps[i].l.length 0 (n2+ps[i].l.length) (by omega) He (by omega)
  have ih:=ih (q9 (n2+ps[i].l.length) ps[i].l) (by simp only [bH] at hb;omega);simp only [kv_cons,kv_nil,Int.ofNat_zero,List.drop_zero] at hz;rw [hd,xl];rw [ak M eu.eq_1];simp (maxSteps:=3000000) (maxDischargeDepth:=6) +contextual -implicitDefEqProofs only [amC M,↓amD,Nat.reduceBEq,Nat.reduceAdd,env,aj,dW,hi,hx,ih,hz,hij,hwi,hw2,qPl,List.length_map]
theorem Nb(hB:kY E){ps:List (Sl ae)}{tg:Tag}(hps:ps.length≤100)(hpl:∀ p∈ps,p.l.length≤bH∧∀ x∈p.l,x.text.length≤bH)(H:List AObj) :
  M.run gq [.slice tg 1 (ps.map fq)] H=some (.ret (.bool (BU ps)),H):=by
 rw [bI M hB.truchmanlaw01_long rfl (c:=jA) rfl,jA];have h1:=fun k He=>lgo M (tg:=tg) hps hpl (cut_refl H) k ps.length 0 0 (by omega) He (by omega)
 simp only [kv_cons,kv_nil,Int.ofNat_zero,List.drop_zero] at h1;have h2:decide ((2500:Int)<(xl 0 ps:Int))=decide (2500<xl 0 ps):=by rw [Bool.eq_iff_iff];simp;omega
 simp (maxSteps:=3000000) (maxDischargeDepth:=6) +contextual -implicitDefEqProofs only [amC M,↓amD,Nat.reduceBEq,Nat.reduceAdd,env,aj,dW,h1,h2,BU]
theorem Ll(hB:kY E){l:Sl ae}(h:l.ok 0 (ae.ok 0))(H:List AObj):M.run gq [.slice .full 1 [[.slice l.tag.strip 3 (l.l.map ae.row)]]] H=some (.ret (.bool (BU [l])),H):=
 Nb M hB (tg:=.full) (ps:=[⟨l.tag.strip,l.l⟩]) (by simp) (fun p hp=>by
  rw [List.mem_singleton] at hp;subst hp;exact ⟨h.len,fun x hx=>(h.all x hx).text⟩) H
def yi(n:Nat)(x:Brk):Nat:=n+x.bef.length+x.aft.length
def uD(rs:List Brk):Bool:=decide (600<(rs.take 100).foldl yi rs.length)
theorem Lm{α:Type}(l:List α)(n:Nat):∀ k,k<(l.take n).length→l[k]?=(l.take n)[k]? := fun k hk=>by
 rw [List.getElem?_take,if_pos (by rw [List.length_take] at hk;omega)]
theorem Po{n m:Nat}(h:m=min 100 n):(decide (m<n)&&decide ((m:Int)<100))=false:=by
 rw [Bool.eq_false_iff];simp;omega
theorem stl{H H0:List AObj}{b Lf:List Brk}{tg:Tag}(hM:Lf.length=min 100 b.length)(hL:∀ k,k<Lf.length→b[k]?=Lf[k]?)(hb:∀ x∈b,x.bef.length≤bH∧x.aft.length≤bH)(hc:db H0 H)(k:List Fra):∀ (n i:Nat) (n2:Nat) (hn:n2≤140737488351232+i*300000000000000) (He:List AObj),i+n=Lf.length →
  M.go ew H0 (.c dG :: .lp ⟨(some [0,3,4]),[],false⟩ dG He :: .blk 0 :: .c (.lv [3])::k) (kv [(0,.slice tg 3 (b.map Brk.row)),(3,.int .i64 n2),(4,.int .i64 i)]) H =
   (M.go ew H0 k (kv [(3,.int .i64 ((Lf.drop i).foldl yi n2:Nat))]) (H))
 |0,i,n2,hn,He,h=>by
  have e:i=Lf.length:=by omega
  subst e;rw [ak M dG.eq_1];simp (maxSteps:=3000000) (maxDischargeDepth:=6) +contextual -implicitDefEqProofs only [amC M,↓amD,Nat.reduceBEq,Nat.reduceAdd,env,aj,iv,Nat.lt_irrefl,List.drop_length,Po hM,List.foldl_nil]
 |n+1,i,n2,hn,He,h=>by
  have hi:i<Lf.length:=by omega
  have hx:Lf[i]?=some Lf[i]:=List.getElem?_eq_getElem hi;have hd:(Lf.drop i)=Lf[i]::Lf.drop (i+1):=List.drop_eq_getElem_cons hi;have hm:Lf[i]∈Lf:=List.getElem_mem hi;have ih:=fun n2 hn He=>stl (H:=H) (H0:=H0) (b:=b) (Lf:=Lf) (tg:=tg) (hM:=hM) (hL:=hL) (hb:=hb) hc k n (i+1) n2 hn He (by omega)
  simp only [kv_cons,kv_nil] at ih;have hib:i<b.length:=by omega
  have hxb:=(hL i hi).trans hx;have hq:=hb Lf[i] (List.mem_of_getElem? hxb);have hq1:Lf[i].bef.length≤140737488351232:=hq.1;have hq2:Lf[i].aft.length≤140737488351232:=hq.2;have hlt:decide ((i:Int)<100)=true:=decide_eq_true (by omega);have hw1:IntKind.i64.wrap ((n2:Int)+(Lf[i].bef.length:Int))=((n2+Lf[i].bef.length:Nat):Int):=by rw [bV (by omega) (by omega)];omega
  have hw2:IntKind.i64.wrap (((n2+Lf[i].bef.length:Nat):Int)+(Lf[i].aft.length:Int))=((yi n2 Lf[i]:Nat):Int):=by rw [bV (by omega) (by omega),yi];omega
  have ih:=ih (yi n2 Lf[i]) (by unfold yi;omega);rw [hd,List.foldl_cons];rw [ak M dG.eq_1];simp (maxSteps:=3000000) (maxDischargeDepth:=6) +contextual -implicitDefEqProofs only [amC M,↓amD,Nat.reduceBEq,Nat.reduceAdd,env,aj,iv,hib,hxb,ih,hlt,a8 hib,Q7,cV (n:=100) (show i<100 by omega) (by simp [bH]),hw1,hw2]
theorem ID(hU:jf E){rs:Sl Brk}(h:rs.ok 0 (Brk.ok 0))(H:List AObj):M.run ir [.slice rs.tag 3 (rs.l.map Brk.row)] H=some (.ret (.bool (uD rs.l)),H):=by
 rw [bI M hU.truchmanlaw01_strict rfl (c:=iu) rfl,iu];have hl:rs.l.length≤140737488351232:=h.len;have h1:=fun k He=>stl M (b:=rs.l) (Lf:=rs.l.take 100) (tg:=rs.tag) (by simp) (Lm rs.l 100) (fun x hx=>⟨(h.all x hx).bef,(h.all x hx).aft⟩) (cut_refl H) k (rs.l.take 100).length 0 rs.l.length (by omega) He (by omega)
 simp only [kv_cons,kv_nil,Int.ofNat_zero,List.drop_zero] at h1;have h2:decide ((600:Int)<(((rs.l.take 100).foldl yi rs.l.length:Nat):Int))=uD rs.l:=by rw [uD,Bool.eq_iff_iff];simp;omega
 simp (maxSteps:=3000000) (maxDischargeDepth:=6) +contextual -implicitDefEqProofs only [amC M,↓amD,Nat.reduceBEq,Nat.reduceAdd,env,aj,iv,h1,h2,List.length_map]
theorem JI:∀ (l:List Brk) (n:Nat),n≤l.foldl yi n∧∀ x∈l,x.bef.length+x.aft.length≤l.foldl yi n
 |[],n=>⟨Nat.le_refl _,fun x h=>by cases h⟩
 |y::l,n=>by
  obtain ⟨h1,h2⟩:=JI l (yi n y);rw [List.foldl_cons];refine ⟨by unfold yi at h1 ⊢;omega,fun x hx => ?_⟩;rcases List.mem_cons.1 hx with rfl | hx
  ·unfold yi at h1 ⊢;omega
  ·exact h2 x hx
theorem vm{rs:List Brk}(h:uD rs=false):rs.length≤600∧∀ (i:Nat) (x:Brk),i<100→rs[i]?=some x→x.bef.length≤600∧x.aft.length≤600:=by
 have h0:(rs.take 100).foldl yi rs.length≤600:=by have:=of_decide_eq_false h;omega
 obtain ⟨h1,h2⟩:=JI (rs.take 100) rs.length;refine ⟨by omega,fun i x hi hx => ?_⟩;have hm:x∈rs.take 100:=List.mem_of_getElem? (i:=i) (by rw [List.getElem?_take,if_pos hi];exact hx);have:=h2 x hm;omega
theorem IE{rs:List Brk}(h:uD rs=false):rs.length≤64→∀ r∈rs,r.bef.length≤1000000∧r.aft.length≤1000000:=fun h64 r hr=>by
 obtain ⟨i,hi⟩:=List.getElem?_of_mem hr;have hlt:=(List.getElem?_eq_some_iff.1 hi).1;have:=(vm h).2 i r (by omega) hi;omega
end
section
attribute [local congr] aA bo aM aC aL aG aD aq au aH aI
variable{E:bb}(M:bO bU E)
structure mI (E:bb):Prop where
 docs_cutter_put:E.fn br=some ji
 docs_cutter_turn:E.fn di=some du
 docs_cutter_unit:E.fn dK=some iy
 docs_cutter_tag:E.fn jh=some lI
 slices_IndexFunc_api_Piece_api_Piece:E.fn dj=some aR
 slices_ContainsFunc_api_Piece_api_Piece:E.fn bS=some bT
 docs_cut_1:E.fn eP=some ou
 docs_cut:E.fn rM=some iw
 docs_ends:E.fn pZ=some jE
 slices_Reverse_string_string:E.fn eJ=some bg
 slices_Equal_string_string:E.fn fg=some cQ
 docs_Glue:E.fn pY=some dq
def pcC(l:List ae):List AV:=(l.map ae.row).flatten
theorem uE(l m:List ae):pcC (l++m)=pcC l++pcC m:=by simp [pcC]
theorem E9(x:ae):pcC [x]=[.int .u8 x.kind,.str x.text,.bool x.car]:=rfl
theorem p9:∀ l:List ae,(pcC l).length=l.length*3
 |[]=>rfl
 |x::l=>by
  have:=p9 l;rw [show pcC (x::l)=pcC [x]++pcC l from uE [x] l,List.length_append,this,E9,List.length_cons];simp;omega
def PcV(H:List AObj)(v:AV)(l:List ae):Prop:=(l=[]∧v = .slice .nil 3 [])∨(l≠[]∧∃ Q,v = .rslice Q 0 l.length 3 true∧H[Q]?=some (.cells (pcC l) ah))
def below(q:Nat)(v:AV):Prop:=∀ Q o n e r,v = .rslice Q o n e r→Q<q
def JJ(q:Nat)(v:AV):Prop:=∀ Q o n e r,v = .rslice Q o n e r→q≤Q
def OpV(H:List AObj)(v:AV)(l:List Str):Prop:=(l=[]∧v = .slice .nil 1 [])∨∃ O junk,v = .rslice O 0 l.length 1 true∧H[O]?=some (.cells (im l++junk) aP)
def cf(l:List ae)(p:ae):List ae:=
 match l.getLast? with
 |some x=>sel (p.kind == 1&&x.kind == 1) (l.dropLast++[{ x with text:=x.text++p.text }]) (l++[p])
 |none=>[p]
structure CSt where
 done:List (List ae)
 cur:List ae
 pos:List Int
 place:Nat
 due:Bool
 opn:List Str
def free(R:Nat→Prop)(v:AV):Prop:=∀ Q o n e r,v = .rslice Q o n e r→¬ R Q
structure vS (R:Nat→Prop) (c:Nat) (H:List AObj) (S:CSt) (P q:Nat) (vs:List AV) (v:AV) (ta:Tag) (ov:AV):Prop where
 hn:¬ R c
 hP:¬ R P
 rl:∀ i,R i→i<H.length
 cell:H[c]?=some (.cells [.rslice P 0 (S.done.length+1) 1 true,.slice ta 1 (S.pos.map cK),.int .i64 S.place,.bool S.due,ov] aV)
 par:H[P]?=some (.cells (vs++[v]) al)
 len:vs.length=S.done.length
 dn:∀ (i:Nat) (w:AV) (l:List ae),vs[i]?=some w→S.done[i]?=some l→PcV H w l∧below q w∧free R w
 cr:PcV H v S.cur
 ab:JJ q v
 pr:free R v
 ql:q≤H.length
 op:OpV H ov S.opn
 oa:free R ov
 tg:ta = .any∨ta = .some∨S.pos=[]∨∃ t,ta = .own t
def fS(R:Nat→Prop)(c:Nat)(H:List AObj)(S:CSt):Prop:=∃ P q vs v ta ov,vS R c H S P q vs v ta ov
structure Frm (R:Nat→Prop) (H H':List AObj):Prop where
 len:H.length≤H'.length
 low:∀ i,R i→H'[i]?=H[i]?
 it:∀ (i:Nat) s pos,H[i]?=some (.siter s pos)→H'[i]?=some (.siter s pos)
theorem Frm.refl(R:Nat→Prop)(H:List AObj):Frm R H H:=⟨Nat.le_refl _,fun _ _=>rfl,fun _ _ _ h=>h⟩
theorem Frm.trans{R:Nat→Prop}{A B C:List AObj}(h:Frm R A B)(k:Frm R B C):Frm R A C:=⟨Nat.le_trans h.len k.len,fun i hi=>(k.low i hi).trans (h.low i hi),fun i s p e=>k.it i s p (h.it i s p e)⟩
theorem Frm.mono{R R':Nat→Prop}{A B:List AObj}(h:Frm R A B)(hr:∀ i,R' i→R i):Frm R' A B:=⟨h.len,fun i hi=>h.low i (hr i hi),h.it⟩
theorem Frm.app{R:Nat→Prop}(H X:List AObj)(hn:∀ i,R i→i<H.length):Frm R H (H++X):=⟨by simp,fun i hi=>List.getElem?_append_left (hn i hi),fun i s p h=>bD h⟩
theorem Frm.set{R:Nat→Prop}{H:List AObj}{k:Nat}{cs:List AV}{T:TypeId}(x:AObj)(hk:¬ R k)(h:H[k]?=some (.cells cs T)):Frm R H (H.set k x):=
 ⟨by simp,fun i hi=>List.getElem?_set_ne (fun e=>hk (by rw [e];exact hi)),fun i s p e=>by
  rw [List.getElem?_set_ne (fun ek=>by subst ek;rw [h] at e;cases e)];exact e⟩
theorem PcV.stay{H H':List AObj}{v:AV}{l:List ae}(h:PcV H v l)(hs:∀ (Q:Nat) (cs:List AV),v = .rslice Q 0 l.length 3 true→H[Q]?=some (AObj.cells cs ah)→H'[Q]?=some (AObj.cells cs ah)):PcV H' v l:=by
 rcases h with h | ⟨h1,Q,h2,h3⟩
 ·exact .inl h
 ·exact .inr ⟨h1,Q,h2,hs Q _ h2 h3⟩
theorem OpV.stay{H H':List AObj}{v:AV}{l:List Str}(h:OpV H v l)(hs:∀ (O:Nat) (cs:List AV),H[O]?=some (AObj.cells cs aP)→H'[O]?=some (AObj.cells cs aP)):OpV H' v l:=by
 rcases h with h | ⟨O,junk,h1,h2⟩
 ·exact .inl h
 ·exact .inr ⟨O,junk,h1,hs O _ h2⟩
theorem gi{H:List AObj}{k i:Nat}{x:AObj}{cs ds:List AV}{T T':TypeId}(hk:H[k]?=some (.cells ds T'))(hT:T≠T')(h:H[i]?=some (.cells cs T)):(H.set k x)[i]?=some (.cells cs T):=by
 rw [List.getElem?_set_ne (fun e=>by subst e;rw [hk] at h;cases h;exact hT rfl)];exact h
theorem BW:ah≠aV:=by decide
theorem Nc:ah≠al:=by decide
theorem BX:aP≠ah:=by decide
theorem JK:aP≠al:=by decide
theorem DJ:aP≠aV:=by decide
theorem DK:al≠aV:=by decide
theorem IF{H G:List AObj}{v:AV}{l:List ae}(h:PcV H v l):qh G .sl v=some (.int .i64 (l.length:Int)):=by
 rcases h with ⟨rfl,rfl⟩ | ⟨_,Q,rfl,_⟩<;>rfl
theorem DL(p:ae):mq 3 [p.row]=true:=rfl
theorem GO{H:List AObj}{v:AV}{l:List ae}(h:PcV H v l):v.cell=true∧cC v=some [v]:=by
 rcases h with ⟨rfl,rfl⟩ | ⟨_,Q,rfl,_⟩<;>exact ⟨rfl,rfl⟩
theorem Qt{G:List AObj}{v:AV}{l:List ae}(h:PcV G v l)(hl:l.length≤100000000)(p:ae) :
  ∃ G',rap true G ah 3 32 false v (.slice .full 3 [p.row])=some (.rslice G.length 0 (l.length+1) 3 true,G')∧G'[G.length]?=some (.cells (pcC (l++[p])) ah)∧G'.length=G.length+1∧∀ i,i<G.length→(∀ Q,v = .rslice Q 0 l.length 3 true→i≠Q)→G'[i]?=G[i]? := by
 rcases h with ⟨rfl,rfl⟩ | ⟨_,Q,rfl,hg⟩
 ·refine ⟨G++[.cells (pcC [p]) ah], ?_,by rw [aJ];rfl,by simp,fun i hi _=>List.getElem?_append_left hi⟩
  simp only [rap,l9,kQ,or_true,if_true,DL];rw [if_pos (by simp)];rfl
 ·have hlt:=bZ hg
  have hlen:l.length*3≤(pcC l).length:=by rw [p9];omega
  refine ⟨G.set Q .dead++[.cells (pcC (l++[p])) ah], ?_, ?_,by simp,fun i hi hne => ?_⟩
  ·simp only [rap,l9,kQ,or_true,if_true,DL,hg]
   rw [if_pos ⟨trivial,trivial,hlen,by simp;omega,by simp;omega⟩];rw [List.take_of_length_le (by rw [p9];omega),uE];rfl
  ·rw [show G.length=(G.set Q .dead).length by simp,aJ];rfl
  ·rw [List.getElem?_append_left (by simp;omega),List.getElem?_set_ne (fun e=>hne Q rfl e.symm)]
theorem Rq{id n i:Nat}(h:i<n)(k:IntKind):uM 3 (.rslice id 0 n 3 true) (.int k (i:Int))=some (.ptr id (i*3)):=by
 simp only [uM];rw [if_pos ⟨trivial,by omega,by simp;omega⟩];simp
theorem mV{id n i:Nat}(h:i<n)(k:IntKind):uM 1 (.rslice id 0 n 1 true) (.int k (i:Int))=some (.ptr id i):=by
 simp only [uM];rw [if_pos ⟨trivial,by omega,by simp;omega⟩];simp
theorem Pp(l:List ae)(x:ae):bh none (pcC (l++[x])) (l.length*3)=some (.int .u8 x.kind)∧bh none (pcC (l++[x])) (l.length*3+1)=some (.str x.text):=by
 have hl:=p9 l;refine ⟨?_, ?_⟩
 ·simp only [bh,uE]
  rw [List.getElem?_append_right (by omega),hl,Nat.sub_self,E9];rfl
 ·simp only [bh,uE]
  rw [List.getElem?_append_right (by omega),hl,show l.length*3+1-l.length*3=1 by omega,E9];rfl
theorem Pq(l:List ae)(x:ae)(s:Str):aX (pcC (l++[x])) (l.length*3+1) [.str s]=pcC (l++[{ x with text:=s }]):=by
 rw [setRow_cons,setRow_nil,uE,uE,List.set_append_right _ _ (by rw [p9];omega),p9,show l.length*3+1-l.length*3=1 by omega];rfl
end
section
attribute [local congr] aA bo aM aC aL aG aD aq au aH aI
variable{E:bb}(M:bO bU E)
theorem cl5:(∀ a b c d e:AV,bh none [a,b,c,d,e] 0=some a)∧(∀ a b c d e:AV,bh none [a,b,c,d,e] 1=some b)∧(∀ a b c d e:AV,bh none [a,b,c,d,e] 2=some c)∧(∀ a b c d e:AV,bh none [a,b,c,d,e] 3=some d)∧(∀ a b c d e:AV,bh none [a,b,c,d,e] 4=some e):=
 ⟨fun _ _ _ _ _=>rfl,fun _ _ _ _ _=>rfl,fun _ _ _ _ _=>rfl,fun _ _ _ _ _=>rfl,fun _ _ _ _ _=>rfl⟩
def JL(o:Option Nat)(T L:List Nat):Option (List Nat×List Nat):=
 match o with
 |some id=>some (T,id::L)
 |none=>some (T,L)
def Sd(o:Option Nat)(T L:List Nat):Option (List Nat×List Nat):=
 match o with
 |some id=>some (id::T,L)
 |none=>none
theorem dyK:(∀ (a:Env) (g:Option Nat) (x:RX) (T L:List Nat),ko true .wide a (.ld g x) T L=JL (nm (rx a x)) T L)∧(∀ (a:Env) (g:LK) (x:RX) (T L:List Nat),ko true .wide a (.len g x) T L=JL (nm (rx a x)) T L) ∧
  (∀ (s:Bool) (a:Env) (n:Nat) (x v:RX) (T L:List Nat),ko s .keep a (.st n x v) T L=Sd (nm (rx a x)) T L)∧(∀ (s:Bool) (a:Env) (g:Option Nat) (x:RX) (T L:List Nat),ko s .quiet a (.ld g x) T L=some (T,L)) ∧
  (∀ i o,nm (.ptr i o)=some i)∧(∀ i o n e r,nm (.rslice i o n e r)=some i)∧(∀ t n r,nm (.slice t n r)=none)∧(∀ s,nm (.str s)=none)∧(∀ e r i o,nm (.vptr e r i o)=none)∧(∀ (id:Nat) (T L:List Nat),JL (some id) T L=some (T,id::L))∧(∀ T L:List Nat,JL none T L=some (T,L))∧(∀ (id:Nat) (T L:List Nat),Sd (some id) T L=some (id::T,L)):=
 ⟨fun _ _ _ _ _=>rfl,fun _ _ _ _ _=>rfl,fun _ _ _ _ _ _ _=>rfl,fun _ _ _ _ _ _=>rfl,fun _ _=>rfl,fun _ _ _ _ _=>rfl,fun _ _ _=>rfl,fun _=>rfl,fun _ _ _ _=>rfl,fun _ _ _=>rfl,fun _ _=>rfl,fun _ _ _=>rfl⟩
theorem oG{T L:List Nat}(h:apart T L)(r:Option Out):nn bU T L r=r:=by
 unfold nn;rw [EB h]
theorem BY{a b c:Nat}(h1:c≠a)(h2:c≠b):apart [a,b] [c]:=fun x hx=>by
 rw [List.mem_singleton] at hx;subst hx;simp [h1,h2]
theorem BZ{a c:Nat}(h1:c≠a):apart [a] [c]:=fun x hx=>by
 rw [List.mem_singleton] at hx;subst hx;simp [h1]
theorem Lo{H:List AObj}{i j:Nat}{cs ds:List AV}{T T':TypeId}(h1:H[i]?=some (.cells cs T))(h2:H[j]?=some (.cells ds T'))(hT:T≠T'):i≠j:=fun e=>by
 subst e;rw [h1] at h2;injection h2 with h2;injection h2 with _ h3;exact hT h3
theorem GP{H:List AObj}{v:AV}{l:List ae}(h:PcV H v l){Q:Nat}(e:v = .rslice Q 0 l.length 3 true):∃ cs,H[Q]?=some (.cells cs ah):=by
 rcases h with ⟨_,h⟩ | ⟨_,Q',h1,h2⟩
 ·rw [h] at e;cases e
 ·rw [h1] at e;cases e;exact ⟨_,h2⟩
def StK(H H':List AObj):Prop:=∀ (O:Nat) (cs:List AV),H[O]?=some (AObj.cells cs aP)→H'[O]?=some (AObj.cells cs aP)
theorem vS.turned{R:Nat→Prop}{c:Nat}{H H2:List AObj}{S:CSt}{P q:Nat}{vs:List AV}{v w:AV}{ta:Tag}{ov:AV}(h:vS R c H S P q vs v ta ov){cur:List ae}
  (hlen:H.length≤H2.length) (hs:∀ i y,H[i]?=some y→(∀ Q,v = .rslice Q 0 S.cur.length 3 true→i≠Q)→i≠P→H2[i]?=some y)
  (hpar:H2[P]?=some (.cells (vs++[w]) al)) (hw:PcV H2 w cur) (hwa:JJ q w) (hwf:free R w):vS R c H2 { S with cur:=cur } P q vs w ta ov∧Frm R H H2∧StK H H2:=by
 have hP:=h.par
 have nq:∀ (i:Nat) (cs:List AV) (T:TypeId),H[i]?=some (.cells cs T)→T≠ah→∀ Q,v = .rslice Q 0 S.cur.length 3 true→i≠Q:=fun i cs T hi hT Q e ei=>by
  obtain ⟨ds,hd⟩:=GP h.cr e;subst ei;rw [hi] at hd;cases hd;exact hT rfl
 have np:∀ (i:Nat) (cs:List AV) (T:TypeId),H[i]?=some (.cells cs T)→T≠al→i≠P:=fun i cs T hi hT ei=>by
  subst ei;rw [hi] at hP;cases hP;exact hT rfl
 have hlow:∀ i,R i→H2[i]?=H[i]? := fun i hi=>by
  have hin:=h.rl i hi;rw [List.getElem?_eq_getElem hin];refine hs i _ (List.getElem?_eq_getElem hin) (fun Q e ei => ?_) (fun e => ?_)
  ·exact h.pr Q _ _ _ _ e (ei ▸ hi)
  ·exact h.hP (e ▸ hi)
 refine ⟨⟨h.hn,h.hP,fun i hi=>Nat.lt_of_lt_of_le (h.rl i hi) hlen,hs c _ h.cell (nq c _ _ h.cell BW.symm) (np c _ _ h.cell DK.symm),hpar,h.len,fun i w' l hi hl => ?_,hw,hwa,hwf,Nat.le_trans h.ql hlen,h.op.stay fun O cs hO=>hs O _ hO (nq O _ _ hO BX) (np O _ _ hO JK),h.oa,h.tg⟩,⟨hlen,hlow,fun i s pos hi=>hs i _ hi (fun Q e ei => ?_) (fun e => ?_)⟩,fun O cs hO=>hs O _ hO (nq O _ _ hO BX) (np O _ _ hO JK)⟩
 ·obtain ⟨h1,h2,h3⟩:=h.dn i w' l hi hl
  refine ⟨h1.stay fun Q cs e hQ=>hs Q _ hQ (fun Q' e' ei => ?_) (np Q _ _ hQ Nc),h2,h3⟩;have a1:=h2 Q _ _ _ _ e;have a2:=h.ab Q' _ _ _ _ e';omega
 ·obtain ⟨ds,hd⟩:=GP h.cr e
  subst ei;rw [hi] at hd;cases hd
 ·subst e;rw [hi] at hP;cases hP
theorem GQ(p:ae):cf [] p=[p]:=rfl
theorem fE(l:List ae)(x p:ae):cf (l++[x]) p=sel (p.kind == 1&&x.kind == 1) (l++[{ x with text:=x.text++p.text }]) (l++[x]++[p]):=by
 unfold cf;rw [List.getLast?_concat,List.dropLast_concat]
theorem xm(hC:mI E){R:Nat→Prop}{c:Nat}{H:List AObj}{S:CSt}(hS:fS R c H S)(hd:S.done.length≤100000000)(hcu:S.cur.length≤100000000)(hct:∀ x∈S.cur,x.text.length≤100000000){p:ae}(hp:p.text.length≤100000000) :
  ∃ H',M.run br [.ptr c 0,.agg p.row] H=some (.ret (.tuple []),H')∧fS R c H' { S with cur:=cf S.cur p }∧Frm R H H'∧StK H H':=by
 obtain ⟨P,q,vs,v,ta,ov,h⟩:=hS;obtain ⟨done,cur,pos,place,due,opn⟩:=S;dsimp only at hd hcu hct;have hvs:=h.len;dsimp only at hvs;have hc1:∀ X,(H++X)[c]?=_:=fun X=>bD h.cell
 have hp1:∀ X,(H++X)[P]?=_:=fun X=>bD h.par
 have hia:=mV (id:=P) (n:=done.length+1) (i:=done.length) (by omega) .i64
 have hld:bh none (vs++[v]) done.length=some v:=by
  simp only [bh];rw [← hvs,List.getElem?_append_right (Nat.le_refl _),Nat.sub_self];rfl
 have hw1:IntKind.i64.wrap (((done.length+1:Nat):Int)-1)=(done.length:Int):=by rw [bV (by omega) (by omega)];omega
 have hln:=fun G=>IF (G:=G) h.cr
 dsimp only at hln;have hcr:=h.cr;dsimp only at hcr;have hcr1:PcV (H++[.cells p.row ah]) v cur:=hcr.stay fun Q cs _ hQ=>bD hQ
 have more:cf cur p=cur++[p]→∀ k:Int,True→∃ w G,rap true (H++[.cells p.row ah]) ah 3 32 false v (.slice .full 3 [p.row])=some (w,G)∧(G[P]?=some (.cells (vs++[v]) al)) ∧
   stO 1 G P done.length [w] (some (.cells (vs++[v]) al))=some (G.set P (.cells (vs++[w]) al))∧cC w=some [w]∧fS R c (G.set P (.cells (vs++[w]) al)) ⟨done,cf cur p,pos,place,due,opn⟩∧Frm R H (G.set P (.cells (vs++[w]) al))∧StK H (G.set P (.cells (vs++[w]) al)):=fun hpf _ _=>by
  obtain ⟨G,a1,a2,a3,a4⟩:=Qt hcr1 hcu p;have hPlt:=bZ h.par;have hlen1:(H++[AObj.cells p.row ah]).length=H.length+1:=by simp
  rw [hlen1] at a1 a2 a3 a4
  have nQ:∀ Q,v = .rslice Q 0 cur.length 3 true→P≠Q:=fun Q e ei=>by
   obtain ⟨ds,hds⟩:=GP hcr e;subst ei;rw [h.par] at hds;cases hds
  have gP:G[P]?=some (.cells (vs++[v]) al):=by rw [a4 P (by omega) nQ];exact hp1 _
  refine ⟨_,G,a1,gP, ?_,rfl, ?_⟩
  ·rw [stO_cells (sz:=1) rfl (by simp;omega) rfl,setRow_cons,setRow_nil,← hvs,List.set_append_right _ _ (Nat.le_refl _),Nat.sub_self];rfl
  ·have:=h.turned (H2:=G.set P (.cells (vs++[.rslice (H.length+1) 0 (cur.length+1) 3 true]) al)) (cur:=cf cur p) (w:=.rslice (H.length+1) 0 (cur.length+1) 3 true) (by simp;omega) (fun i y hi hne hiP=>by
    rw [List.getElem?_set_ne hiP.symm,a4 i (by have:=(List.getElem?_eq_some_iff.1 hi).1;omega) hne];exact bD hi) (List.getElem?_set_self (by omega)) (.inr ⟨by rw [hpf];simp,H.length+1,by rw [hpf];simp,by rw [List.getElem?_set_ne (by omega),a2,hpf]⟩) (fun Q o n e r eq=>by cases eq;have:=h.ql;omega) (fun Q o n e r eq hR=>by cases eq;have:=h.rl _ hR;omega)
   exact ⟨⟨P,q,vs,_,ta,ov,this.1⟩,this.2⟩
 have r1:∀ H,ma (some H)=some (dC,H):=fun _=>rfl
 have gx:=fun X=>aJ H X
 have ncP:c≠P:=Lo h.cell h.par DK.symm
 have ncQ:∀ Q,v = .rslice Q 0 cur.length 3 true→c≠Q:=fun Q e ei=>by
  obtain ⟨ds,hds⟩:=GP hcr e;exact Lo h.cell hds BW.symm ei
 have ab:fe v=none∨∃ Q,fe v=some Q∧c≠Q:=by
  rcases hcr with ⟨_,rfl⟩ | ⟨_,Q,rfl,_⟩
  ·exact .inl rfl
  ·exact .inr ⟨Q,rfl,ncQ Q rfl⟩
 rcases (show cur=[]∨∃ l x,cur=l++[x] by
  rcases List.eq_nil_or_concat cur with h | ⟨l,x,h⟩
  ·exact .inl h
  ·exact .inr ⟨l,x,by simpa using h⟩) with rfl | ⟨l,x,rfl⟩
 ·obtain ⟨w,G,m1,m2,m3,m4,m5,m6⟩:=more rfl 0 trivial
  refine ⟨_, ?_,m5,m6⟩;have d0:decide ((0:Int)<((0:Nat):Int))=false:=rfl;rw [bI M hC.docs_cutter_put rfl (c:=cY) rfl,cY]
  have ab0:fe v=none:=by
   rcases hcr with ⟨_,rfl⟩ | ⟨h,_⟩
   ·rfl
   ·exact absurd rfl h
  have aa:=oG (BZ ncP);cases hk:p.kind == 1<;>simp (maxSteps:=3000000) (maxDischargeDepth:=6) +contextual -implicitDefEqProofs only [amC M,↓amD,Nat.reduceBEq,Nat.reduceAdd,env,aj,jj,amG,AV.cell,Nat.reduceMul,Nat.reduceLeDiff,rnc,hc1,hp1,gx,cl5,hia,hld,hw1,hln,hk,d0,bP,List.getElem?_cons_zero,m1,m2,m3,m4,r1,dyK,amZ,ab0,aa]
 ·obtain ⟨⟨Q,e1,e2⟩⟩:Nonempty (∃ Q,v = .rslice Q 0 (l.length+1) 3 true∧H[Q]?=some (.cells (pcC (l++[x])) ah)):=by
   rcases hcr with ⟨h0,_⟩ | ⟨_,Q,h1,h2⟩
   ·simp at h0
   ·exact ⟨⟨Q,by simpa using h1,h2⟩⟩
  have hl:l.length≤100000000:=by simp at hcu;omega
  have hxt:=hct x (by simp);have d1:decide ((0:Int)<(((l++[x]).length:Nat):Int))=true:=decide_eq_true (by simp);have hw2:IntKind.i64.wrap ((((l++[x]).length:Nat):Int)-1)=(l.length:Int):=by rw [bV (by simp) (by simp;omega)];simp
  have hiq:uM 3 v (.int .i64 (l.length:Int))=some (.ptr Q (l.length*3)):=by rw [e1];exact Rq (by omega) _
  have hQ1:∀ X,(H++X)[Q]?=_:=fun X=>bD e2
  obtain ⟨q1,q2⟩:=Pp l x;have ab1:fe v=some Q:=by rw [e1];rfl
  have aa:=oG (BY ncP (ncQ Q (by rw [e1];simp)));generalize hn:(l++[x]).length=n at d1 hw2 hln;cases hk:p.kind == 1 with
  |false=>
   obtain ⟨w,G,m1,m2,m3,m4,m5,m6⟩:=more (by rw [fE,hk];rfl) 0 trivial;refine ⟨_, ?_,m5,m6⟩;rw [bI M hC.docs_cutter_put rfl (c:=cY) rfl,cY];simp (maxSteps:=3000000) (maxDischargeDepth:=6) +contextual -implicitDefEqProofs only [amC M,↓amD,Nat.reduceBEq,Nat.reduceAdd,env,aj,jj,amG,AV.cell,Nat.reduceMul,Nat.reduceLeDiff,rnc,hc1,hp1,gx,cl5,hia,hld,hw1,hln,hk,d1,bP,List.getElem?_cons_zero,m1,m2,m3,m4,r1,dyK,amZ,ab1,aa,Nat.add_zero]
  |true=>
   cases hx:x.kind == 1 with
   |false=>
    obtain ⟨w,G,m1,m2,m3,m4,m5,m6⟩:=more (by rw [fE,hk,hx];rfl) 0 trivial;refine ⟨_, ?_,m5,m6⟩;rw [bI M hC.docs_cutter_put rfl (c:=cY) rfl,cY];simp (maxSteps:=3000000) (maxDischargeDepth:=6) +contextual -implicitDefEqProofs only [amC M,↓amD,Nat.reduceBEq,Nat.reduceAdd,env,aj,jj,amG,AV.cell,Nat.reduceMul,Nat.reduceLeDiff,rnc,hc1,hp1,gx,cl5,hia,hld,hw1,hln,hk,hx,d1,hw2,hiq,hQ1,q1,bP,List.getElem?_cons_zero,m1,m2,m3,m4,r1,dyK,amZ,ab1,aa,Nat.add_zero]
   |true=>
    have hpf:cf (l++[x]) p=l++[{ x with text:=x.text++p.text }]:=by rw [fE,hk,hx];rfl
    have ha:=Jz (s:=x.text) (t:=p.text) (by simp only [List.length_append] at *;omega);have hqlt:=bZ e2
    have hst:stO 1 (H++[AObj.cells p.row ah]) Q (l.length*3+1) [.str (x.text++p.text)] (some (.cells (pcC (l++[x])) ah))=some ((H++[AObj.cells p.row ah]).set Q (AObj.cells (pcC (cf (l++[x]) p)) ah)):=by
     rw [stO_cells (sz:=1) rfl (by rw [p9];simp;omega) rfl,Pq,hpf]
    have:=h.turned (H2:=(H++[AObj.cells p.row ah]).set Q (AObj.cells (pcC (cf (l++[x]) p)) ah)) (cur:=cf (l++[x]) p) (w:=v) (by simp) (fun i y hi hne hiP=>by
     rw [List.getElem?_set_ne (fun e=>hne Q (by rw [e1];simp) e.symm)];exact bD hi) (by rw [List.getElem?_set_ne (Lo e2 h.par Nc)];exact hp1 _) (.inr ⟨by rw [hpf];simp,Q,by rw [hpf,e1];simp,List.getElem?_set_self (by simp;omega)⟩) h.ab h.pr
    refine ⟨_, ?_,⟨P,q,vs,v,ta,ov,this.1⟩,this.2⟩;rw [bI M hC.docs_cutter_put rfl (c:=cY) rfl,cY];simp (maxSteps:=3000000) (maxDischargeDepth:=6) +contextual -implicitDefEqProofs only [amC M,↓amD,Nat.reduceBEq,Nat.reduceAdd,env,aj,jj,amG,AV.cell,Nat.reduceMul,Nat.reduceLeDiff,rnc,hc1,hp1,gx,cl5,hia,hld,hw1,hln,hk,hx,d1,hw2,hiq,hQ1,q1,q2,ha,hst,bP,List.getElem?_cons_zero,r1,dyK,amZ,Nat.add_zero]
end
section
attribute [local congr] aA bo aM aC aL aG aD aq au aH aI
variable{E:bb}(M:bO bU E)
theorem uF{l:List ae}{p:ae}(h:(p.kind == 1)=false):cf l p=l++[p]:=by
 unfold cf;cases hl:l.getLast? with
 |none=>simp at hl;subst hl;rfl
 |some x=>dsimp only;rw [h];rfl
def fY(s:Str):ae:=⟨3,s,true⟩
def ee(s:Str):ae:=⟨2,s,true⟩
theorem Fa{H:List AObj}{v:AV}{l:List Str}(h:OpV H v l){i:Nat}{s:Str}(hi:l[i]?=some s):∃ O cs,uM 1 v (.int .i64 (i:Int))=some (.ptr O i)∧H[O]?=some (.cells cs aP)∧bh none cs i=some (.str s):=by
 rcases h with ⟨rfl,rfl⟩ | ⟨O,junk,rfl,h2⟩
 ·simp at hi
 ·have hlt:=(List.getElem?_eq_some_iff.1 hi).1
  refine ⟨O,_,mV hlt _,h2, ?_⟩;simp only [bh];rw [List.getElem?_append_left (by rw [gY];exact hlt),im,List.getElem?_map,hi];rfl
theorem yj{H G:List AObj}{v:AV}{l:List Str}(h:OpV H v l):qh G .sl v=some (.int .i64 (l.length:Int)):=by
 rcases h with ⟨rfl,rfl⟩ | ⟨O,junk,rfl,_⟩<;>rfl
theorem tn0(hC:mI E){R:Nat→Prop}{c:Nat}{H0:List AObj}:∀ (n:Nat) (H:List AObj) (S:CSt),fS R c H S→n≤S.opn.length→S.opn.length≤100000→(∀ s∈S.opn,s.length≤100000000)→S.done.length≤100000000→S.cur.length+n≤100000000→(∀ x∈S.cur,x.text.length≤100000000) →
  ∃ H',(∀ (k:List Fra) (He:List AObj),M.go du H0 (.c eX :: .lp ⟨(some [0,2]),[],false⟩ eX He :: .blk 0 :: .c (.lv [0])::k) (kv [(0,.ptr c 0),(2,.int .i64 ((n:Int)-1))]) H=M.go du H0 k (kv [(0,.ptr c 0)]) H')∧fS R c H' { S with cur:=S.cur++((S.opn.take n).reverse.map fY) }∧Frm R H H'
 |0,H,S,hS,hn,ho,hol,hd,hcu,hct=>by
  refine ⟨H,fun k He => ?_,by simpa using hS,Frm.refl _ _⟩;have h0:decide ((0:Int)≤((0:Nat):Int)-1)=false:=rfl;rw [ak M eX.eq_1];simp (maxSteps:=3000000) (maxDischargeDepth:=6) +contextual -implicitDefEqProofs only [amC M,↓amD,Nat.reduceBEq,Nat.reduceAdd,env,aj,fO,h0]
 |n+1,H,S,hS,hn,ho,hol,hd,hcu,hct=>by
  have hlt:n<S.opn.length:=by omega
  have hx:S.opn[n]?=some S.opn[n]:=List.getElem?_eq_getElem hlt;have hm:=List.getElem_mem hlt;obtain ⟨H1,p1,p2,p3,p4⟩:=xm M hC hS hd (by omega) hct (p:=fY S.opn[n]) (hol _ hm);rw [uF rfl] at p2
  obtain ⟨H2,i1,i2,i3⟩:=tn0 hC (H0:=H0) n H1 _ p2 (by dsimp only;omega) ho hol hd (by simp;omega) (fun x hx=>by
   rcases List.mem_append.1 hx with hx | hx
   ·exact hct x hx
   ·rw [List.mem_singleton] at hx;subst hx;exact hol _ hm)
  refine ⟨H2,fun k He => ?_, ?_,p3.trans i3⟩
  ·rw [← i1 k H1]
   obtain ⟨P,q,vs,v,ta,ov,h⟩:=hS;obtain ⟨O,cs,o1,o2,o3⟩:=Fa h.op hx;have hc:=h.cell;have e1:((n+1:Nat):Int)-1=(n:Int):=by omega
   have h0:decide ((0:Int)≤(n:Int))=true:=decide_eq_true (by omega);have hw1:IntKind.i64.wrap ((n:Int)-1)=(n:Int)-1:=bV (by omega) (by omega);have hbd:M.run br [.ptr c 0,.agg [.int .u8 3,.str S.opn[n],.bool true]] H=some (.ret (.tuple []),H1):=p1;rw [e1];rw [ak M eX.eq_1];simp (maxSteps:=3000000) (maxDischargeDepth:=6) +contextual -implicitDefEqProofs only [amC M,↓amD,Nat.reduceBEq,Nat.reduceAdd,env,aj,fO,amG,AV.cell,Nat.reduceMul,Nat.reduceLeDiff,rnc,h0,hw1,hc,cl5,o1,o2,o3,hbd]
  ·have e:(S.opn.take (n+1)).reverse.map fY=fY S.opn[n]::(S.opn.take n).reverse.map fY:=by rw [List.take_add_one,hx];rw [Option.toList_some,List.reverse_append,List.map_append];rfl
   rw [e];simpa using i2
theorem tn1(hC:mI E){R:Nat→Prop}{c:Nat}{H0:List AObj}{ov:AV}:∀ (n i:Nat) (H:List AObj) (S:CSt),fS R c H S→OpV H ov S.opn→i+n=S.opn.length→S.opn.length≤100000→(∀ s∈S.opn,s.length≤100000000)→S.done.length≤100000000→S.cur.length+n≤100000000→(∀ x∈S.cur,x.text.length≤100000000) →
  ∃ H',(∀ (k:List Fra) (He:List AObj),M.go du H0 (.c eY :: .lp ⟨(some [0,37,38,39]),[],false⟩ eY He :: .blk 2 :: .c (.lv [0])::k) (kv [(0,.ptr c 0),(37,ov),(38,.int .i64 S.opn.length),(39,.int .i64 i)]) H=M.go du H0 k (kv [(0,.ptr c 0)]) H')∧fS R c H' { S with cur:=S.cur++((S.opn.drop i).map ee) }∧Frm R H H'
 |0,i,H,S,hS,ho,hn,hol,hot,hd,hcu,hct=>by
  have e:i=S.opn.length:=by omega
  subst e;refine ⟨H,fun k He => ?_,by rw [List.drop_length];simpa using hS,Frm.refl _ _⟩;rw [ak M eY.eq_1];simp (maxSteps:=3000000) (maxDischargeDepth:=6) +contextual -implicitDefEqProofs only [amC M,↓amD,Nat.reduceBEq,Nat.reduceAdd,env,aj,fO,Nat.lt_irrefl]
 |n+1,i,H,S,hS,ho,hn,hol,hot,hd,hcu,hct=>by
  have hlt:i<S.opn.length:=by omega
  have hx:S.opn[i]?=some S.opn[i]:=List.getElem?_eq_getElem hlt;have hm:=List.getElem_mem hlt;obtain ⟨H1,p1,p2,p3,p4⟩:=xm M hC hS hd (by omega) hct (p:=ee S.opn[i]) (hot _ hm);rw [uF rfl] at p2
  obtain ⟨H2,i1,i2,i3⟩:=tn1 hC (H0:=H0) n (i+1) H1 _ p2 (ho.stay p4) (by dsimp only;omega) hol hot hd (by simp;omega) (fun x hx=>by
   rcases List.mem_append.1 hx with hx | hx
   ·exact hct x hx
   ·rw [List.mem_singleton] at hx;subst hx;exact hot _ hm)
  refine ⟨H2,fun k He => ?_, ?_,p3.trans i3⟩
  ·rw [← i1 k H1]
   obtain ⟨O,cs,o1,o2,o3⟩:=Fa ho hx;have hw1:=cV (n:=S.opn.length) hlt (by simp only [bH];omega);have hbd:M.run br [.ptr c 0,.agg [.int .u8 2,.str S.opn[i],.bool true]] H=some (.ret (.tuple []),H1):=p1;rw [ak M eY.eq_1];simp (maxSteps:=3000000) (maxDischargeDepth:=6) +contextual -implicitDefEqProofs only [amC M,↓amD,Nat.reduceBEq,Nat.reduceAdd,env,aj,fO,amG,AV.cell,Nat.reduceMul,Nat.reduceLeDiff,rnc,hlt,hw1,o1,o2,o3,hbd]
  ·rw [List.drop_eq_getElem_cons hlt,List.map_cons]
   simpa using i2
theorem Rr{G:List AObj}{P R m:Nat}{vs:List AV}{v:AV}{T:TypeId}(hvs:vs.length=m)(hv:v.cell=true)(hP:G[P]?=some (.cells (vs++[v]) al))(hR:G[R]?=some (.cells [.slice .nil 3 []] T))(hm:m≤100000000) :
  rap true G al 1 24 false (.rslice P 0 (m+1) 1 true) (.rslice R 0 1 1 true)=some (.rslice G.length 0 (m+1+1) 1 true,G.set P .dead++[.cells (vs++[v]++[.slice .nil 3 []]) al]):=by
 have hs:kQ G 1 false (.rslice R 0 1 1 true)=some [[.slice .nil 3 []]]:=by
  simp only [kQ,hR];rw [if_pos ⟨trivial,by simp⟩];rfl
 simp only [rap,l9,hs,hP];rw [if_pos (show mq 1 [[AV.slice .nil 3 []]]=true from rfl),if_pos ⟨trivial,trivial,by simp;omega,by simp;omega,by simp;omega⟩,List.take_of_length_le (by simp;omega)];rfl
theorem vS.upd{R:Nat→Prop}{c:Nat}{H:List AObj}{S:CSt}{P q:Nat}{vs:List AV}{v:AV}{ta:Tag}{ov:AV}(h:vS R c H S P q vs v ta ov)(pos:List Int)(place:Nat)(due:Bool)(opn:List Str)(ta':Tag)(ov':AV)(ho:OpV H ov' opn)(ha:free R ov')(ht:ta' = .any∨ta' = .some∨pos=[]∨∃ t,ta' = .own t) :
  vS R c (H.set c (.cells [.rslice P 0 (S.done.length+1) 1 true,.slice ta' 1 (pos.map cK),.int .i64 place,.bool due,ov'] aV)) { S with pos:=pos,place:=place,due:=due,opn:=opn } P q vs v ta' ov'∧Frm R H (H.set c (.cells [.rslice P 0 (S.done.length+1) 1 true,.slice ta' 1 (pos.map cK),.int .i64 place,.bool due,ov'] aV)) ∧
   StK H (H.set c (.cells [.rslice P 0 (S.done.length+1) 1 true,.slice ta' 1 (pos.map cK),.int .i64 place,.bool due,ov'] aV)):=
 ⟨⟨h.hn,h.hP,fun i hi=>by simpa using h.rl i hi,List.getElem?_set_self (bZ h.cell),gi h.cell DK h.par,h.len,fun i w l hi hl=>⟨(h.dn i w l hi hl).1.stay fun Q cs _ hQ=>gi h.cell BW hQ,(h.dn i w l hi hl).2⟩,h.cr.stay fun Q cs _ hQ=>gi h.cell BW hQ,h.ab,h.pr,by simpa using h.ql,ho.stay fun O cs hO=>gi h.cell DJ hO,ha,ht⟩,Frm.set _ h.hn h.cell,fun O cs hO=>gi h.cell DJ hO⟩
def qa(S:CSt):CSt := { S with done:=S.done++[S.cur++S.opn.reverse.map fY],cur:=S.opn.map ee,due:=false }
theorem Nd(hC:mI E){R:Nat→Prop}{c:Nat}{H:List AObj}{S:CSt}(hS:fS R c H S)(ho:S.opn.length≤100000)(hot:∀ s∈S.opn,s.length≤100000000)(hd:S.done.length≤100000)(hcu:S.cur.length≤100000)(hct:∀ x∈S.cur,x.text.length≤100000000) :
  ∃ H',M.run di [.ptr c 0] H=some (.ret (.tuple []),H')∧fS R c H' (qa S)∧Frm R H H':=by
 obtain ⟨H1,e1,s1,f1⟩:=tn0 M hC (R:=R) (c:=c) (H0:=H) S.opn.length H S hS (Nat.le_refl _) ho hot (by omega) (by omega) hct;obtain ⟨P0,q0,vs0,v0,ta0,ov0,h0⟩:=hS;obtain ⟨P,q,vs,v,ta,ov,h⟩:=s1;rw [List.take_length] at h;have hvs:=h.len;dsimp only at hvs;have hcl:=bZ h.cell;have hpl:=bZ h.par;have hc1:∀ X,(H1++X)[c]?=_:=fun X=>bD h.cell
 have hr1:∀ x:AObj,(H1++[x])[H1.length]?=some x:=fun x=>aJ H1 [x]
 have app:=fun X=>Rr (G:=H1++[AObj.cells [.slice .nil 3 []] X]) (P:=P) (R:=H1.length) (m:=S.done.length) hvs (GO h.cr).1 (bD h.par) (hr1 _) (by omega)
 obtain ⟨G,hG⟩:∃ G,G=(H1++[AObj.cells [.slice .nil 3 []] al]).set P .dead++[AObj.cells (vs++[v]++[.slice .nil 3 []]) al]:=⟨_,rfl⟩
 have gL:G.length=H1.length+2:=by rw [hG];simp
 have gK:∀ (i:Nat) (cs:List AV) (T:TypeId),H1[i]?=some (.cells cs T)→T≠al→G[i]?=some (.cells cs T):=fun i cs T hi hT=>by
  have hlt:=bZ hi;rw [hG,List.getElem?_append_left (by simp;omega),List.getElem?_set_ne (Lo h.par hi hT.symm)];exact bD hi
 have gP:G[H1.length+1]?=some (.cells (vs++[v]++[.slice .nil 3 []]) al):=by
  rw [hG,List.getElem?_append_right (by simp)];simp
 have gF:Frm R H1 G:=⟨by omega,fun i hi=>by
  have hlt:=h.rl i hi;rw [hG,List.getElem?_append_left (by simp;omega),List.getElem?_set_ne (fun e:P=i=>h.hP (by rw [e];exact hi)),List.getElem?_append_left hlt],fun i s pos hi=>by
  have hlt:=(List.getElem?_eq_some_iff.1 hi).1;rw [hG,List.getElem?_append_left (by simp;omega),List.getElem?_set_ne (fun e=>by subst e;rw [h.par] at hi;cases hi),List.getElem?_append_left hlt];exact hi⟩
 have gc:=gK c _ _ h.cell DK.symm;have app1:=app al;rw [← hG] at app1;simp only [List.length_append,List.length_cons,List.length_nil,Nat.zero_add] at app1
 have w2:vS R c (G.set c (.cells [.rslice (H1.length+1) 0 (S.done.length+1+1) 1 true,.slice ta 1 (S.pos.map cK),.int .i64 S.place,.bool S.due,ov] aV)) { S with done:=S.done++[S.cur++S.opn.reverse.map fY],cur:=[] } (H1.length+1) H1.length (vs++[v]) (.slice .nil 3 []) ta ov:=by
  have gp:∀ (w:AV) (l:List ae),PcV H1 w l→PcV (G.set c (.cells [.rslice (H1.length+1) 0 (S.done.length+1+1) 1 true,.slice ta 1 (S.pos.map cK),.int .i64 S.place,.bool S.due,ov] aV)) w l:=fun w l hw=>hw.stay fun Q cs _ hQ=>gi gc BW (gK Q _ _ hQ Nc)
  refine ⟨h.hn,fun hR=>by have:=h.rl _ hR;omega,fun i hi=>by have:=h.rl i hi;simp;omega,by rw [List.getElem?_set_self (by omega)];simp,gi gc DK gP,by simp [hvs],fun i w l hi hl => ?_,.inl ⟨rfl,rfl⟩,fun Q o n e r eq=>(by cases eq),fun Q o n e r eq=>(by cases eq),by simp;omega,h.op.stay fun O cs hO=>gi gc DJ (gK O _ _ hO JK),h.oa,h.tg⟩
  by_cases hlt:i<vs.length
  ·rw [List.getElem?_append_left hlt] at hi
   rw [List.getElem?_append_left (by omega)] at hl;obtain ⟨d1,d2,d3⟩:=h.dn i w l hi hl;exact ⟨gp w l d1,fun Q o n e r eq=>Nat.lt_of_lt_of_le (d2 Q o n e r eq) h.ql,d3⟩
  ·have hi2:i=vs.length:=by
    have:=(List.getElem?_eq_some_iff.1 hi).1;simp at this;omega
   subst hi2;rw [List.getElem?_append_right (Nat.le_refl _),Nat.sub_self,List.getElem?_cons_zero] at hi;rw [List.getElem?_append_right (by omega),show vs.length-S.done.length=0 by omega,List.getElem?_cons_zero] at hl;cases hi;cases hl;refine ⟨gp v _ h.cr,fun Q o n e r eq => ?_,h.pr⟩;rcases h.cr with ⟨_,hv⟩ | ⟨_,Q',hv,hQ⟩
   ·rw [hv] at eq;cases eq
   ·rw [hv] at eq;cases eq;exact bZ hQ
 have f2:Frm R G (G.set c (.cells [.rslice (H1.length+1) 0 (S.done.length+1+1) 1 true,.slice ta 1 (S.pos.map cK),.int .i64 S.place,.bool S.due,ov] aV)):=Frm.set _ h.hn gc;obtain ⟨G2,hG2⟩:∃ G2,G2=G.set c (.cells [.rslice (H1.length+1) 0 (S.done.length+1+1) 1 true,.slice ta 1 (S.pos.map cK),.int .i64 S.place,.bool S.due,ov] aV):=⟨_,rfl⟩
 rw [← hG2] at w2 f2;obtain ⟨H3,e3,s3,f3⟩:=tn1 M hC (R:=R) (c:=c) (H0:=H) (ov:=ov) S.opn.length 0 G2 _ ⟨_,_,_,_,_,_,w2⟩ w2.op (by dsimp only;omega) ho hot (by simp;omega) (by simp;omega) (fun x hx=>by cases hx);obtain ⟨P4,q4,vs4,v4,ta4,ov4,h4⟩:=s3;have u4:=h4.upd S.pos S.place false S.opn ta4 ov4 h4.op h4.oa h4.tg;refine ⟨_, ?_,⟨P4,q4,vs4,v4,ta4,ov4, ?_⟩,(((f1.trans gF).trans f2).trans f3).trans u4.2.1⟩
 ·have hln0:=fun G=>yj (G:=G) h0.op
  have hln2:=fun G=>yj (G:=G) w2.op
  dsimp only at hln2;have hw1:IntKind.i64.wrap ((S.opn.length:Int)-1)=(S.opn.length:Int)-1:=bV (by omega) (by omega);have hc0:=h0.cell;have hc2:=w2.cell;have hc4:=h4.cell;have hc10:=h.cell;have r1:∀ H,ma (some H)=some (dC,H):=fun _=>rfl
  have st5:∀ (a b c0 d e x:AV),aX [a,b,c0,d,e] 0 [x]=[x,b,c0,d,e]∧aX [a,b,c0,d,e] 3 [x]=[a,b,c0,x,e]:=fun _ _ _ _ _ _=>⟨rfl,rfl⟩
  have so1:=stO_cells (sz:=1) (H:=G) (id:=c) (off:=0) (cs:=[.rslice (H1.length+1) 0 (S.done.length+1+1) 1 true]) (T:=aV) (old:=[.rslice P 0 (S.done.length+1) 1 true,.slice ta 1 (S.pos.map cK),.int .i64 S.place,.bool S.due,ov]) rfl (by simp) rfl;have so2:=stO_cells (sz:=1) (H:=H3) (id:=c) (off:=3) (cs:=[.bool false]) (T:=aV) (old:=[.rslice P4 0 ((S.done++[S.cur++S.opn.reverse.map fY]).length+1) 1 true,.slice ta4 1 (S.pos.map cK),.int .i64 S.place,.bool S.due,ov4]) rfl (by simp) rfl
  simp only [(st5 _ _ _ _ _ _).1,(st5 _ _ _ _ _ _).2,← hG2] at so1 so2;simp only [kv_cons,kv_nil,Int.ofNat_zero] at e1 e3;dsimp only at hc1 hc10 gc hc2 hc4 e3;rw [bI M hC.docs_cutter_turn rfl (c:=kG) rfl,kG];simp (maxSteps:=3000000) (maxDischargeDepth:=6) +contextual -implicitDefEqProofs only [amC M,↓amD,Nat.reduceBEq,Nat.reduceAdd,env,aj,fO,amG,AV.cell,Nat.reduceMul,Nat.reduceLeDiff,rnc,hc0,cl5,hln0,hw1,e1,hc10,hc1,gc,app1,so1,hG2.symm,hc2,hln2,e3,hc4,so2,r1]
 ·have:=u4.1
  simpa [qa] using this
end
section
attribute [local congr] aA bo aM aC aL aG aD aq au aH aI
variable{E:bb}(M:bO bU E)
theorem vS.app{R:Nat→Prop}{c:Nat}{H:List AObj}{S:CSt}{P q:Nat}{vs:List AV}{v:AV}{ta:Tag}{ov:AV}(h:vS R c H S P q vs v ta ov)(X:List AObj):vS R c (H++X) S P q vs v ta ov:=
 ⟨h.hn,h.hP,fun i hi=>by have:=h.rl i hi;simp;omega,bD h.cell,bD h.par,h.len,fun i w l hi hl=>⟨(h.dn i w l hi hl).1.stay fun Q cs _ hQ=>bD hQ,(h.dn i w l hi hl).2⟩,h.cr.stay fun Q cs _ hQ=>bD hQ,h.ab,h.pr,by have:=h.ql;simp;omega,h.op.stay fun O cs hO=>bD hO,h.oa,h.tg⟩
theorem fS.app{R:Nat→Prop}{c:Nat}{H:List AObj}{S:CSt}(h:fS R c H S)(X:List AObj):fS R c (H++X) S:=by
 obtain ⟨P,q,vs,v,ta,ov,h⟩:=h;exact ⟨P,q,vs,v,ta,ov,h.app X⟩
theorem fS.le{R:Nat→Prop}{c:Nat}{H:List AObj}{S:CSt}(h:fS R c H S):c<H.length∧∀ i,R i→i<H.length:=by
 obtain ⟨P,q,vs,v,ta,ov,h⟩:=h;exact ⟨bZ h.cell,h.rl⟩
theorem Qu{R:Nat→Prop}{G:List AObj}{v:AV}{l:List Str}(h:OpV G v l)(ha:free R v)(hn:∀ i,R i→i<G.length)(hl:l.length≤100000000)(s:Str) :
  ∃ v' G',rap true G aP 1 16 false v (.slice .full 1 [[.str s]])=some (v',G')∧OpV G' v' (l++[s])∧free R v'∧v'.cell=true∧cC v'=some [v']∧Frm R G G'∧∀ (i:Nat) (cs:List AV) (T:TypeId),G[i]?=some (AObj.cells cs T)→T≠aP→G'[i]?=some (AObj.cells cs T):=by
 rcases h with ⟨rfl,rfl⟩ | ⟨O,junk,rfl,hg⟩
 ·refine ⟨.rslice G.length 0 1 1 true,G++[.cells [.str s] aP], ?_,.inr ⟨G.length,[],rfl,by rw [aJ];rfl⟩,fun Q o n e r eq hR=>(by cases eq;have:=hn _ hR;omega),rfl,rfl,Frm.app _ _ hn,fun i cs T hi _=>bD hi⟩
  simp only [rap,l9,kQ,or_true,if_true,jO];rw [if_pos (by simp)];rfl
 ·have hlt:=bZ hg
  have hO:=ha O _ _ _ _ rfl;have hlen:l.length*1≤(im l++junk).length:=by rw [List.length_append,gY];omega
  refine ⟨.rslice G.length 0 (l.length+1) 1 true,G.set O .dead++[.cells (im (l++[s])) aP], ?_,.inr ⟨G.length,[],by simp, ?_⟩,fun Q o n e r eq hR=>(by cases eq;have:=hn _ hR;omega),rfl,rfl,⟨by simp,fun i hi => ?_,fun i s pos hi => ?_⟩,fun i cs T hi hT => ?_⟩
  ·simp only [rap,l9,kQ,or_true,if_true,jO,hg]
   rw [if_pos ⟨trivial,trivial,hlen,by simp;omega,by simp;omega⟩];simp only [Nat.mul_one];rw [List.take_left' (by rw [gY]),uj];rfl
  ·rw [List.append_nil,show G.length=(G.set O .dead).length by simp,aJ];rfl
  ·have:=hn i hi
   rw [List.getElem?_append_left (by simp;omega),List.getElem?_set_ne (fun e:O=i=>hO (by rw [e];exact hi))]
  ·have:=(List.getElem?_eq_some_iff.1 hi).1
   rw [List.getElem?_append_left (by simp;omega),List.getElem?_set_ne (fun e=>by subst e;rw [hg] at hi;cases hi)];exact hi
  ·have:=bZ hi
   rw [List.getElem?_append_left (by simp;omega),List.getElem?_set_ne (Lo hg hi hT.symm)];exact hi
theorem Rs{G:List AObj}{v:AV}{l:List Str}{s:Str}(h:OpV G v (l++[s])){R:Nat→Prop}(ha:free R v):∃ v',xI 1 v none (some (.int .i64 (l.length:Int))) none=some v'∧OpV G v' l∧free R v'∧v'.cell=true∧cC v'=some [v']:=by
 rcases h with ⟨h,_⟩ | ⟨O,junk,rfl,hg⟩
 ·simp at h
 ·refine ⟨.rslice O 0 l.length 1 true, ?_,.inr ⟨O,.str s::junk,rfl,by rw [hg,uj,List.append_assoc];rfl⟩,fun Q o n e r eq=>(by cases eq;exact ha O _ _ _ _ rfl),rfl,rfl⟩
  have h1:dg (some (.int .i64 (l.length:Int))) (l++[s]).length=some l.length:=by simp [dg]
  simp only [xI,h1,(show dg none 0=some 0 from rfl)];cases l with
  |nil=>rfl
  |cons y t=>rw [if_pos (by simp)];simp
def kM(S:CSt)(p:ae):CSt:=sel (S.due && !(p.kind == 3)) (qa S) S
def cG(l:List Str)(p:ae):List Str:=sel (p.kind == 2) (l++[p.text]) (sel (p.kind == 3) l.dropLast l)
def Fb(S:CSt)(p:ae):CSt := { kM S p with opn:=cG (kM S p).opn p,cur:=cf (kM S p).cur p }
structure CBd (S:CSt):Prop where
 opn:S.opn.length≤100000
 opt:∀ s∈S.opn,s.length≤100000000
 done:S.done.length≤100000
 cur:S.cur.length≤100000
 txt:∀ x∈S.cur,x.text.length≤100000000
theorem GR(S:CSt)(p:ae):(kM S p).opn=S.opn:=by unfold kM;cases S.due && !(p.kind == 3)<;>rfl
theorem JM{S:CSt}(h:CBd S)(p:ae):(kM S p).done.length≤100000000∧(kM S p).cur.length≤100000000∧∀ x∈(kM S p).cur,x.text.length≤100000000:=by
 have h1:=h.opn;have h2:=h.done;have h3:=h.cur;unfold kM;cases S.due && !(p.kind == 3) with
 |false=>exact ⟨by rw [sel_false];omega,by rw [sel_false];omega,by rw [sel_false];exact h.txt⟩
 |true=>
  rw [sel_true];refine ⟨by simp [qa];omega,by simp [qa];omega,fun x hx => ?_⟩;obtain ⟨s,hs,rfl⟩:=List.mem_map.1 (show x∈S.opn.map ee from hx);exact h.opt s hs
def R1(R:Nat→Prop)(k:Nat):Nat→Prop:=fun i=>R i∨i=k
theorem fS.more{R:Nat→Prop}{c:Nat}{H:List AObj}{S:CSt}(h:fS R c H S)(x:AObj):fS (R1 R H.length) c (H++[x]) S:=by
 obtain ⟨P,q,vs,v,ta,ov,h⟩:=h;have h2:=h.app [x]
 have fr:∀ (w:AV) (l:List ae),PcV H w l→free R w→free (R1 R H.length) w:=fun w l hp hf Q o n e r eq hR=>by
  rcases hR with hR | hR
  ·exact hf Q o n e r eq hR
  ·rcases hp with ⟨_,hv⟩ | ⟨_,Q',hv,hQ⟩
   ·rw [hv] at eq;cases eq
   ·rw [hv] at eq;cases eq;have:=bZ hQ;omega
 refine ⟨P,q,vs,v,ta,ov,⟨fun hR => ?_,fun hR => ?_,fun i hi => ?_,h2.cell,h2.par,h2.len,fun i w l hi hl=>⟨(h2.dn i w l hi hl).1,(h2.dn i w l hi hl).2.1,fr w l (h.dn i w l hi hl).1 (h.dn i w l hi hl).2.2⟩,h2.cr,h2.ab,fr v _ h.cr h.pr,h2.ql,h2.op,fun Q o n e r eq hR => ?_,h2.tg⟩⟩
 ·rcases hR with hR | hR
  ·exact h.hn hR
  ·have:=bZ h.cell;omega
 ·rcases hR with hR | hR
  ·exact h.hP hR
  ·have:=bZ h.par;omega
 ·rcases hi with hi | hi
  ·have:=h.rl i hi;simp;omega
  ·simp;omega
 ·rcases hR with hR | hR
  ·exact h.oa Q o n e r eq hR
  ·rcases h.op with ⟨_,hv⟩ | ⟨O,junk,hv,hO⟩
   ·rw [hv] at eq;cases eq
   ·rw [hv] at eq;cases eq;have:=bZ hO;omega
theorem fS.mono{R R':Nat→Prop}{c:Nat}{H:List AObj}{S:CSt}(h:fS R c H S)(hr:∀ i,R' i→R i):fS R' c H S:=by
 obtain ⟨P,q,vs,v,ta,ov,h⟩:=h;exact ⟨P,q,vs,v,ta,ov,⟨fun hR=>h.hn (hr _ hR),fun hR=>h.hP (hr _ hR),fun i hi=>h.rl i (hr i hi),h.cell,h.par,h.len,fun i w l hi hl=>⟨(h.dn i w l hi hl).1,(h.dn i w l hi hl).2.1,fun Q o n e r eq hR=>(h.dn i w l hi hl).2.2 Q o n e r eq (hr _ hR)⟩,h.cr,h.ab,fun Q o n e r eq hR=>h.pr Q o n e r eq (hr _ hR),h.ql,h.op,fun Q o n e r eq hR=>h.oa Q o n e r eq (hr _ hR),h.tg⟩⟩
theorem vS.upo{R:Nat→Prop}{c:Nat}{H G:List AObj}{S:CSt}{P q:Nat}{vs:List AV}{v:AV}{ta:Tag}{ov:AV}(h:vS R c H S P q vs v ta ov)(f:Frm R H G)(hT:∀ (i:Nat) (cs:List AV) (T:TypeId),H[i]?=some (AObj.cells cs T)→T≠aP→G[i]?=some (AObj.cells cs T))(ov':AV)(opn:List Str)(ho:OpV G ov' opn)(ha:free R ov') :
  vS R c (G.set c (.cells [.rslice P 0 (S.done.length+1) 1 true,.slice ta 1 (S.pos.map cK),.int .i64 S.place,.bool S.due,ov'] aV)) { S with opn:=opn } P q vs v ta ov'∧Frm R G (G.set c (.cells [.rslice P 0 (S.done.length+1) 1 true,.slice ta 1 (S.pos.map cK),.int .i64 S.place,.bool S.due,ov'] aV))∧True:=by
 have gc:=hT c _ _ h.cell DJ.symm;exact ⟨⟨h.hn,h.hP,fun i hi=>by have:=h.rl i hi;have:=f.len;simp;omega,List.getElem?_set_self (bZ gc),gi gc DK (hT P _ _ h.par JK.symm),h.len,fun i w l hi hl=>⟨(h.dn i w l hi hl).1.stay fun Q cs _ hQ=>gi gc BW (hT Q _ _ hQ BX.symm),(h.dn i w l hi hl).2⟩,h.cr.stay fun Q cs _ hQ=>gi gc BW (hT Q _ _ hQ BX.symm),h.ab,h.pr,by have:=h.ql;have:=f.len;simp;omega,ho.stay fun O cs hO=>gi gc DJ hO,ha,h.tg⟩,Frm.set _ h.hn gc,trivial⟩
theorem GS(hC:mI E){R:Nat→Prop}{c:Nat}{H:List AObj}{S:CSt}(hS:fS R c H S)(hB:CBd S) :
  ∃ H',M.run di [.ptr c 0] H=some (.ret (.tuple []),H')∧fS R c H' (qa S)∧Frm R H H':=Nd M hC hS (by have:=hB.opn;omega) hB.opt hB.done hB.cur hB.txt
theorem Nf{R:Nat→Prop}{c:Nat}{H:List AObj}{S:CSt}(h:fS R c H S):∃ cs,H[c]?=some (.cells cs aV)∧bh none cs 3=some (.bool S.due):=by
 obtain ⟨P,q,vs,v,ta,ov,h⟩:=h;exact ⟨_,h.cell,rfl⟩
theorem Pr(hC:mI E){R:Nat→Prop}{c:Nat}{H:List AObj}{S:CSt}(hS:fS R c H S)(hB:CBd S){p:ae}(hp:p.text.length≤100000000)(hop:(p.kind == 3)=true→S.opn≠[]) :
  ∃ H',M.run jh [.ptr c 0,.agg p.row] H=some (.ret (.tuple []),H')∧fS R c H' (Fb S p)∧Frm R H H':=by
 have h23:(p.kind == 3)=true→(p.kind == 2)=false:=fun h=>by rw [eq_of_beq h];rfl
 obtain ⟨l1,l2⟩:=hS.le;have h0:=hS.more (.cells p.row ah);have f0:Frm R H (H++[AObj.cells p.row ah]):=Frm.app _ _ l2;obtain ⟨b1,b2,b3⟩:=JM hB p;have hcR:∀ i,R i→R1 R H.length i:=fun i hi=>.inl hi
 have r1:∀ H,ma (some H)=some (dC,H):=fun _=>rfl
 have st5:∀ (a b c0 d e x:AV),aX [a,b,c0,d,e] 4 [x]=[a,b,c0,d,x]:=fun _ _ _ _ _ _=>rfl
 obtain ⟨cs0,g0,g0d⟩:=Nf h0;have hopn:=GR S p;have hpo:=hB.opn;have gx:=aJ H [AObj.cells p.row ah];rw [List.getElem?_cons_zero] at gx
 obtain ⟨H1,c1,c2,c3⟩:∃ H1,fS (R1 R H.length) c H1 (kM S p)∧Frm (R1 R H.length) (H++[AObj.cells p.row ah]) H1∧sel (S.due && !(p.kind == 3)) (M.run di [.ptr c 0] (H++[AObj.cells p.row ah])=some (.ret (.tuple []),H1)) (H1=H++[AObj.cells p.row ah]):=by
  cases hd:S.due && !(p.kind == 3) with
  |false=>exact ⟨_,by unfold kM;rw [hd];exact h0,Frm.refl _ _,rfl⟩
  |true=>
   obtain ⟨H1,t1,t2,t3⟩:=GS M hC h0 hB;exact ⟨H1,by unfold kM;rw [hd];exact t2,t3,t1⟩
 have hx1:H1[H.length]?=some (.cells p.row ah):=by rw [c2.low _ (.inr rfl),aJ];rfl
 have e1:(S.due && !(p.kind == 3))=false→kM S p=S:=fun h=>by unfold kM;rw [h];rfl
 rw [show Fb S p = { kM S p with opn:=cG (kM S p).opn p,cur:=cf (kM S p).cur p } from rfl];generalize kM S p=S1 at *
 obtain ⟨P,q,vs,v,ta,ov,h1⟩:=c1;have hw1:IntKind.i64.wrap ((S.opn.length:Int)-1)=(S.opn.length:Int)-1:=bV (by omega) (by omega);have hcl:=h1.cell
 have last:∀ {H2:List AObj}{S2:CSt},fS (R1 R H.length) c H2 S2→Frm (R1 R H.length) H1 H2→S2.done=S1.done→S2.cur=S1.cur→∃ H3,M.run br [.ptr c 0,.agg p.row] H2=some (.ret (.tuple []),H3)∧fS R c H3 { S2 with cur:=cf S2.cur p }∧Frm R H H3∧H2[H.length]?=some (.cells p.row ah):=fun {H2 S2} w f e1 e2=>by
  obtain ⟨H3,p1,p2,p3,_⟩:=xm M hC w (by rw [e1];exact b1) (by rw [e2];exact b2) (by rw [e2];exact b3) hp;exact ⟨H3,p1,p2.mono hcR,((f0.trans (c2.mono hcR)).trans (f.mono hcR)).trans (p3.mono hcR),by rw [f.low _ (.inr rfl)];exact hx1⟩
 cases k2:p.kind == 2 with
 |true=>
  have k3:(p.kind == 3)=false:=by rw [eq_of_beq k2];rfl
  obtain ⟨ov',G,a1,a2,a3,a4,a5,a6,a7⟩:=Qu h1.op h1.oa h1.rl (by rw [hopn];omega) p.text;have gc:=a7 c _ _ h1.cell DJ.symm;have so:=stO_cells (sz:=1) (H:=G) (id:=c) (off:=4) (cs:=[ov']) (T:=aV) (old:=[.rslice P 0 (S1.done.length+1) 1 true,.slice ta 1 (S1.pos.map cK),.int .i64 S1.place,.bool S1.due,ov]) rfl (by simp) (by simp [a4]);simp only [st5] at so;obtain ⟨u1,u2,_⟩:=vS.upo (h:=h1) a6 a7 ov' (S1.opn++[p.text]) a2 a3
  obtain ⟨H3,q1,q2,q3,q4⟩:=last ⟨P,q,vs,v,ta,ov',u1⟩ (a6.trans u2) rfl rfl;refine ⟨H3, ?_,by simpa [cG,k2,k3,sel_true,sel_false] using q2,q3⟩;rw [bI M hC.docs_cutter_tag rfl (c:=eD) rfl,eD];cases hd:S.due with
  |true=>
   rw [hd,k3] at c3;simp only [Bool.not_false,Bool.and_self,sel_true] at c3;simp (maxSteps:=3000000) (maxDischargeDepth:=6) +contextual -implicitDefEqProofs only [amC M,↓amD,Nat.reduceBEq,Nat.reduceAdd,env,aj,gB,amG,AV.cell,Nat.reduceMul,Nat.reduceLeDiff,rnc,gx,g0,g0d,hd,k2,k3,bP,c3,hx1,hcl,cl5,a1,gc,a5,so,q4,q1,r1]
  |false=>
   have hS1:=e1 (by rw [hd];rfl);have hd1:S1.due=false:=by rw [hS1];exact hd
   rw [hd] at c3;simp only [Bool.false_and,sel_false] at c3;subst c3;rw [hd1] at hcl gc so q1 q4;simp (maxSteps:=3000000) (maxDischargeDepth:=6) +contextual -implicitDefEqProofs only [amC M,↓amD,Nat.reduceBEq,Nat.reduceAdd,env,aj,gB,amG,AV.cell,Nat.reduceMul,Nat.reduceLeDiff,rnc,gx,hd1,k2,k3,bP,hcl,cl5,a1,gc,a5,so,q4,q1,r1]
 |false=>
  cases k3:p.kind == 3 with
  |true=>
   have hne:=hop k3
   obtain ⟨l,s,hls⟩:∃ l s,S1.opn=l++[s]:=by
    rcases List.eq_nil_or_concat S1.opn with h | ⟨l,s,h⟩
    ·rw [hopn] at h;exact absurd h hne
    ·exact ⟨l,s,by simpa using h⟩
   have hlen:S.opn.length=l.length+1:=by rw [← hopn,hls];simp
   have ho:=h1.op;rw [hls] at ho;obtain ⟨ov',o1,o2,o3,o4,o5⟩:=Rs ho h1.oa;obtain ⟨u1,u2,_⟩:=h1.upd S1.pos S1.place S1.due l ta ov' o2 o3 h1.tg;obtain ⟨H3,q1,q2,q3,q4⟩:=last ⟨P,q,vs,v,ta,ov',u1⟩ u2 rfl rfl;have hl0:qh (H++[AObj.cells p.row ah]) .sl ov=some (.int .i64 ((l.length+1:Nat):Int)):=by have:=yj (G:=H++[AObj.cells p.row ah]) ho;simpa using this
   have hl1:qh H1 .sl ov=some (.int .i64 ((l.length+1:Nat):Int)):=by have:=yj (G:=H1) ho;simpa using this
   have hw2:IntKind.i64.wrap (((l.length+1:Nat):Int)-1)=(l.length:Int):=by rw [bV (by omega) (by omega)];omega
   refine ⟨H3, ?_,by simpa [cG,k2,k3,hls,sel_true,sel_false] using q2,q3⟩;rw [k3] at c3;simp only [Bool.not_true,Bool.and_false,sel_false] at c3;subst c3;rw [bI M hC.docs_cutter_tag rfl (c:=eD) rfl,eD];have so:=stO_cells (sz:=1) (H:=H++[AObj.cells p.row ah]) (id:=c) (off:=4) (cs:=[ov']) (T:=aV) (old:=[.rslice P 0 (S1.done.length+1) 1 true,.slice ta 1 (S1.pos.map cK),.int .i64 S1.place,.bool S1.due,ov]) rfl (by simp) (by simp [o4])
   simp only [st5] at so;cases hd1:S1.due<;>(rw [hd1] at hcl so;try rw [hd1] at q1 q4)<;>simp (maxSteps:=3000000) (maxDischargeDepth:=6) +contextual -implicitDefEqProofs only [amC M,↓amD,Nat.reduceBEq,Nat.reduceAdd,env,aj,gB,amG,AV.cell,Nat.reduceMul,Nat.reduceLeDiff,rnc,gx,hd1,k2,k3,bP,hcl,cl5,hl0,hw2,o1,o5,so,q4,q1,r1]
  |false=>
   obtain ⟨H3,q1,q2,q3,q4⟩:=last ⟨P,q,vs,v,ta,ov,h1⟩ (Frm.refl _ _) rfl rfl;refine ⟨H3, ?_,by simpa [cG,k2,k3,sel_true,sel_false] using q2,q3⟩;rw [bI M hC.docs_cutter_tag rfl (c:=eD) rfl,eD];cases hd:S.due with
   |true=>
    rw [hd,k3] at c3;simp only [Bool.not_false,Bool.and_self,sel_true] at c3;simp (maxSteps:=3000000) (maxDischargeDepth:=6) +contextual -implicitDefEqProofs only [amC M,↓amD,Nat.reduceBEq,Nat.reduceAdd,env,aj,gB,amG,AV.cell,Nat.reduceMul,Nat.reduceLeDiff,rnc,gx,g0,g0d,hd,k2,k3,bP,c3,hx1,q1,r1]
   |false=>
    rw [hd] at c3;simp only [Bool.false_and,sel_false] at c3;subst c3;simp (maxSteps:=3000000) (maxDischargeDepth:=6) +contextual -implicitDefEqProofs only [amC M,↓amD,Nat.reduceBEq,Nat.reduceAdd,env,aj,gB,amG,AV.cell,Nat.reduceMul,Nat.reduceLeDiff,rnc,gx,g0,g0d,hd,k2,k3,bP,q1,r1]
end
section
attribute [local congr] aA bo aM aC aL aG aD aq au aH aI
variable{E:bb}(M:bO bU E)
def gd(S:CSt):CSt:=sel S.due (qa S) S
def zG(l:List Int)(n:Nat):Bool:=match l with
 |[]=>false
 |x::_=>x == (n:Int)
def pz(S:CSt)(p:ae):CSt:=
 let S1:=gd S
 let h:=zG S1.pos (S1.place+1)
 {S1 with cur:=cf S1.cur p,place:=S1.place+1,pos:=sel h S1.pos.tail S1.pos,due:=sel h true S1.due }
theorem Ps{S:CSt}(h:CBd S):(gd S).done.length≤100000000∧(gd S).cur.length≤100000000∧∀ x∈(gd S).cur,x.text.length≤100000000:=by
 have:=JM h ⟨0,[],false⟩;unfold kM at this;rw [show (S.due && !((0:Int) == 3))=S.due by simp] at this;exact this
theorem Pt(S:CSt):(gd S).place=S.place:=by unfold gd;cases S.due<;>rfl
theorem GT(hC:mI E){R:Nat→Prop}{c:Nat}{H:List AObj}{S:CSt}(hS:fS R c H S)(hB:CBd S)(hpl:S.place≤100000000){p:ae}(hp:p.text.length≤100000000) :
  ∃ H',M.run dK [.ptr c 0,.agg p.row] H=some (.ret (.tuple []),H')∧fS R c H' (pz S p)∧Frm R H H':=by
 obtain ⟨l1,l2⟩:=hS.le;have h0:=hS.more (.cells p.row ah);have f0:Frm R H (H++[AObj.cells p.row ah]):=Frm.app _ _ l2;obtain ⟨b1,b2,b3⟩:=Ps hB;have hcR:∀ i,R i→R1 R H.length i:=fun i hi=>.inl hi
 have r1:∀ H,ma (some H)=some (dC,H):=fun _=>rfl
 obtain ⟨cs0,g0,g0d⟩:=Nf h0;have gx:=aJ H [AObj.cells p.row ah];rw [List.getElem?_cons_zero] at gx
 obtain ⟨H1,c1,c2,c3⟩:∃ H1,fS (R1 R H.length) c H1 (gd S)∧Frm (R1 R H.length) (H++[AObj.cells p.row ah]) H1∧sel S.due (M.run di [.ptr c 0] (H++[AObj.cells p.row ah])=some (.ret (.tuple []),H1)) (H1=H++[AObj.cells p.row ah]):=by
  cases hd:S.due with
  |false=>exact ⟨_,by unfold gd;rw [hd];exact h0,Frm.refl _ _,rfl⟩
  |true=>
   obtain ⟨H1,t1,t2,t3⟩:=GS M hC h0 hB;exact ⟨H1,by unfold gd;rw [hd];exact t2,t3,t1⟩
 have hx1:H1[H.length]?=some (.cells p.row ah):=by rw [c2.low _ (.inr rfl),aJ];rfl
 have hpl1:=Pt S;rw [show pz S p = { gd S with cur:=cf (gd S).cur p,place:=(gd S).place+1,pos:=sel (zG (gd S).pos ((gd S).place+1)) (gd S).pos.tail (gd S).pos,due:=sel (zG (gd S).pos ((gd S).place+1)) true (gd S).due } from rfl];generalize gd S=S1 at *
 obtain ⟨H2,q1,q2,q3,_⟩:=xm M hC c1 b1 b2 b3 hp;have f2:Frm R H H2:=(f0.trans (c2.mono hcR)).trans (q3.mono hcR);obtain ⟨P,q,vs,v,ta,ov,h2⟩:=q2.mono hcR;have hw1:IntKind.i64.wrap ((S1.place:Int)+1)=((S1.place+1:Nat):Int):=by rw [bV (by omega) (by omega)];rfl
 have st5:(∀ (a b c0 d e x:AV),aX [a,b,c0,d,e] 2 [x]=[a,b,x,d,e])∧(∀ (a b c0 d e x:AV),aX [a,b,c0,d,e] 1 [x]=[a,x,c0,d,e])∧(∀ (a b c0 d e x:AV),aX [a,b,c0,d,e] 3 [x]=[a,b,c0,x,e]):=⟨fun _ _ _ _ _ _=>rfl,fun _ _ _ _ _ _=>rfl,fun _ _ _ _ _ _=>rfl⟩
 obtain ⟨w3,f3,_⟩:=h2.upd S1.pos (S1.place+1) S1.due S1.opn ta ov h2.op h2.oa h2.tg;dsimp only at w3 f3;have hc2:=h2.cell;dsimp only at hc2;have so3:=stO_cells (sz:=1) (H:=H2) (id:=c) (off:=2) (cs:=[.int .i64 ((S1.place+1:Nat):Int)]) (T:=aV) (old:=[.rslice P 0 (S1.done.length+1) 1 true,.slice ta 1 (S1.pos.map cK),.int .i64 S1.place,.bool S1.due,ov]) rfl (by simp) rfl;simp only [st5] at so3;generalize hG3:H2.set c (AObj.cells [.rslice P 0 (S1.done.length+1) 1 true,.slice ta 1 (S1.pos.map cK),.int .i64 ((S1.place+1:Nat):Int),.bool S1.due,ov] aV)=G3 at w3 f3 so3
 have hc3:=w3.cell;dsimp only at hc3;cases hh:zG S1.pos (S1.place+1) with
 |false=>
  refine ⟨_, ?_,⟨P,q,vs,v,ta,ov,w3⟩,f2.trans f3⟩;cases hps:S1.pos with
  |nil=>
   rw [hps] at hc2 hc3 so3 hG3;simp only [List.map_nil] at hc2 hc3 so3 hG3;have d0:decide ((0:Int)<((0:Nat):Int))=false:=rfl;rw [bI M hC.docs_cutter_unit rfl (c:=dQ) rfl,dQ];cases hd:S.due with
   |true=>
    rw [hd,sel_true] at c3;simp (maxSteps:=3000000) (maxDischargeDepth:=6) +contextual -implicitDefEqProofs only [amC M,↓amD,Nat.reduceBEq,Nat.reduceAdd,env,aj,eO,amG,AV.cell,Nat.reduceMul,Nat.reduceLeDiff,rnc,gx,g0,g0d,hd,bP,c3,hx1,q1,hc2,cl5,hw1,so3,hG3,hc3,List.map_nil,List.length_nil,d0,r1]
   |false=>
    rw [hd,sel_false] at c3;subst c3;simp (maxSteps:=3000000) (maxDischargeDepth:=6) +contextual -implicitDefEqProofs only [amC M,↓amD,Nat.reduceBEq,Nat.reduceAdd,env,aj,eO,amG,AV.cell,Nat.reduceMul,Nat.reduceLeDiff,rnc,gx,g0,g0d,hd,bP,q1,hc2,cl5,hw1,so3,hG3,hc3,List.map_nil,List.length_nil,d0,r1]
  |cons x t=>
   rw [hps] at hc2 hc3 so3 hG3 hh;have hx0:(x == ((S1.place+1:Nat):Int))=false:=hh;have d0:decide ((0:Int)<(((x::t).length:Nat):Int))=true:=decide_eq_true (by simp);have hir:=a8 (row:=cK) (l:=x::t) (tag:=ta) (sz:=1) (k:=.i64) (i:=0) (by simp);rw [Int.ofNat_zero] at hir;generalize hpp:x::t=pp at hc2 hc3 so3 hG3 d0 hir;have hp0:pp[0]?=some x:=by rw [← hpp];rfl
   rw [bI M hC.docs_cutter_unit rfl (c:=dQ) rfl,dQ];cases hd:S.due with
   |true=>
    rw [hd,sel_true] at c3;simp (maxSteps:=3000000) (maxDischargeDepth:=6) +contextual -implicitDefEqProofs only [amC M,↓amD,Nat.reduceBEq,Nat.reduceAdd,env,aj,eO,amG,AV.cell,Nat.reduceMul,Nat.reduceLeDiff,rnc,gx,g0,g0d,hd,bP,c3,hx1,q1,hc2,cl5,hw1,so3,hG3,hc3,List.length_map,d0,hir,hp0,JB,hx0,r1]
   |false=>
    rw [hd,sel_false] at c3;subst c3;simp (maxSteps:=3000000) (maxDischargeDepth:=6) +contextual -implicitDefEqProofs only [amC M,↓amD,Nat.reduceBEq,Nat.reduceAdd,env,aj,eO,amG,AV.cell,Nat.reduceMul,Nat.reduceLeDiff,rnc,gx,g0,g0d,hd,bP,q1,hc2,cl5,hw1,so3,hG3,hc3,List.length_map,d0,hir,hp0,JB,hx0,r1]
 |true=>
  obtain ⟨x,t,hps⟩:∃ x t,S1.pos=x::t:=by
   cases hq:S1.pos with
   |nil=>rw [hq] at hh;cases hh
   |cons x t=>exact ⟨x,t,rfl⟩
  have hx0:(x == ((S1.place+1:Nat):Int))=true:=by rw [hps] at hh;exact hh
  have d0:decide ((0:Int)<(((x::t).length:Nat):Int))=true:=decide_eq_true (by simp);have hir:=a8 (row:=cK) (l:=x::t) (tag:=ta) (sz:=1) (k:=.i64) (i:=0) (by simp);rw [Int.ofNat_zero] at hir
  have hsl:xI 1 (.slice ta 1 ((x::t).map cK)) (some (.int .i64 1)) none none=some (.slice .any 1 (t.map cK)):=by
   simp [xI,dg];exact List.take_of_length_le (by simp)
  obtain ⟨w4,f4,_⟩:=w3.upd t (S1.place+1) S1.due S1.opn .any ov w3.op w3.oa (.inl rfl);dsimp only at w4 f4;rw [hps] at hc2 hc3 so3 hG3;have so4:=stO_cells (sz:=1) (H:=G3) (id:=c) (off:=1) (cs:=[.slice .any 1 (t.map cK)]) (T:=aV) (old:=[.rslice P 0 (S1.done.length+1) 1 true,.slice ta 1 ((x::t).map cK),.int .i64 ((S1.place+1:Nat):Int),.bool S1.due,ov]) rfl (by simp) rfl;simp only [st5] at so4;generalize hG4:G3.set c (AObj.cells [.rslice P 0 (S1.done.length+1) 1 true,.slice .any 1 (t.map cK),.int .i64 ((S1.place+1:Nat):Int),.bool S1.due,ov] aV)=G4 at w4 f4 so4
  have hc4:=w4.cell;dsimp only at hc4;obtain ⟨w5,f5,_⟩:=w4.upd t (S1.place+1) true S1.opn .any ov w4.op w4.oa (.inl rfl);dsimp only at w5 f5;have so5:=stO_cells (sz:=1) (H:=G4) (id:=c) (off:=3) (cs:=[.bool true]) (T:=aV) (old:=[.rslice P 0 (S1.done.length+1) 1 true,.slice .any 1 (t.map cK),.int .i64 ((S1.place+1:Nat):Int),.bool S1.due,ov]) rfl (by simp) rfl;simp only [st5] at so5;refine ⟨_, ?_,⟨P,q,vs,v,.any,ov,by rw [hps];exact w5⟩,((f2.trans f3).trans f4).trans f5⟩
  generalize hpp:x::t=pp at hc2 hc3 so3 hG3 so4 d0 hir hsl;have hp0:pp[0]?=some x:=by rw [← hpp];rfl
  rw [bI M hC.docs_cutter_unit rfl (c:=dQ) rfl,dQ];cases hd:S.due with
  |true=>
   rw [hd,sel_true] at c3;simp (maxSteps:=3000000) (maxDischargeDepth:=6) +contextual -implicitDefEqProofs only [amC M,↓amD,Nat.reduceBEq,Nat.reduceAdd,env,aj,eO,amG,AV.cell,Nat.reduceMul,Nat.reduceLeDiff,rnc,gx,g0,g0d,hd,bP,c3,hx1,q1,hc2,cl5,hw1,so3,hG3,hc3,List.length_map,d0,hir,hp0,JB,hx0,hsl,so4,hG4,hc4,so5,r1]
  |false=>
   rw [hd,sel_false] at c3;subst c3;simp (maxSteps:=3000000) (maxDischargeDepth:=6) +contextual -implicitDefEqProofs only [amC M,↓amD,Nat.reduceBEq,Nat.reduceAdd,env,aj,eO,amG,AV.cell,Nat.reduceMul,Nat.reduceLeDiff,rnc,gx,g0,g0d,hd,bP,q1,hc2,cl5,hw1,so3,hG3,hc3,List.length_map,d0,hir,hp0,JB,hx0,hsl,so4,hG4,hc4,so5,r1]
end
section
attribute [local congr] aA bo aM aC aL aG aD aq au aH aI
variable{E:bb}(M:bO bU E)
def yk(r:Nat):Str:=(Utf8.encode (r:Int)).data.toList
def pA(r:Nat):ae:=⟨1,yk r,false⟩
theorem Pu(r:Nat):(yk r).length≤4:=by
 unfold yk;simp only [Utf8.encode]
 repeat' split
 all_goals simp [ByteArray.size,ByteArray.push,ByteArray.empty,ByteArray.emptyWithCapacity]
theorem B1(r:Nat):(pA r).text.length≤4:=by
 have h:=Pu r;simpa only [pA] using h
def Fc(S:CSt)(p:ae):CSt:=sel (p.kind == 1) ((dv p.text).foldl (fun S r=>pz S (pA r)) S) (sel (p.kind == 5) (pz S p) (Fb S p))
structure CBm (m:Nat) (S:CSt):Prop where
 opn:S.opn.length≤m
 opt:∀ s∈S.opn,s.length≤m
 done:S.done.length≤m
 cur:S.cur.length≤2*m
 txt:∀ x∈S.cur,x.text.length≤m
 place:S.place≤m
theorem CBm.mono{m n:Nat}{S:CSt}(h:CBm m S)(hn:m≤n):CBm n S:=⟨Nat.le_trans h.opn hn,fun s hs=>Nat.le_trans (h.opt s hs) hn,Nat.le_trans h.done hn,by have:=h.cur;omega,fun x hx=>Nat.le_trans (h.txt x hx) hn,Nat.le_trans h.place hn⟩
theorem CBm.bd{m:Nat}{S:CSt}(h:CBm m S)(hm:m≤50000):CBd S:=⟨by have:=h.opn;omega,fun s hs=>by have:=h.opt s hs;omega,by have:=h.done;omega,by have:=h.cur;omega,fun x hx=>by have:=h.txt x hx;omega⟩
theorem JN{m:Nat}{S:CSt}(h:CBm m S):CBm (m+1) (qa S):=⟨Nat.le_trans h.opn (by omega),fun s hs=>Nat.le_trans (h.opt s hs) (by omega),by simp [qa];exact h.done,by simp [qa];have:=h.opn;omega,fun x hx=>by
 obtain ⟨s,hs,rfl⟩:=List.mem_map.1 (show x∈S.opn.map ee from hx);exact Nat.le_trans (h.opt s hs) (by omega),Nat.le_trans h.place (by omega)⟩
theorem B2(l:List ae)(p:ae):(cf l p).length≤l.length+1:=by
 rcases List.eq_nil_or_concat l with rfl | ⟨t,x,rfl⟩
 ·simp [cf]
 ·rw [List.concat_eq_append,fE]
  cases p.kind == 1&&x.kind == 1<;>simp [sel_true,sel_false]
theorem B3{l:List ae}{p:ae}{m w:Nat}(h:∀ x∈l,x.text.length≤m)(hp:p.text.length≤w):∀ x∈cf l p,x.text.length≤m+w:=by
 intro y hy;rcases List.eq_nil_or_concat l with rfl | ⟨t,x,rfl⟩
 ·simp [cf] at hy;subst hy;omega
 ·rw [List.concat_eq_append] at hy h
  rw [fE] at hy;cases hk:p.kind == 1&&x.kind == 1 with
  |true=>
   rw [hk,sel_true] at hy;rcases List.mem_append.1 hy with hy | hy
   ·have:=h y (List.mem_append_left _ hy);omega
   ·rw [List.mem_singleton] at hy;subst hy
    have:=h x (by simp);simp only [List.length_append];omega
  |false=>
   rw [hk,sel_false] at hy;rcases List.mem_append.1 hy with hy | hy
   ·have:=h y hy;omega
   ·rw [List.mem_singleton] at hy;subst hy;omega
theorem Pv{m:Nat}{S:CSt}(h:CBm m S):CBm (m+1) (gd S):=by
 unfold gd;cases S.due
 ·exact h.mono (by omega)
 ·exact JN h
theorem Pw{m:Nat}{S:CSt}(h:CBm m S)(p:ae):CBm (m+1) (kM S p):=by
 unfold kM;cases S.due && !(p.kind == 3)
 ·exact h.mono (by omega)
 ·exact JN h
theorem Fe{m w:Nat}{S:CSt}(h:CBm m S){p:ae}(hp:p.text.length≤w):CBm (m+w+2) (pz S p):=by
 have h1:=Pv h;refine ⟨by have:=h1.opn;simp only [pz];omega,fun s hs=>by have:=h1.opt s hs;omega,by have:=h1.done;simp only [pz];omega,by have:=h1.cur;have:=B2 (gd S).cur p;simp only [pz];omega,fun x hx => ?_,by have:=h1.place;simp only [pz];omega⟩;have:=B3 h1.txt hp x hx;omega
theorem Rt{m w:Nat}{S:CSt}(h:CBm m S){p:ae}(hp:p.text.length≤w):CBm (m+w+2) (Fb S p):=by
 have h1:=Pw h p
 have ho:(cG (kM S p).opn p).length≤(kM S p).opn.length+1∧∀ s∈cG (kM S p).opn p,s.length≤m+1+w:=by
  unfold cG;cases p.kind == 2 with
  |true=>
   refine ⟨by simp [sel_true],fun s hs => ?_⟩;rw [sel_true] at hs;rcases List.mem_append.1 hs with hs | hs
   ·have:=h1.opt s hs;omega
   ·rw [List.mem_singleton] at hs;subst hs;omega
  |false=>
   cases p.kind == 3 with
   |true=>exact ⟨by simp [sel_true,sel_false];omega,fun s hs=>by rw [sel_false,sel_true] at hs;have:=h1.opt s (List.dropLast_subset _ hs);omega⟩
   |false=>exact ⟨by simp [sel_false],fun s hs=>by rw [sel_false,sel_false] at hs;have:=h1.opt s hs;omega⟩
 refine ⟨by have:=h1.opn;have:=ho.1;simp only [Fb];omega,fun s hs=>by have:=ho.2 s hs;omega,by have:=h1.done;simp only [Fb];omega,by have:=h1.cur;have:=B2 (kM S p).cur p;simp only [Fb];omega,fun x hx => ?_,by have:=h1.place;simp only [Fb];omega⟩;have:=B3 h1.txt hp x hx;omega
theorem GU:∀ (rs:List Nat) {m:Nat}{S:CSt},CBm m S→CBm (m+6*rs.length) (rs.foldl (fun S r=>pz S (pA r)) S)
 |[],m,S,h=>by simpa using h
 |r::rs,m,S,h=>by
  rw [List.foldl_cons];have h1:=Fe (w:=4) (p:=pA r) h (B1 r);have h2:=GU rs h1;exact h2.mono (by simp only [List.length_cons];omega)
theorem JO{m:Nat}{S:CSt}(h:CBm m S)(p:ae):CBm (m+(6*p.text.length+2)) (Fc S p):=by
 unfold Fc;have hr:=px p.text;cases p.kind == 1 with
 |true=>rw [sel_true];exact (GU _ h).mono (by omega)
 |false=>
  rw [sel_false];cases p.kind == 5 with
  |true=>rw [sel_true];exact (Fe h (Nat.le_refl _)).mono (by omega)
  |false=>rw [sel_false];exact (Rt h (Nat.le_refl _)).mono (by omega)
def DM(S:CSt)(l:List ae):CSt:=l.foldl Fc S
def szP(p:ae):Nat:=6*p.text.length+2
def GV:List ae→Nat→Prop
 |[],_=>True
 |x::l,n=>((x.kind == 3)=true→0<n)∧GV l (if x.kind == 2 then n+1 else if x.kind == 3 then n-1 else n)
theorem GW(S:CSt)(p:ae):(pz S p).opn=S.opn:=by
 show (gd S).opn=S.opn;unfold gd;cases S.due<;>rfl
theorem DN:∀ (rs:List Nat) (S:CSt),(rs.foldl (fun S r=>pz S (pA r)) S).opn=S.opn
 |[],S=>rfl
 |r::rs,S=>by rw [List.foldl_cons,DN rs,GW]
theorem Px{S:CSt}{p:ae}:(Fc S p).opn.length=(if p.kind == 2 then S.opn.length+1 else if p.kind == 3 then S.opn.length-1 else S.opn.length):=by
 unfold Fc;cases k1:p.kind == 1 with
 |true=>rw [sel_true,DN,eq_of_beq k1];rfl
 |false=>
  rw [sel_false];cases k5:p.kind == 5 with
  |true=>rw [sel_true,GW,eq_of_beq k5];rfl
  |false=>
   rw [sel_false];show (cG (kM S p).opn p).length=_;rw [GR,cG];cases p.kind == 2 with
   |true=>simp [sel_true]
   |false=>cases p.kind == 3<;>simp [sel_true,sel_false]
theorem fS.setit{R:Nat→Prop}{c:Nat}{H:List AObj}{S:CSt}(h:fS R c H S){t:Nat}{s:Str}{i:Nat}(ht:H[t]?=some (.siter s i))(j:Nat):fS R c (H.set t (.siter s j)) S:=by
 obtain ⟨P,q,vs,v,ta,ov,h⟩:=h
 have hs:∀ {k:Nat}{cs:List AV}{T:TypeId},H[k]?=some (.cells cs T)→(H.set t (.siter s j))[k]?=some (.cells cs T):=fun {k cs T} hk=>by
  rw [List.getElem?_set_ne (fun e=>by subst e;rw [ht] at hk;cases hk)];exact hk
 exact ⟨P,q,vs,v,ta,ov,⟨h.hn,h.hP,fun i hi=>by simpa using h.rl i hi,hs h.cell,hs h.par,h.len,fun i w l hi hl=>⟨(h.dn i w l hi hl).1.stay fun Q cs _ hQ=>hs hQ,(h.dn i w l hi hl).2⟩,h.cr.stay fun Q cs _ hQ=>hs hQ,h.ab,h.pr,by simpa using h.ql,h.op.stay fun O cs hO=>hs hO,h.oa,h.tg⟩⟩
theorem Ru:∀ (k:IntKind) (n:Int),Oh (.int k n)=some (.str (Utf8.encode n).data.toList):=fun _ _=>rfl
theorem ct0(hC:mI E){R:Nat→Prop}{c t:Nat}{s:Str}(hs:s.length≤bH)(htR:¬ R t){H0:List AObj}{v15 v16 v17:AV}:∀ (n i m:Nat) (H:List AObj) (S:CSt),s.length-i≤n→i≤s.length→H[t]?=some (.siter s i)→fS R c H S→CBm m S→m+6*(s.length-i)≤50000 →
  ∃ H',(∀ (k:List Fra) (He:List AObj),M.go iw H0 (.c lG :: .lp ⟨(some [6,15,16,17,30]),[],false⟩ lG He :: .blk 3 :: .c (.lv [6,15,16,17])::k) (kv [(6,.ptr c 0),(15,v15),(16,v16),(17,v17),(30,.ptr t 0)]) H=M.go iw H0 k (kv [(6,.ptr c 0),(15,v15),(16,v16),(17,v17)]) H')∧fS R c H' ((dv (s.drop i)).foldl (fun S r=>pz S (pA r)) S)∧H.length≤H'.length∧∀ i,R i→H'[i]?=H[i]?
 |n,i,m,H,S,hn,hi,ht,hS,hb,hm=>by
  by_cases hlt:i<s.length
  ·have hne:s.drop i≠[]:=fun e=>by have:=congrArg List.length e;simp at this;omega
   have hw:=pq (s.drop i);have hle:=EW hne;rw [List.length_drop] at hle;have hdd:Utf8.decode ⟨s.toArray⟩ i=cT (s.drop i):=Dz s i;rw [uh hne,List.foldl_cons,List.drop_drop];generalize cT (s.drop i)=d at *
   have htl:=(List.getElem?_eq_some_iff.1 ht).1;have h1:=hS.setit ht (i+d.2);obtain ⟨H1,u1,u2,u3⟩:=GT M hC h1 (hb.bd (by omega)) (by have:=hb.place;omega) (p:=pA d.1) (Nat.le_trans (B1 d.1) (by omega));have ht1:H1[t]?=some (.siter s (i+d.2)):=u3.it t _ _ (List.getElem?_set_self htl);obtain ⟨H2,i1,i2,i3,i4⟩:=ct0 hC hs htR (H0:=H0) (v15:=v15) (v16:=v16) (v17:=v17) (n-1) (i+d.2) (m+6) H1 _ (by omega) (by omega) ht1 u2 (Fe hb (B1 d.1)) (by omega)
   refine ⟨H2,fun k He => ?_,i2,by have:=u3.len;simp at this;omega,fun j hj => ?_⟩
   ·rw [← i1 k H1]
    have hbd:M.run dK [.ptr c 0,.agg [.int .u8 1,.str (Utf8.encode (d.1:Int)).data.toList,.bool false]] (H.set t (.siter s (i+d.2)))=some (.ret (.tuple []),H1):=by have u:=u1;simp only [ae.row,pA,yk] at u;exact u
    rw [ak M lG.eq_1];simp (maxSteps:=3000000) (maxDischargeDepth:=6) +contextual -implicitDefEqProofs only [amC M,↓amD,Nat.reduceBEq,Nat.reduceAdd,env,aj,kD,amG,AV.cell,Nat.reduceMul,Nat.reduceLeDiff,Aj,ht,hlt,hdd,cX,List.getElem?_cons_succ,List.getElem?_cons_zero,Ru,hbd]
   ·rw [i4 j hj,u3.low j hj,List.getElem?_set_ne (fun e=>htR (by rw [e];exact hj))]
  ·obtain rfl:i=s.length:=by omega
   rw [List.drop_length];refine ⟨H,fun k He => ?_,hS,Nat.le_refl _,fun _ _=>rfl⟩;rw [ak M lG.eq_1];simp (maxSteps:=3000000) (maxDischargeDepth:=6) +contextual -implicitDefEqProofs only [amC M,↓amD,Nat.reduceBEq,Nat.reduceAdd,env,aj,kD,Aj,ht,List.getElem?_cons_zero,Nat.lt_irrefl,cX]
end
section
attribute [local congr] aA bo aM aC aL aG aD aq au aH aI
variable{E:bb}(M:bO bU E)
theorem Se:∀ (G:List AObj) (s:Str),rrg G (.str s)=some (.ptr G.length 0,G++[.siter s 0]):=fun _ _=>rfl
def IG(l:List ae):Nat:=(l.map szP).sum
theorem yl(x:ae)(l:List ae):IG (x::l)=szP x+IG l:=by simp [IG]
theorem ct1(hC:mI E){R:Nat→Prop}{c:Nat}{l:List ae}{tg:Tag}(hl:l.length≤bH)(htx:∀ x∈l,x.text.length≤bH){H0:List AObj}:∀ (n i m:Nat) (H:List AObj) (S:CSt),i+n=l.length→fS R c H S→CBm m S→GV (l.drop i) S.opn.length→m+IG (l.drop i)≤50000 →
  ∃ H',(∀ (k:List Fra) (He:List AObj),M.go iw H0 (.c eB :: .lp ⟨(some [6,15,16,17]),[],false⟩ eB He :: .blk 0 :: .c (.lv [6])::k) (kv [(6,.ptr c 0),(15,.slice tg 3 (l.map ae.row)),(16,.int .i64 l.length),(17,.int .i64 i)]) H=M.go iw H0 k (kv [(6,.ptr c 0)]) H')∧fS R c H' (DM S (l.drop i))∧H.length≤H'.length∧∀ i,R i→H'[i]?=H[i]?
 |0,i,m,H,S,h,hS,hb,hop,hm=>by
  have e:i=l.length:=by omega
  subst e;refine ⟨H,fun k He => ?_,by rw [List.drop_length];exact hS,Nat.le_refl _,fun _ _=>rfl⟩;rw [ak M eB.eq_1];simp (maxSteps:=3000000) (maxDischargeDepth:=6) +contextual -implicitDefEqProofs only [amC M,↓amD,Nat.reduceBEq,Nat.reduceAdd,env,aj,kD,Nat.lt_irrefl]
 |n+1,i,m,H,S,h,hS,hb,hop,hm=>by
  have hi:i<l.length:=by omega
  have hx:l[i]?=some l[i]:=List.getElem?_eq_getElem hi;have hd:(l.drop i)=l[i]::l.drop (i+1):=List.drop_eq_getElem_cons hi;have hmem:l[i]∈l:=List.getElem_mem hi;have hwi:=cV (n:=l.length) hi hl;have hir:=a8 (row:=ae.row) (tag:=tg) (sz:=3) (k:=.i64) hi;rw [hd] at hop hm ⊢;rw [yl,szP] at hm;obtain ⟨hop1,hop2⟩:=hop;rw [← Px] at hop2;have htl:=htx _ hmem;have hb2:=JO hb l[i];obtain ⟨l1,l2⟩:=hS.le;have h1:=hS.app [AObj.cells l[i].row ah]
  have gx:=aJ H [AObj.cells l[i].row ah];rw [List.getElem?_cons_zero] at gx;have hbd:=hb.bd (by omega)
  have one:∃ H1,fS R c H1 (Fc S l[i])∧H.length≤H1.length∧(∀ j,R j→H1[j]?=H[j]?)∧(∀ k He,M.go iw H0 (.c eB :: .lp ⟨(some [6,15,16,17]),[],false⟩ eB He :: .blk 0 :: .c (.lv [6])::k) (kv [(6,.ptr c 0),(15,.slice tg 3 (l.map ae.row)),(16,.int .i64 l.length),(17,.int .i64 i)]) H=M.go iw H0 (.c eB :: .lp ⟨(some [6,15,16,17]),[],false⟩ eB H1 :: .blk 0 :: .c (.lv [6])::k) (kv [(6,.ptr c 0),(15,.slice tg 3 (l.map ae.row)),(16,.int .i64 l.length),(17,.int .i64 ((i+1:Nat):Int))]) H1):=by
   unfold Fc;cases k1:l[i].kind == 1 with
   |true=>
    rw [sel_true];have h2:=h1.app [AObj.siter l[i].text 0];obtain ⟨H1,t1,t2,t3,t4⟩:=ct0 M hC (t:=H.length+1) htl (fun hR=>by have:=l2 _ hR;omega) (H0:=H0) (v15:=.slice tg 3 (l.map ae.row)) (v16:=.int .i64 l.length) (v17:=.int .i64 i) l[i].text.length 0 m _ _ (by omega) (by omega) (by rw [List.append_assoc,hp_getk];rfl) h2 hb (by omega);refine ⟨H1,by simpa using t2,by simp at t3;omega,fun j hj => ?_,fun k He => ?_⟩
    ·have:=l2 j hj
     rw [t4 j hj,List.getElem?_append_left (by simp;omega),List.getElem?_append_left this]
    ·simp only [kv_cons,kv_nil,List.append_assoc,List.cons_append,List.nil_append] at t1
     rw [ak M eB.eq_1];simp (maxSteps:=3000000) (maxDischargeDepth:=6) +contextual -implicitDefEqProofs only [amC M,↓amD,Nat.reduceBEq,Nat.reduceAdd,env,aj,kD,amG,AV.cell,Nat.reduceMul,Nat.reduceLeDiff,hi,hx,hir,hwi,bP,gx,k1,Se,t1]
   |false=>
    rw [sel_false];cases k5:l[i].kind == 5 with
    |true=>
     rw [sel_true];obtain ⟨H1,u1,u2,u3⟩:=GT M hC h1 hbd (by have:=hb.place;omega) (p:=l[i]) (by omega);refine ⟨H1,u2,by have:=u3.len;simp at this;omega,fun j hj=>by rw [u3.low j hj,List.getElem?_append_left (l2 j hj)],fun k He => ?_⟩;rw [ak M eB.eq_1];simp (maxSteps:=3000000) (maxDischargeDepth:=6) +contextual -implicitDefEqProofs only [amC M,↓amD,Nat.reduceBEq,Nat.reduceAdd,env,aj,kD,amG,AV.cell,Nat.reduceMul,Nat.reduceLeDiff,hi,hx,hir,hwi,bP,gx,k1,k5,u1]
    |false=>
     rw [sel_false]
     obtain ⟨H1,u1,u2,u3⟩:=Pr M hC h1 hbd (p:=l[i]) (by omega) (fun hk=>by
      intro e;have:=hop1 hk;rw [e] at this;simp at this)
     refine ⟨H1,u2,by have:=u3.len;simp at this;omega,fun j hj=>by rw [u3.low j hj,List.getElem?_append_left (l2 j hj)],fun k He => ?_⟩;rw [ak M eB.eq_1];simp (maxSteps:=3000000) (maxDischargeDepth:=6) +contextual -implicitDefEqProofs only [amC M,↓amD,Nat.reduceBEq,Nat.reduceAdd,env,aj,kD,amG,AV.cell,Nat.reduceMul,Nat.reduceLeDiff,hi,hx,hir,hwi,bP,gx,k1,k5,u1]
  obtain ⟨H1,o1,o2,o3,o4⟩:=one;obtain ⟨H2,i1,i2,i3,i4⟩:=ct1 hC hl htx (H0:=H0) (tg:=tg) n (i+1) (m+(6*l[i].text.length+2)) H1 _ (by omega) o1 hb2 hop2 (by omega);exact ⟨H2,fun k He=>by rw [o4 k He,i1 k H1],i2,by omega,fun j hj=>by rw [i4 j hj,o3 j hj]⟩
end
section
attribute [local congr] aA bo aM aC aL aG aD aq au aH aI
variable{E:bb}(M:bO bU E)
def nL(l:List ae):Bool:=decide ((512:Int)<(l.length:Int))
theorem Ng(hC:mI E){G:List AObj}{w:AV}{l:List ae}(h:PcV G w l):M.run eP [w] G=some (.ret (.bool (nL l)),G):=by
 rw [bI M hC.docs_cut_1 rfl (c:=rV) rfl,rV];have hl:=fun H=>IF (G:=H) h
 simp (maxSteps:=3000000) (maxDischargeDepth:=6) +contextual -implicitDefEqProofs only [amC M,↓amD,Nat.reduceBEq,Nat.reduceAdd,env,aj,EM,hl,nL]
theorem ixl(hC:mI E){G H0:List AObj}(hc:db H0 G){P:Nat}{ws:List AV}{pl:List (List ae)}(hP:G[P]?=some (.cells ws al))(hl:ws.length=pl.length)(hb:pl.length≤100000000)(hw:∀ (i:Nat) (w:AV) (l:List ae),ws[i]?=some w→pl[i]?=some l→PcV G w l):∀ (n i:Nat),i+n=pl.length →
  sel ((pl.drop i).any nL) (∃ j:Nat,∀ (k:List Fra) (He:List AObj),M.go aR H0 (.c aF :: .lp ⟨(some [0,1,7,8]),[],false⟩ aF He :: .blk 0 :: .c (.lv [])::k) (kv [(0,.rslice P 0 pl.length 1 true),(1,.fn (.func eP) [] []),(7,.int .i64 pl.length),(8,.int .i64 i)]) G=some (.ret (.int .i64 j),G.take H0.length))
   (∀ (k:List Fra) (He:List AObj),M.go aR H0 (.c aF :: .lp ⟨(some [0,1,7,8]),[],false⟩ aF He :: .blk 0 :: .c (.lv [])::k) (kv [(0,.rslice P 0 pl.length 1 true),(1,.fn (.func eP) [] []),(7,.int .i64 pl.length),(8,.int .i64 i)]) G=M.go aR H0 k .leaf G)
 |0,i,h=>by
  have e:i=pl.length:=by omega
  subst e;rw [List.drop_length,List.any_nil,sel_false];intro k He;rw [ak M aF.eq_1];simp (maxSteps:=3000000) (maxDischargeDepth:=6) +contextual -implicitDefEqProofs only [amC M,↓amD,Nat.reduceBEq,Nat.reduceAdd,env,aj,bG,Nat.lt_irrefl]
 |n+1,i,h=>by
  have hi:i<pl.length:=by omega
  have hiw:i<ws.length:=by omega
  have hx:pl[i]?=some pl[i]:=List.getElem?_eq_getElem hi;have hxw:ws[i]?=some ws[i]:=List.getElem?_eq_getElem hiw;have hd:(pl.drop i)=pl[i]::pl.drop (i+1):=List.drop_eq_getElem_cons hi;have hf:=Ng M hC (hw i _ _ hxw hx);have hia:=mV (id:=P) hi .i64;have hld:bh none ws i=some ws[i]:=by simp only [bh,hxw]
  have hwi:=cV (n:=pl.length) hi (by simp only [bH];omega);rw [hd,List.any_cons];cases hbg:nL pl[i] with
  |true=>
   rw [Bool.true_or,sel_true];refine ⟨i,fun k He => ?_⟩;rw [ak M aF.eq_1];simp (maxSteps:=3000000) (maxDischargeDepth:=6) +contextual -implicitDefEqProofs only [amC M,↓amD,Nat.reduceBEq,Nat.reduceAdd,env,aj,bG,hi,hP,hia,hld,hf,hbg,hc]
  |false=>
   have ih:=ixl hC hc hP hl hb hw n (i+1) (by omega);rw [Bool.false_or]
   have step:∀ (k:List Fra) (He:List AObj),M.go aR H0 (.c aF :: .lp ⟨(some [0,1,7,8]),[],false⟩ aF He :: .blk 0 :: .c (.lv [])::k) (kv [(0,.rslice P 0 pl.length 1 true),(1,.fn (.func eP) [] []),(7,.int .i64 pl.length),(8,.int .i64 i)]) G=M.go aR H0 (.c aF :: .lp ⟨(some [0,1,7,8]),[],false⟩ aF G :: .blk 0 :: .c (.lv [])::k) (kv [(0,.rslice P 0 pl.length 1 true),(1,.fn (.func eP) [] []),(7,.int .i64 pl.length),(8,.int .i64 ((i+1:Nat):Int))]) G:=fun k He=>by
    rw [ak M aF.eq_1];simp (maxSteps:=3000000) (maxDischargeDepth:=6) +contextual -implicitDefEqProofs only [amC M,↓amD,Nat.reduceBEq,Nat.reduceAdd,env,aj,bG,hi,hP,hia,hld,hf,hbg,hwi]
   cases ha:(pl.drop (i+1)).any nL with
   |true=>
    rw [ha,sel_true] at ih;rw [sel_true];obtain ⟨j,ih⟩:=ih;exact ⟨j,fun k He=>by rw [step k He,ih k G]⟩
   |false=>
    rw [ha,sel_false] at ih;rw [sel_false];exact fun k He=>by rw [step k He,ih k G]
theorem Lp(hC:mI E){G:List AObj}{P:Nat}{ws:List AV}{pl:List (List ae)}(hP:G[P]?=some (.cells ws al))(hl:ws.length=pl.length)(hb:pl.length≤100000000)(hw:∀ (i:Nat) (w:AV) (l:List ae),ws[i]?=some w→pl[i]?=some l→PcV G w l) :
  M.run bS [.rslice P 0 pl.length 1 true,.fn (.func eP) [] []] G=some (.ret (.bool (pl.any nL)),G):=by
 have h:=ixl M hC (cut_refl G) hP hl hb hw pl.length 0 (by omega);rw [List.drop_zero] at h
 have hi:∃ z:Int,decide ((0:Int)≤z)=pl.any nL∧M.run dj [.rslice P 0 pl.length 1 true,.fn (.func eP) [] []] G=some (.ret (.int .i64 z),G):=by
  cases ha:pl.any nL with
  |true=>
   rw [ha,sel_true] at h;obtain ⟨j,h⟩:=h;simp only [kv_cons,kv_nil,Int.ofNat_zero] at h;refine ⟨(j:Int),decide_eq_true (by omega), ?_⟩;rw [bI M hC.slices_IndexFunc_api_Piece_api_Piece rfl (c:=bE) rfl,bE];simp (maxSteps:=3000000) (maxDischargeDepth:=6) +contextual -implicitDefEqProofs only [amC M,↓amD,Nat.reduceBEq,Nat.reduceAdd,env,aj,bG,h,hp_self]
  |false=>
   rw [ha,sel_false] at h;simp only [kv_cons,kv_nil,Int.ofNat_zero] at h;refine ⟨-1,rfl, ?_⟩;rw [bI M hC.slices_IndexFunc_api_Piece_api_Piece rfl (c:=bE) rfl,bE];simp (maxSteps:=3000000) (maxDischargeDepth:=6) +contextual -implicitDefEqProofs only [amC M,↓amD,Nat.reduceBEq,Nat.reduceAdd,env,aj,bG,h,hp_self,cut_refl]
 obtain ⟨z,z1,z2⟩:=hi;rw [bI M hC.slices_ContainsFunc_api_Piece_api_Piece rfl (c:=cR) rfl,cR];simp (maxSteps:=3000000) (maxDischargeDepth:=6) +contextual -implicitDefEqProofs only [amC M,↓amD,Nat.reduceBEq,Nat.reduceAdd,env,aj,iD,z2,z1]
def lV(l:List ae):Tag:=match l with
 |[]=>.nil
 |_=>.any
def plR(l:List ae):List AV:=[.slice (lV l) 3 (l.map ae.row)]
theorem DO:∀ l:List ae,gG 3 l.length (pcC l)=l.map ae.row
 |[]=>rfl
 |x::l=>by
  rw [List.length_cons,show pcC (x::l)=x.row++pcC l from rfl,gG,List.map_cons,show (x.row++pcC l).drop 3=pcC l from rfl,DO l];rfl
theorem GX:∀ l:List AV,gG 1 l.length l=l.map fun w=>[w]
 |[]=>rfl
 |x::l=>by rw [List.length_cons,gG,List.map_cons,List.drop_one,List.tail_cons,GX l];rfl
theorem Nh{k n:Nat}{H:List AObj}(l:List ae):eh (eh (fzF (k+1) n H)) (l.map ae.row)=some (l.map ae.row):=
 AY fun x _=>b9 (vw _ _ _ _ _) (b9 (Q4 _ _ _ _) (b9 (zN _ _ _ _) (dE _)))
theorem Qv{k n:Nat}{G:List AObj}{w:AV}{l:List ae}(h:PcV G w l)(hf:free (fun i=>i<n) w):fzF (k+2) n G w=some (.slice (lV l) 3 (l.map ae.row)):=by
 rcases h with ⟨rfl,rfl⟩ | ⟨hne,Q,rfl,hQ⟩
 ·exact pX (t:=.nil) (dE _)
 ·have hn:=hf Q _ _ _ _ rfl
  have ht:lV l = .any:=by
   cases l with
   |nil=>exact absurd rfl hne
   |cons x l=>rfl
  rw [ht];exact Dt (by omega) hQ (by rw [p9];omega) (by rw [List.drop_zero,DO];exact Nh l)
theorem Ff:∀ (l:List ae) {m:Nat}{S:CSt},CBm m S→CBm (m+IG l) (DM S l)
 |[],m,S,h=>by
  show CBm (m+0) S;exact h
 |x::l,m,S,h=>by
  have h1:=Ff l (JO h x);rw [yl,szP,← Nat.add_assoc];exact h1
def GY(l:List ae)(pos:List Int):CSt:=DM ⟨[],[],pos,0,false,[]⟩ l
def nM(l:List ae)(pos:List Int):List (List ae):=(GY l pos).done++[(GY l pos).cur]
def Rv(l:List ae)(pos:List Int):AV:=.tuple [.slice .any 1 ((nM l pos).map plR),.bool (!(nM l pos).any nL)]
theorem Py(hC:mI E){l:List ae}{tg ta:Tag}{pos:List Int}(hl:l.length≤bH)(htx:∀ x∈l,x.text.length≤bH)(hta:ta = .any∨ta = .some∨pos=[]∨∃ t,ta = .own t)(hop:GV l 0)(hm:IG l≤50000)(H:List AObj) :
  M.run rM [.slice tg 3 (l.map ae.row),.slice ta 1 (pos.map cK)] H=some (.ret (Rv l pos),H):=by
 obtain ⟨G,hG⟩:∃ G,G=H++[AObj.cells [.slice .nil 3 []] al,AObj.cells [.rslice H.length 0 1 1 true,.slice ta 1 (pos.map cK),.int .i64 0,.bool false,.slice .nil 1 []] aV]:=⟨_,rfl⟩
 have w0:fS (fun i=>i<H.length) (H.length+1) G ⟨[],[],pos,0,false,[]⟩:=by
  refine ⟨H.length,H.length+2,[],.slice .nil 3 [],ta,.slice .nil 1 [],⟨by omega,by omega,fun i hi=>by rw [hG];simp;omega,by rw [hG,hp_getk];rfl,by rw [hG,aJ];rfl,rfl,fun i w l h=>by simp at h,.inl ⟨rfl,rfl⟩,fun Q o n e r eq=>(by cases eq),fun Q o n e r eq=>(by cases eq),by rw [hG];simp,.inl ⟨rfl,rfl⟩,fun Q o n e r eq=>(by cases eq),hta⟩⟩
 have b0:CBm 0 ⟨[],[],pos,0,false,[]⟩:=⟨Nat.le_refl _,fun s hs=>(by cases hs),Nat.le_refl _,Nat.le_refl _,fun x hx=>(by cases hx),Nat.le_refl _⟩
 obtain ⟨H1,c1,c2,c3,c4⟩:=ct1 M hC (tg:=tg) hl htx (H0:=H) l.length 0 0 G _ (by omega) w0 b0 (by rw [List.drop_zero];exact hop) (by rw [List.drop_zero];omega);rw [List.drop_zero] at c2;have hS:DM ⟨[],[],pos,0,false,[]⟩ l=GY l pos:=rfl;rw [hS] at c2;obtain ⟨P,q,vs,v,ta',ov,h⟩:=c2;have hlen:(vs++[v]).length=(nM l pos).length:=by simp [nM,h.len]
 have hws:∀ (i:Nat) (w:AV) (p:List ae),(vs++[v])[i]?=some w→(nM l pos)[i]?=some p→PcV H1 w p∧free (fun i=>i<H.length) w:=fun i w p hi hp=>by
  by_cases hlt:i<vs.length
  ·rw [List.getElem?_append_left hlt] at hi
   rw [nM,List.getElem?_append_left (by rw [← h.len];exact hlt)] at hp;have:=h.dn i w p hi hp;exact ⟨this.1,this.2.2⟩
  ·have hi2:i=vs.length:=by
    have:=(List.getElem?_eq_some_iff.1 hi).1;simp at this;omega
   subst hi2;rw [List.getElem?_append_right (Nat.le_refl _),Nat.sub_self,List.getElem?_cons_zero] at hi;rw [nM,List.getElem?_append_right (by rw [h.len];exact Nat.le_refl _),h.len,Nat.sub_self,List.getElem?_cons_zero] at hp;cases hi;cases hp;exact ⟨h.cr,h.pr⟩
 have hk:H1.take H.length=H:=by
  refine List.ext_getElem? fun i => ?_
  by_cases hi:i<H.length
  ·rw [List.getElem?_take_of_lt hi,c4 i hi,hG,List.getElem?_append_left hi]
  ·rw [List.getElem?_eq_none (by simp;omega),List.getElem?_eq_none (by omega)]
 have hcut:db H H1:=⟨by have:=h.rl;rw [hG] at c3;simp at c3;omega,fun i x hi hx=>.inl (by rw [← hk,List.getElem?_take_of_lt hi];exact hx)⟩
 have hfz:Fz H.length H1 (.tuple [.rslice P 0 ((GY l pos).done.length+1) 1 true,.bool (!(nM l pos).any nL)]) (Rv l pos):=by
  refine ⟨6,oU (b9 (Dt (by have:=h.hP;omega) h.par (by simp [h.len]) ?_) (b9 (zN _ _ _ _) (dE _)))⟩;rw [List.drop_zero,show (GY l pos).done.length+1=(vs++[v]).length by simp [h.len],GX];refine AZ (by rw [List.length_map,List.length_map];exact hlen) fun i x y hx hy => ?_
  rw [List.getElem?_map] at hx hy;cases hxi:(vs++[v])[i]? with
  |none=>rw [hxi] at hx;cases hx
  |some w=>
   cases hyi:(nM l pos)[i]? with
   |none=>rw [hyi] at hy;cases hy
   |some p=>
    rw [hxi] at hx;rw [hyi] at hy;cases hx;cases hy;obtain ⟨g1,g2⟩:=hws i w p hxi hyi;exact b9 (Qv g1 g2) (dE _)
 have hh:=kB hcut hfz;rw [hk] at hh;have hdn:=(Ff l b0).done;rw [hS] at hdn;have hlc:(GY l pos).done.length+1=(nM l pos).length:=by rw [← hlen];simp [h.len]
 have hcf:=Lp M hC (P:=P) (ws:=vs++[v]) (pl:=nM l pos) h.par hlen (by omega) fun i w p hi hp=>(hws i w p hi hp).1
 have hcl:=h.cell;rw [hlc] at hcl hh;simp only [kv_cons,kv_nil,Int.ofNat_zero] at c1;rw [hG] at c1;rw [bI M hC.docs_cut rfl (c:=vB) rfl,vB];simp (maxSteps:=3000000) (maxDischargeDepth:=6) +contextual -implicitDefEqProofs only [amC M,↓amD,Nat.reduceBEq,Nat.reduceAdd,env,aj,kD,amG,AV.cell,Nat.reduceMul,Nat.reduceLeDiff,rnc,List.length_map,c1,hcl,cl5,hcf,hh]
end
section
attribute [local congr] aA bo aM aC aL aG aD aq au aH aI
variable{E:bb}(M:bO bU E)
theorem xn:∀ (l:List ae) (p b e:Bool) (st:List Str),BL l p b e st=0→GV l st.length
 |[],_,_,_,_,_=>trivial
 |x::l,p,b,e,st,h=>by
  rw [BL] at h;cases h1:GE x with
  |true=>rw [h1,sel_true] at h;cases h
  |false=>
  rw [h1,sel_false] at h;cases h2:EY x with
  |true=>rw [h2,sel_true] at h;cases h
  |false=>
  rw [h2,sel_false] at h;cases h3:K7 p x with
  |true=>rw [h3,sel_true] at h;cases h
  |false=>
  rw [h3,sel_false] at h;cases h4:EZ x with
  |true=>rw [h4,sel_true] at h;cases h
  |false=>
  rw [h4,sel_false] at h;cases h5:jN b e x with
  |false=>rw [h5,sel_false] at h;cases h
  |true=>
  rw [h5,sel_true] at h;cases h6:(x.kind == 3) && !xd st x.text with
  |true=>rw [h6,sel_true] at h;cases h
  |false=>
  rw [h6,sel_false] at h;cases k3:x.kind == 3 with
  |true=>
   have k2:(x.kind == 2)=false:=by rw [eq_of_beq k3];rfl
   rw [k3,Bool.true_and,Bool.not_eq_false'] at h6;rw [k2,sel_false] at h;have hst:stP x st=st.tail:=by unfold stP;simp [k3]
   have hne:st≠[]:=fun e=>by rw [e] at h6;cases h6
   rw [hst] at h;have ih:=xn l _ _ _ _ h;refine ⟨fun _=>List.length_pos_iff.2 hne, ?_⟩;rw [if_neg (by simp [k2]),if_pos k3];rwa [List.length_tail] at ih
  |false=>
   have hst:stP x st=st:=by unfold stP;simp [k3]
   rw [hst] at h;cases k2:x.kind == 2 with
   |true=>
    rw [k2,sel_true] at h;cases h7:decide ((16:Int)<((x.text::st).length:Int)) with
    |true=>rw [h7,sel_true] at h;cases h
    |false=>
     rw [h7,sel_false] at h;have ih:=xn l _ _ _ _ h;refine ⟨fun hk=>(by rw [k3] at hk;cases hk), ?_⟩;rw [if_pos k2];exact ih
   |false=>
    rw [k2,sel_false] at h;have ih:=xn l _ _ _ _ h;refine ⟨fun hk=>(by rw [k3] at hk;cases hk), ?_⟩;rw [if_neg (by simp [k2]),if_neg (by simp [k3])];exact ih
theorem II{l:List ae}(h:c9 l=0):GV l 0:=by
 unfold c9 at h;cases hb:decide ((512:Int)<(l.length:Int)) with
 |true=>rw [hb] at h;cases h
 |false=>rw [hb,sel_false] at h;exact xn l _ _ _ [] h
theorem Fg:∀ l:List ae,IG l=6*gR l+2*l.length
 |[]=>rfl
 |x::l=>by
  rw [yl,Fg l,szP,gR,gR,List.map_cons,List.sum_cons,List.length_cons];omega
def okA(n:Int):Option Int→List Int→Bool
 |_,[]=>true
 |p,k::t => !(decide (k<1))&&(!(decide (n-1<k))&&((match p with
  |none=>true
  |some q => !(decide (k≤q)))&&okA n (some k) t))
theorem xo(n:Int)(p:Option Int)(k:Int)(t:List Int):okA n p (k::t)=(!(decide (k<1))&&(!(decide (n-1<k))&&((match p with
  |none=>true
  |some q => !(decide (k≤q)))&&okA n (some k) t))):=by rw [okA.eq_def]
def Qw(l:List ae)(pos:List Int):AV:=
 sel (c9 l == 0) (sel (okA ((unL l).length:Int) none pos) (sel ((nM l pos).any nL) (.tuple [.slice .any 1 [],.int .u8 3]) (.tuple [.slice .any 1 ((nM l pos).map plR),.int .u8 0])) (.tuple [.slice .any 1 [],.int .u8 1])) (.tuple [.slice .any 1 [],.int .u8 (c9 l)])
end
section
attribute [local congr] aA bo aM aC aL aG aD aq au aH aI
variable{E:bb}(M:bO bU E)
def pB(x:ae):List ae:=sel (x.kind == 1) ((dv x.text).map pA) [x]
def iK(l:List ae):List ae:=(l.map pB).flatten
end
section
attribute [local congr] aA bo aM aC aL aG aD aq au aH aI
variable{E:bb}(M:bO bU E)
structure zH (t:Nat) (R:Nat→Prop) (H:List AObj) (S:CSt) (q:Nat) (vs:List AV) (v ov:AV):Prop where
 rl:∀ i,R i→i<H.length
 tr:¬ R t
 tok:H[t]?=some (.tok (vs.length*1) al)
 len:vs.length=S.done.length
 dn:∀ (i:Nat) (w:AV) (l:List ae),vs[i]?=some w→S.done[i]?=some l→PcV H w l∧below q w∧free R w
 cr:PcV H v S.cur
 ab:JJ q v
 pr:free R v
 ql:q≤H.length
 op:OpV H ov S.opn
 oa:free R ov
structure C3 (R:Nat→Prop) (H H':List AObj):Prop where
 len:H.length≤H'.length
 low:∀ i,R i→H'[i]?=H[i]?
theorem C3.refl(R:Nat→Prop)(H:List AObj):C3 R H H:=⟨Nat.le_refl _,fun _ _=>rfl⟩
theorem C3.trans{R:Nat→Prop}{A B C:List AObj}(h:C3 R A B)(k:C3 R B C):C3 R A C:=⟨Nat.le_trans h.len k.len,fun i hi=>(k.low i hi).trans (h.low i hi)⟩
theorem zH.turned{t:Nat}{R:Nat→Prop}{H H2:List AObj}{S:CSt}{q:Nat}{vs:List AV}{v w ov:AV}(h:zH t R H S q vs v ov){cur:List ae}(hlen:H.length≤H2.length)(hs:∀ (i:Nat) (y:AObj),H[i]?=some y→(∀ Q,v = .rslice Q 0 S.cur.length 3 true→i≠Q)→H2[i]?=some y)
  (hw:PcV H2 w cur) (hwa:JJ q w) (hwf:free R w):zH t R H2 { S with cur:=cur } q vs w ov∧C3 R H H2:=by
 have nq:∀ (i:Nat) (y:AObj),H[i]?=some y→(∀ cs,y≠.cells cs ah)→∀ Q,v = .rslice Q 0 S.cur.length 3 true→i≠Q:=fun i y hi hy Q e ei=>by
  obtain ⟨ds,hd⟩:=GP h.cr e;subst ei;rw [hi] at hd;cases hd;exact hy ds rfl
 refine ⟨⟨fun i hi=>Nat.lt_of_lt_of_le (h.rl i hi) hlen,h.tr,hs t _ h.tok (nq t _ h.tok fun cs e=>by cases e),h.len,fun i w' l hi hl => ?_,hw,hwa,hwf,Nat.le_trans h.ql hlen,h.op.stay fun O cs hO=>hs O _ hO (nq O _ hO fun ds e=>by injection e with _ e;exact BX e),h.oa⟩,⟨hlen,fun i hi => ?_⟩⟩
 ·obtain ⟨h1,h2,h3⟩:=h.dn i w' l hi hl
  refine ⟨h1.stay fun Q cs e hQ=>hs Q _ hQ fun Q' e' ei => ?_,h2,h3⟩;have a1:=h2 Q _ _ _ _ e;have a2:=h.ab Q' _ _ _ _ e';omega
 ·have hin:=h.rl i hi
  rw [List.getElem?_eq_getElem hin];exact hs i _ (List.getElem?_eq_getElem hin) fun Q e ei=>h.pr Q _ _ _ _ e (ei ▸ hi)
theorem zH.more{t:Nat}{R:Nat→Prop}{H:List AObj}{S:CSt}{q:Nat}{vs:List AV}{v ov:AV}(h:zH t R H S q vs v ov)(hl:S.cur.length≤100000000)(p:ae) :
  ∃ w G,rap true H ah 3 32 false v (.slice .full 3 [p.row])=some (w,G)∧zH t R G { S with cur:=S.cur++[p] } q vs w ov∧C3 R H G:=by
 obtain ⟨G,a1,a2,a3,a4⟩:=Qt h.cr hl p
 obtain ⟨b1,b2⟩:=h.turned (H2:=G) (cur:=S.cur++[p]) (w:=.rslice H.length 0 (S.cur.length+1) 3 true) (by omega) (fun i y hi hne=>by
  rw [a4 i (List.getElem?_eq_some_iff.1 hi).1 hne];exact hi) (.inr ⟨by simp,H.length,by simp,a2⟩) (fun Q o n e r eq=>by cases eq;exact h.ql) (fun Q o n e r eq hR=>by cases eq;have:=h.rl _ hR;omega)
 exact ⟨_,G,a1,b1,b2⟩
theorem Lq{H:List AObj}{v:AV}{l:List ae}(h:PcV H v l):v.strip=v:=by
 rcases h with ⟨rfl,rfl⟩ | ⟨_,Q,rfl,_⟩<;>rfl
theorem zH.push{t:Nat}{R:Nat→Prop}{H:List AObj}{S:CSt}{q:Nat}{vs:List AV}{v ov:AV}(h:zH t R H S q vs v ov)(hd:S.done.length≤100000000) :
  rap false H al 1 24 false (.slice (.own t) 1 (vs.map xk)) (.slice .full 1 [[v]])=some (.slice (.own t) 1 ((vs++[v]).map xk),H.set t (.tok ((vs++[v]).length*1) al)) ∧
   zH t R (H.set t (.tok ((vs++[v]).length*1) al)) { S with done:=S.done++[S.cur],cur:=[] } H.length (vs++[v]) (.slice .nil 3 []) ov∧C3 R H (H.set t (.tok ((vs++[v]).length*1) al)):=by
 have htl:=(List.getElem?_eq_some_iff.1 h.tok).1
 have hs:∀ {i:Nat}{cs:List AV}{T:TypeId},H[i]?=some (.cells cs T)→(H.set t (.tok ((vs++[v]).length*1) al))[i]?=some (.cells cs T):=fun {i cs T} hi=>by
  rw [List.getElem?_set_ne (fun e=>by subst e;have:=h.tok;rw [hi] at this;cases this)];exact hi
 have hvs:=h.len;refine ⟨Qs (row:=xk) (l:=vs) (x:=v) (r:=[v]) (sz:=1) (bytes:=24) h.tok rfl (by simp [(GO h.cr).1]) (by simp [Lq h.cr,xk]) (by omega) (by omega),⟨fun i hi=>by simpa using h.rl i hi,h.tr,List.getElem?_set_self htl,by simp [hvs],fun i w l hi hl => ?_,.inl ⟨rfl,rfl⟩,fun Q o n e r eq=>(by cases eq),fun Q o n e r eq=>(by cases eq),by simp,h.op.stay fun O cs hO=>hs hO,h.oa⟩,⟨by simp,fun i hi=>List.getElem?_set_ne (fun e:t=i=>h.tr (by rw [e];exact hi))⟩⟩
 by_cases hlt:i<vs.length
 ·rw [List.getElem?_append_left hlt] at hi
  rw [List.getElem?_append_left (by omega)] at hl;obtain ⟨d1,d2,d3⟩:=h.dn i w l hi hl;exact ⟨d1.stay fun Q cs _ hQ=>hs hQ,fun Q o n e r eq=>Nat.lt_of_lt_of_le (d2 Q o n e r eq) h.ql,d3⟩
 ·have hi2:i=vs.length:=by
   have:=(List.getElem?_eq_some_iff.1 hi).1;simp at this;omega
  subst hi2;rw [List.getElem?_append_right (Nat.le_refl _),Nat.sub_self,List.getElem?_cons_zero] at hi;rw [List.getElem?_append_right (by omega),show vs.length-S.done.length=0 by omega,List.getElem?_cons_zero] at hl;cases hi;cases hl;refine ⟨h.cr.stay fun Q cs _ hQ=>hs hQ,fun Q o n e r eq => ?_,h.pr⟩;rcases h.cr with ⟨_,hv⟩ | ⟨_,Q',hv,hQ⟩
  ·rw [hv] at eq;cases eq
  ·rw [hv] at eq;cases eq;exact bZ hQ
end
section
attribute [local congr] aA bo aM aC aL aG aD aq au aH aI
variable{E:bb}(M:bO bU E)
theorem zH.open{t:Nat}{R:Nat→Prop}{H:List AObj}{S:CSt}{q:Nat}{vs:List AV}{v ov:AV}(h:zH t R H S q vs v ov)(hl:S.opn.length≤100000)(s:Str) :
  ∃ w G,rap true H aP 1 16 false ov (.slice .full 1 [[.str s]])=some (w,G)∧zH t R G { S with opn:=S.opn++[s] } q vs v w∧C3 R H G:=by
 obtain ⟨w,G,a1,a2,a3,a4,a5,a6,a7⟩:=Qu h.op h.oa h.rl (by omega) s
 have tk:G[t]?=some (.tok (vs.length*1) al):=by
  have htok:=h.tok
  have:∀ O,ov≠.rslice O 0 S.opn.length 1 true∨t≠O:=fun O=>by
   rcases h.op with ⟨_,e⟩ | ⟨O',junk,e,hO⟩
   ·left;rw [e];intro h;cases h
   ·by_cases ht:t=O
    ·left;rw [e];intro h2;cases h2;rw [ht,hO] at htok;cases htok
    ·exact .inr ht
  rcases h.op with ⟨e0,e⟩ | ⟨O',junk,e,hO⟩
  ·rw [e] at a1
   simp only [rap,l9,kQ,or_true,if_true,jO] at a1;rw [if_pos (by simp)] at a1;cases a1;exact bD htok
  ·rw [e] at a1
   have hlen:S.opn.length*1≤(im S.opn++junk).length:=by rw [List.length_append,gY];omega
   simp only [rap,l9,kQ,or_true,if_true,jO,hO] at a1;rw [if_pos ⟨trivial,trivial,hlen,by simp;omega,by simp;omega⟩] at a1;cases a1;have htl:=(List.getElem?_eq_some_iff.1 htok).1;rw [List.getElem?_append_left (by simp;omega),List.getElem?_set_ne (fun e=>by subst e;rw [hO] at htok;cases htok)];exact htok
 exact ⟨w,G,a1,⟨fun i hi=>by have:=h.rl i hi;have:=a6.len;omega,h.tr,tk,h.len,fun i w' l hi hl=>⟨(h.dn i w' l hi hl).1.stay fun Q cs _ hQ=>a7 Q _ _ hQ BX.symm,(h.dn i w' l hi hl).2⟩,h.cr.stay fun Q cs _ hQ=>a7 Q _ _ hQ BX.symm,h.ab,h.pr,by have:=h.ql;have:=a6.len;omega,a2,a3⟩,⟨a6.len,a6.low⟩⟩
def uo(pos:List Int)(S:CSt)(x:ae):Bool:=decide (S.done.length<pos.length)&&(((S.place:Int) == pos.getD S.done.length 0) && !(x.kind == 3))
def pC(S:CSt):CSt := { S with done:=S.done++[S.cur++S.opn.reverse.map fY],cur:=S.opn.map ee }
def C4(S1:CSt)(x:ae):CSt := { S1 with opn:=cG S1.opn x,place:=sel ((x.kind == 1)||(x.kind == 5)) (S1.place+1) S1.place,cur:=cf S1.cur x }
def pD(pos:List Int)(S:CSt)(x:ae):CSt:=C4 (sel (uo pos S x) (pC S) S) x
end
section
attribute [local congr] aA bo aM aC aL aG aD aq au aH aI
variable{E:bb}(M:bO bU E)
end
section
attribute [local congr] aA bo aM aC aL aG aD aq au aH aI
variable{E:bb}(M:bO bU E)
theorem JP{H0 H:List AObj}(hc:db H0 H)(n:Nat)(e:Int):mb bU .deep H0 H (.tuple [.slice .nil n [],.int .u8 e])=some (.tuple [.slice .nil n [],.int .u8 e],H.take H0.length):=by
 rw [kB hc ⟨5,oU (b9 (pX (t:=.nil) (dE _)) (b9 (vw _ _ _ _ _) (dE _)))⟩];rfl
def Pz(l:List ae)(pos:List Int):CSt:=(iK l).foldl (pD pos) ⟨[],[],[],0,false,[]⟩
def Rw(l:List ae)(pos:List Int):List (List ae):=(Pz l pos).done++[(Pz l pos).cur]
end
section
attribute [local congr] aA bo aM aC aL aG aD aq au aH aI
variable{E:bb}(M:bO bU E)
theorem JQ:∀ (l:List Int) (n:Int) (p:Option Int),okA n p l=true→(∀ (i:Nat) (x y:Int),l[i]?=some x→l[i+1]?=some y→x<y)∧(∀ x∈l,1≤x∧x≤n-1)∧∀ q x,p=some q→l[0]?=some x→q<x
 |[],n,p,_=>⟨fun i x y h=>(by simp at h),fun x h=>(by cases h),fun q x _ h=>(by simp at h)⟩
 |k::t,n,p,h=>by
  rw [xo,Bool.and_eq_true,Bool.and_eq_true,Bool.and_eq_true] at h;obtain ⟨h1,h2,h3,h4⟩:=h;obtain ⟨i1,i2,i3⟩:=JQ t n (some k) h4;simp only [Bool.not_eq_true',decide_eq_false_iff_not] at h1 h2;refine ⟨fun i x y hx hy => ?_,fun x hx => ?_,fun q x hq hx => ?_⟩
  ·cases i with
   |zero=>
    rw [List.getElem?_cons_zero] at hx;rw [List.getElem?_cons_succ] at hy;exact i3 x y (by rw [← hx]) hy
   |succ i=>
    rw [List.getElem?_cons_succ] at hx hy;exact i1 i x y hx hy
  ·rcases List.mem_cons.1 hx with rfl | hx
   ·omega
   ·exact i2 x hx
  ·rw [List.getElem?_cons_zero] at hx
   subst hq;dsimp only at h3;simp only [Bool.not_eq_true',decide_eq_false_iff_not] at h3;injection hx with hx;omega
def xp(pos:List Int)(T:CSt):Bool:=decide (T.done.length<pos.length)&&((T.place:Int) == pos.getD T.done.length 0)
structure ym (pos:List Int) (S T:CSt):Prop where
 done:S.done=T.done
 cur:S.cur=T.cur
 opn:S.opn=T.opn
 place:S.place=T.place
 due:S.due=xp pos T
 pos:S.pos=pos.drop (T.done.length+(if S.due=true then 1 else 0))
theorem GZ(pos:List Int)(S:CSt)(x:ae):uo pos S x=(xp pos S && !(x.kind == 3)):=by
 unfold uo xp;rw [Bool.and_assoc]
theorem Ni{pos:List Int}(hinc:∀ (i:Nat) (x y:Int),pos[i]?=some x→pos[i+1]?=some y→x<y){T:CSt}(h:xp pos T=true):xp pos (pC T)=false:=by
 unfold xp at h ⊢;rw [Bool.and_eq_true] at h;obtain ⟨h1,h2⟩:=h;have h1:=of_decide_eq_true h1;have hx:pos[T.done.length]?=some pos[T.done.length]:=List.getElem?_eq_getElem h1;rw [List.getD_eq_getElem?_getD,hx] at h2;have h2:(T.place:Int)=pos[T.done.length]:=eq_of_beq h2;have hd:(pC T).done.length=T.done.length+1:=by simp [pC]
 have hp:(pC T).place=T.place:=rfl;rw [hd,hp]
 by_cases hlt:T.done.length+1<pos.length
 ·have hy:pos[T.done.length+1]?=some pos[T.done.length+1]:=List.getElem?_eq_getElem hlt
  have:=hinc _ _ _ hx hy;rw [List.getD_eq_getElem?_getD,hy,decide_eq_true hlt,Bool.true_and];simp only [Option.getD_some,beq_eq_false_iff_ne];omega
 ·rw [decide_eq_false hlt];rfl
theorem G5{pos:List Int}(hinc:∀ (i:Nat) (x y:Int),pos[i]?=some x→pos[i+1]?=some y→x<y){S T:CSt}(h:ym pos S T)(hd:S.due=true):ym pos (qa S) (pC T):=by
 have hh:xp pos T=true:=by rw [← h.due];exact hd
 refine ⟨by simp [qa,pC,h.done,h.cur,h.opn],by simp [qa,pC,h.opn],h.opn,h.place,(Ni hinc hh).symm, ?_⟩;have:=h.pos;rw [if_pos hd] at this;show S.pos=_;rw [this];simp [qa,pC]
theorem Lr(pos:List Int)(m n:Nat):zG (pos.drop m) n=(decide (m<pos.length)&&((n:Int) == pos.getD m 0)):=by
 by_cases hlt:m<pos.length
 ·rw [List.drop_eq_getElem_cons hlt,zG,decide_eq_true hlt,Bool.true_and,List.getD_eq_getElem?_getD,List.getElem?_eq_getElem hlt,Option.getD_some]
  rw [Bool.eq_iff_iff];simp only [beq_iff_eq];exact ⟨fun h=>h.symm,fun h=>h.symm⟩
 ·rw [List.drop_of_length_le (by omega),zG,decide_eq_false hlt];rfl
theorem G6{pos:List Int}(hinc:∀ (i:Nat) (x y:Int),pos[i]?=some x→pos[i+1]?=some y→x<y){S T:CSt}(h:ym pos S T){p:ae}(hk:(p.kind == 1)=true∨(p.kind == 5)=true):ym pos (pz S p) (pD pos T p):=by
 have k3:(p.kind == 3)=false:=by rcases hk with hk | hk<;>(rw [eq_of_beq hk];rfl)
 have k2:(p.kind == 2)=false:=by rcases hk with hk | hk<;>(rw [eq_of_beq hk];rfl)
 have k15:((p.kind == 1)||(p.kind == 5))=true:=by rcases hk with hk | hk<;>simp [hk]
 have h1:ym pos (gd S) (sel (uo pos T p) (pC T) T)∧(gd S).due=false:=by
  rw [GZ,← h.due,k3,Bool.not_false,Bool.and_true];unfold gd;cases hd:S.due with
  |true=>rw [sel_true,sel_true];exact ⟨G5 hinc h hd,rfl⟩
  |false=>rw [sel_false,sel_false];exact ⟨h,hd⟩
 obtain ⟨h1,hdf⟩:=h1;unfold pD;generalize sel (uo pos T p) (pC T) T=T1 at h1;have hps:=h1.pos;rw [if_neg (by simp [hdf]),Nat.add_zero] at hps
 have hh:zG (gd S).pos ((gd S).place+1)=xp pos (C4 T1 p):=by
  rw [hps,Lr,h1.place];simp only [xp,C4,k15,sel_true]
 refine ⟨h1.done, ?_, ?_, ?_, ?_, ?_⟩
 ·show cf (gd S).cur p=cf T1.cur p;rw [h1.cur]
 ·show (gd S).opn=cG T1.opn p
  rw [h1.opn];simp [cG,k2,k3,sel_false]
 ·show (gd S).place+1=sel ((p.kind == 1)||(p.kind == 5)) (T1.place+1) T1.place
  rw [k15,sel_true,h1.place]
 ·show sel (zG (gd S).pos ((gd S).place+1)) true (gd S).due=_
  rw [hh,hdf];cases xp pos (C4 T1 p)<;>rfl
 ·show sel (zG (gd S).pos ((gd S).place+1)) (gd S).pos.tail (gd S).pos=pos.drop (T1.done.length+if sel (zG (gd S).pos ((gd S).place+1)) true (gd S).due=true then 1 else 0)
  rw [hdf];cases zG (gd S).pos ((gd S).place+1) with
  |true=>rw [sel_true,sel_true,if_pos rfl,hps,List.tail_drop]
  |false=>rw [sel_false,sel_false,if_neg (by simp),Nat.add_zero,hps]
theorem PA{pos:List Int}(hinc:∀ (i:Nat) (x y:Int),pos[i]?=some x→pos[i+1]?=some y→x<y){S T:CSt}(h:ym pos S T){p:ae}(k1:(p.kind == 1)=false)(k5:(p.kind == 5)=false):ym pos (Fb S p) (pD pos T p):=by
 have h1:ym pos (kM S p) (sel (uo pos T p) (pC T) T):=by
  rw [GZ,← h.due];unfold kM;cases hd:S.due && !(p.kind == 3) with
  |true=>
   rw [sel_true,sel_true];rw [Bool.and_eq_true] at hd;exact G5 hinc h hd.1
  |false=>rw [sel_false,sel_false];exact h
 unfold pD;generalize sel (uo pos T p) (pC T) T=T1 at h1;have hh:xp pos (C4 T1 p)=xp pos T1:=by simp only [xp,C4,k1,k5,Bool.or_false,sel_false]
 refine ⟨h1.done, ?_, ?_, ?_,by rw [hh];exact h1.due,h1.pos⟩
 ·show cf (kM S p).cur p=cf T1.cur p;rw [h1.cur]
 ·show cG (kM S p).opn p=cG T1.opn p;rw [h1.opn]
 ·show (kM S p).place=sel ((p.kind == 1)||(p.kind == 5)) (T1.place+1) T1.place
  rw [k1,k5,Bool.or_false,sel_false,h1.place]
theorem DP{pos:List Int}(hinc:∀ (i:Nat) (x y:Int),pos[i]?=some x→pos[i+1]?=some y→x<y):∀ (rs:List Nat) {S T:CSt},ym pos S T→ym pos (rs.foldl (fun S r=>pz S (pA r)) S) ((rs.map pA).foldl (pD pos) T)
 |[],S,T,h=>h
 |r::rs,S,T,h=>by
  rw [List.foldl_cons,List.map_cons,List.foldl_cons];exact DP hinc rs (G6 hinc h (.inl rfl))
theorem G7{pos:List Int}(hinc:∀ (i:Nat) (x y:Int),pos[i]?=some x→pos[i+1]?=some y→x<y):∀ (l:List ae) {S T:CSt},ym pos S T→ym pos (DM S l) ((iK l).foldl (pD pos) T)
 |[],S,T,h=>h
 |x::l,S,T,h=>by
  have hs:iK (x::l)=pB x++iK l:=rfl;rw [hs,List.foldl_append];refine G7 hinc l (S:=Fc S x) ?_;unfold Fc pB;cases k1:x.kind == 1 with
  |true=>rw [sel_true,sel_true];exact DP hinc _ h
  |false=>
   rw [sel_false,sel_false,List.foldl_cons,List.foldl_nil];cases k5:x.kind == 5 with
   |true=>rw [sel_true];exact G6 hinc h (.inr k5)
   |false=>rw [sel_false];exact PA hinc h k1 k5
theorem Nj{l:List ae}{pos:List Int}{n:Int}(h:okA n none pos=true):nM l pos=Rw l pos:=by
 obtain ⟨h1,h2,_⟩:=JQ pos n none h
 have h0:ym pos ⟨[],[],pos,0,false,[]⟩ ⟨[],[],[],0,false,[]⟩:=by
  refine ⟨rfl,rfl,rfl,rfl, ?_,rfl⟩;unfold xp;cases pos with
  |nil=>rfl
  |cons x t=>
   have:=h2 x List.mem_cons_self;simp only [List.length_nil,List.getD_cons_zero];symm;rw [Bool.and_eq_false_iff];right;simp only [beq_eq_false_iff_ne];omega
 have:=G7 h1 l h0;unfold nM Rw;rw [show GY l pos=DM ⟨[],[],pos,0,false,[]⟩ l from rfl,show Pz l pos=(iK l).foldl (pD pos) ⟨[],[],[],0,false,[]⟩ from rfl,this.done,this.cur]
end
section
attribute [local congr] aA bo aM aC aL aG aD aq au aH aI
variable{E:bb}(M:bO bU E)
def jP(k:Int)(l:List ae):List Str:=(l.filter fun x=>x.car&&(x.kind == k)).map (·.text)
theorem DQ(k:Int)(x:ae)(l:List ae):jP k (x::l)=sel (x.car&&(x.kind == k)) [x.text] []++jP k l:=by
 unfold jP;rw [List.filter_cons];cases x.car&&(x.kind == k)<;>rfl
theorem OpV.own{H H':List AObj}{v:AV}{l:List Str}(h:OpV H v l)(hs:∀ (O:Nat) (y:AObj),v = .rslice O 0 l.length 1 true→H[O]?=some y→H'[O]?=some y):OpV H' v l:=by
 rcases h with h | ⟨O,junk,h1,h2⟩
 ·exact .inl h
 ·exact .inr ⟨O,junk,h1,hs O _ h1 h2⟩
theorem Nk{G:List AObj}{v:AV}{l:List Str}(h:OpV G v l)(hl:l.length≤100000000)(s:Str) :
  ∃ G',rap true G aP 1 16 false v (.slice .full 1 [[.str s]])=some (.rslice G.length 0 (l.length+1) 1 true,G')∧OpV G' (.rslice G.length 0 (l.length+1) 1 true) (l++[s])∧G.length<G'.length∧∀ (i:Nat) (y:AObj),G[i]?=some y→(∀ O,v = .rslice O 0 l.length 1 true→i≠O)→G'[i]?=some y:=by
 rcases h with ⟨rfl,rfl⟩ | ⟨O,junk,rfl,hg⟩
 ·refine ⟨G++[.cells [.str s] aP], ?_,.inr ⟨G.length,[],rfl,by rw [aJ];rfl⟩,by simp,fun i y hi _=>bD hi⟩
  simp only [rap,l9,kQ,or_true,if_true,jO];rw [if_pos (by simp)];rfl
 ·have hlt:=bZ hg
  have hlen:l.length*1≤(im l++junk).length:=by rw [List.length_append,gY];omega
  refine ⟨G.set O .dead++[.cells (im (l++[s])) aP], ?_,.inr ⟨G.length,[],by simp, ?_⟩,by simp,fun i y hi hne => ?_⟩
  ·simp only [rap,l9,kQ,or_true,if_true,jO,hg]
   rw [if_pos ⟨trivial,trivial,hlen,by simp;omega,by simp;omega⟩];simp only [Nat.mul_one];rw [List.take_left' (by rw [gY]),uj];rfl
  ·rw [List.append_nil,show G.length=(G.set O .dead).length by simp,aJ];rfl
  ·have:=(List.getElem?_eq_some_iff.1 hi).1
   rw [List.getElem?_append_left (by simp;omega),List.getElem?_set_ne (hne O rfl).symm];exact hi
theorem den(hC:mI E){H0:List AObj}{l:List ae}{tg:Tag}(hl:l.length≤100000000):∀ (n i:Nat) (H:List AObj) (v w:AV) (a b:List Str),i+n=l.length→OpV H v a→OpV H w b→(∀ O O' len len',v = .rslice O 0 len 1 true→w = .rslice O' 0 len' 1 true→O≠O')→free (fun j=>j<H0.length) v→free (fun j=>j<H0.length) w→H0.length≤H.length→a.length≤i→b.length≤i →
  ∃ H' v' w',(∀ (k:List Fra) (He:List AObj),M.go jE H0 (.c dx :: .lp ⟨(some [2,3,6,7,8]),[],false⟩ dx He :: .blk 0 :: .c (.lv [2,3])::k) (kv [(2,v),(3,w),(6,.slice tg 3 (l.map ae.row)),(7,.int .i64 l.length),(8,.int .i64 i)]) H=M.go jE H0 k (kv [(2,v'),(3,w')]) H')∧OpV H' v' (a++jP 2 (l.drop i))∧OpV H' w' (b++jP 3 (l.drop i))∧(∀ O O' len len',v' = .rslice O 0 len 1 true→w' = .rslice O' 0 len' 1 true→O≠O')∧free (fun j=>j<H0.length) v'∧H.length≤H'.length∧(∀ j,j<H0.length→H'[j]?=H[j]?)
 |0,i,H,v,w,a,b,h,hv,hw,hne,fv,fw,hle,ha,hb=>by
  have e:i=l.length:=by omega
  subst e;refine ⟨H,v,w,fun k He => ?_,by rw [List.drop_length];simpa [jP] using hv,by rw [List.drop_length];simpa [jP] using hw,hne,fv,Nat.le_refl _,fun _ _=>rfl⟩;rw [ak M dx.eq_1];simp (maxSteps:=3000000) (maxDischargeDepth:=6) +contextual -implicitDefEqProofs only [amC M,↓amD,Nat.reduceBEq,Nat.reduceAdd,env,aj,kN,Nat.lt_irrefl]
 |n+1,i,H,v,w,a,b,h,hv,hw,hne,fv,fw,hle,ha,hb=>by
  have hi:i<l.length:=by omega
  have hx:l[i]?=some l[i]:=List.getElem?_eq_getElem hi;have hd:(l.drop i)=l[i]::l.drop (i+1):=List.drop_eq_getElem_cons hi;have hwi:=cV (n:=l.length) hi (by simp only [bH];omega);have hir:=a8 (row:=ae.row) (tag:=tg) (sz:=3) (k:=.i64) hi;have gx:=aJ H [AObj.cells l[i].row ah];rw [List.getElem?_cons_zero] at gx;have hv1:OpV (H++[AObj.cells l[i].row ah]) v a:=hv.stay fun O cs hO=>bD hO
  have hw1:OpV (H++[AObj.cells l[i].row ah]) w b:=hw.stay fun O cs hO=>bD hO
  rw [hd,DQ,DQ]
  have lt_of:∀ {v:AV}{a:List Str},OpV H v a→∀ O len,v = .rslice O 0 len 1 true→O<H.length:=fun {v a} hv O len e=>by
   rcases hv with ⟨_,hv⟩ | ⟨O',junk,hv,hO⟩
   ·rw [hv] at e;cases e
   ·rw [hv] at e;cases e;exact bZ hO
  have one:∃ H1 v1 w1,(∀ (k:List Fra) (He:List AObj),M.go jE H0 (.c dx :: .lp ⟨(some [2,3,6,7,8]),[],false⟩ dx He :: .blk 0 :: .c (.lv [2,3])::k) (kv [(2,v),(3,w),(6,.slice tg 3 (l.map ae.row)),(7,.int .i64 l.length),(8,.int .i64 i)]) H =
    M.go jE H0 (.c dx :: .lp ⟨(some [2,3,6,7,8]),[],false⟩ dx H1 :: .blk 0 :: .c (.lv [2,3])::k) (kv [(2,v1),(3,w1),(6,.slice tg 3 (l.map ae.row)),(7,.int .i64 l.length),(8,.int .i64 ((i+1:Nat):Int))]) H1) ∧
    OpV H1 v1 (a++sel (l[i].car&&(l[i].kind == 2)) [l[i].text] [])∧OpV H1 w1 (b++sel (l[i].car&&(l[i].kind == 3)) [l[i].text] [])∧(∀ O O' len len',v1 = .rslice O 0 len 1 true→w1 = .rslice O' 0 len' 1 true→O≠O')∧free (fun j=>j<H0.length) v1∧free (fun j=>j<H0.length) w1∧H.length≤H1.length∧(∀ j,j<H0.length→H1[j]?=H[j]?):=by
   have keep:∀ {u:AV}{d:List Str}{G1:List AObj},OpV H u d→free (fun j=>j<H0.length) u→(∀ (i':Nat) (y:AObj),(H++[AObj.cells l[i].row ah])[i']?=some y→(∀ O,u = .rslice O 0 d.length 1 true→i'≠O)→G1[i']?=some y)→∀ j,j<H0.length→G1[j]?=H[j]? := fun {u d G1} hu fu hk j hj=>by
    have hlt:j<H.length:=by omega
    rw [List.getElem?_eq_getElem hlt];exact hk j _ (bD (List.getElem?_eq_getElem hlt)) fun O e ei=>fu O _ _ _ _ e (by omega)
   cases k2:l[i].car&&(l[i].kind == 2) with
   |true=>
    rw [Bool.and_eq_true] at k2;have k3:(l[i].kind == 3)=false:=by rw [eq_of_beq k2.2];rfl
    obtain ⟨G1,a1,a2,a3,a4⟩:=Nk hv1 (by omega) l[i].text;have hlg:(H++[AObj.cells l[i].row ah]).length=H.length+1:=by simp
    rw [hlg] at a1 a2 a3;refine ⟨G1,_,w,fun k He => ?_,by rw [sel_true];exact a2,by rw [k3,Bool.and_false,sel_false,List.append_nil];exact hw1.own fun O y e hO=>a4 O y hO fun O' e' ei=>hne O' O _ _ e' e ei.symm,fun O O' len len' e1 e2 => ?_,fun Q o n e r eq=>(by cases eq;omega),fw,by omega,keep hv fv a4⟩
    ·rw [ak M dx.eq_1]
     simp (maxSteps:=3000000) (maxDischargeDepth:=6) +contextual -implicitDefEqProofs only [amC M,↓amD,Nat.reduceBEq,Nat.reduceAdd,env,aj,kN,amG,AV.cell,Nat.reduceMul,Nat.reduceLeDiff,hi,hx,hir,hwi,gx,k2.1,k2.2,bP,a1]
    ·cases e1
     have:=lt_of hw O' len' e2;omega
   |false=>
    rw [sel_false,List.append_nil];cases k3:l[i].car&&(l[i].kind == 3) with
    |true=>
     rw [Bool.and_eq_true] at k3;have k2f:(l[i].kind == 2)=false:=by rw [eq_of_beq k3.2];rfl
     obtain ⟨G1,a1,a2,a3,a4⟩:=Nk hw1 (by omega) l[i].text;have hlg:(H++[AObj.cells l[i].row ah]).length=H.length+1:=by simp
     rw [hlg] at a1 a2 a3;refine ⟨G1,v,_,fun k He => ?_,hv1.own fun O y e hO=>a4 O y hO fun O' e' ei=>hne O O' _ _ e e' ei,by rw [sel_true];exact a2,fun O O' len len' e1 e2 => ?_,fv,fun Q o n e r eq=>(by cases eq;omega),by omega,keep hw fw a4⟩
     ·rw [ak M dx.eq_1]
      simp (maxSteps:=3000000) (maxDischargeDepth:=6) +contextual -implicitDefEqProofs only [amC M,↓amD,Nat.reduceBEq,Nat.reduceAdd,env,aj,kN,amG,AV.cell,Nat.reduceMul,Nat.reduceLeDiff,hi,hx,hir,hwi,gx,k3.1,k2f,k3.2,bP,a1]
     ·cases e2
      have:=lt_of hv O len e1;omega
    |false=>
     rw [sel_false,List.append_nil];refine ⟨_,v,w,fun k He => ?_,hv1,hw1,hne,fv,fw,by simp,fun j hj=>List.getElem?_append_left (by omega)⟩;cases kc:l[i].car with
     |false=>
      rw [ak M dx.eq_1];simp (maxSteps:=3000000) (maxDischargeDepth:=6) +contextual -implicitDefEqProofs only [amC M,↓amD,Nat.reduceBEq,Nat.reduceAdd,env,aj,kN,amG,AV.cell,Nat.reduceMul,Nat.reduceLeDiff,hi,hx,hir,hwi,gx,kc,bP]
     |true=>
      rw [kc,Bool.true_and] at k2 k3;rw [ak M dx.eq_1];simp (maxSteps:=3000000) (maxDischargeDepth:=6) +contextual -implicitDefEqProofs only [amC M,↓amD,Nat.reduceBEq,Nat.reduceAdd,env,aj,kN,amG,AV.cell,Nat.reduceMul,Nat.reduceLeDiff,hi,hx,hir,hwi,gx,kc,k2,k3,bP]
  obtain ⟨H1,v1,w1,o1,o2,o3,o4,o5,o6,o7,o8⟩:=one;have la:(sel (l[i].car&&(l[i].kind == 2)) [l[i].text] []).length≤1:=by cases l[i].car&&(l[i].kind == 2)<;>simp [sel_true,sel_false]
  have lb:(sel (l[i].car&&(l[i].kind == 3)) [l[i].text] []).length≤1:=by cases l[i].car&&(l[i].kind == 3)<;>simp [sel_true,sel_false]
  obtain ⟨H2,v2,w2,i1,i2,i3,i4,i5,i6,i7⟩:=den hC (H0:=H0) (tg:=tg) hl n (i+1) H1 v1 w1 _ _ (by omega) o2 o3 o4 o5 o6 (by omega) (by rw [List.length_append];omega) (by rw [List.length_append];omega);exact ⟨H2,v2,w2,fun k He=>by rw [o1 k He,i1 k H1],by rw [← List.append_assoc];exact i2,by rw [← List.append_assoc];exact i3,i4,i5,by omega,fun j hj=>by rw [i7 j hj,o8 j hj]⟩
theorem G8(hC:mI E){l:List ae}{tg:Tag}(hl:l.length≤100000000)(H:List AObj):∃ H' v w,M.run pZ [.slice tg 3 (l.map ae.row)] H=some (.ret (.tuple [v,w]),H')∧OpV H' v (jP 2 l)∧OpV H' w (jP 3 l)∧(∀ O O' len len',v = .rslice O 0 len 1 true→w = .rslice O' 0 len' 1 true→O≠O')∧free (fun j=>j<H.length) v∧H.length≤H'.length∧∀ j,j<H.length→H'[j]?=H[j]? := by
 obtain ⟨H',v,w,e1,e2,e3,e4,e5,e6,e7⟩:=den M hC (H0:=H) (tg:=tg) hl l.length 0 H (.slice .nil 1 []) (.slice .nil 1 []) [] [] (by omega) (.inl ⟨rfl,rfl⟩) (.inl ⟨rfl,rfl⟩) (fun O O' len len' e=>(by cases e)) (fun Q o n e r eq=>(by cases eq)) (fun Q o n e r eq=>(by cases eq)) (Nat.le_refl _) (Nat.le_refl _) (Nat.le_refl _);rw [List.drop_zero,List.nil_append] at e2 e3;refine ⟨H',v,w, ?_,e2,e3,e4,e5,e6,e7⟩
 simp only [kv_cons,kv_nil,Int.ofNat_zero] at e1;rw [bI M hC.docs_ends rfl (c:=tM) rfl,tM];simp (maxSteps:=3000000) (maxDischargeDepth:=6) +contextual -implicitDefEqProofs only [amC M,↓amD,Nat.reduceBEq,Nat.reduceAdd,env,aj,kN,List.length_map,e1]
end
section
attribute [local congr] aA bo aM aC aL aG aD aq au aH aI
variable{E:bb}(M:bO bU E)
theorem Nl(l:List Str)(i:Nat)(s:Str):(im l).set i (.str s)=im (l.set i s):=by
 unfold im;rw [List.map_set]
theorem B4{l:List Str}{junk:List AV}{i:Nat}(hi:i<l.length)(s:Str):aX (im l++junk) i [.str s]=im (l.set i s)++junk:=by
 rw [setRow_cons,setRow_nil,List.set_append_left _ _ (by rw [gY];exact hi),Nl]
theorem JR{l:List Str}{junk:List AV}{i:Nat}{s:Str}(h:l[i]?=some s):bh none (im l++junk) i=some (.str s):=by
 have hlt:=(List.getElem?_eq_some_iff.1 h).1;simp only [bh];rw [List.getElem?_append_left (by rw [gY];exact hlt),im,List.getElem?_map,h];rfl
theorem rvl{H0:List AObj}{O:Nat}{junk:List AV}{len:Nat}(hlen:len≤100000000):∀ (n i j:Nat) (G:List AObj) (l:List Str),j-i≤n→i≤j+1→j<len→l.length=len→G[O]?=some (.cells (im l++junk) aP) →
  ∃ G' l',(∀ (k:List Fra) (He:List AObj),M.go bg H0 (.c aQ :: .lp ⟨(some [0,2,3]),[],false⟩ aQ He :: .blk 0 :: .c (.lv [])::k) (kv [(0,.rslice O 0 len 1 true),(2,.int .i64 i),(3,.int .i64 j)]) G=M.go bg H0 k .leaf G')∧G'[O]?=some (.cells (im l'++junk) aP)∧l'.length=len∧(∀ m,l'[m]?=if i≤m∧m≤j then l[i+j-m]? else l[m]?)∧G'.length=G.length∧∀ m,m≠O→G'[m]?=G[m]?
 |n,i,j,G,l,hn,hij,hj,hl,hG=>by
  by_cases hlt:i<j
  ·obtain ⟨n,rfl⟩:∃ m,n=m+1:=⟨n-1,by omega⟩
   have hi:i<l.length:=by omega
   have hjl:j<l.length:=by omega
   have xi:l[i]?=some l[i]:=List.getElem?_eq_getElem hi;have xj:l[j]?=some l[j]:=List.getElem?_eq_getElem hjl;have hOl:=bZ hG;have hl2:((l.set i l[j]).set j l[i]).length=len:=by simp [hl]
   have hG1:(G.set O (AObj.cells (im (l.set i l[j])++junk) aP))[O]?=some (.cells (im (l.set i l[j])++junk) aP):=List.getElem?_set_self hOl;have hG2:((G.set O (AObj.cells (im (l.set i l[j])++junk) aP)).set O (AObj.cells (im ((l.set i l[j]).set j l[i])++junk) aP))[O]?=some (.cells (im ((l.set i l[j]).set j l[i])++junk) aP):=List.getElem?_set_self (by simpa using hOl);have so1:=stO_cells (sz:=1) (H:=G) (id:=O) (off:=i) (cs:=[.str l[j]]) (T:=aP) (old:=im l++junk) rfl (by rw [List.length_append,gY];omega) rfl
   have so2:=stO_cells (sz:=1) (H:=G.set O (AObj.cells (im (l.set i l[j])++junk) aP)) (id:=O) (off:=j) (cs:=[.str l[i]]) (T:=aP) (old:=im (l.set i l[j])++junk) rfl (by rw [List.length_append,gY];simp;omega) rfl;rw [B4 hi] at so1;rw [B4 (by simpa using hjl)] at so2;obtain ⟨G',l',e1,e2,e3,e4,e5,e6⟩:=rvl hlen n (i+1) (j-1) _ _ (by omega) (by omega) (by omega) hl2 hG2;refine ⟨G',l',fun k He => ?_,e2,e3,fun m => ?_,by simpa using e5,fun m hm=>by rw [e6 m hm,List.getElem?_set_ne hm.symm,List.getElem?_set_ne hm.symm]⟩
   ·rw [← e1 k ((G.set O (AObj.cells (im (l.set i l[j])++junk) aP)).set O (AObj.cells (im ((l.set i l[j]).set j l[i])++junk) aP))]
    have ii:=mV (id:=O) (show i<len by omega) .i64;have ij:=mV (id:=O) (show j<len by omega) .i64;have li:=JR (junk:=junk) xi;have lj:=JR (junk:=junk) xj;have wi:=cV (n:=len) (show i<len by omega) (by simp only [bH];omega);have wj:IntKind.i64.wrap ((j:Int)-1)=((j-1:Nat):Int):=by rw [bV (by omega) (by omega)];omega
    have r1:∀ H,ma (some H)=some (dC,H):=fun _=>rfl
    generalize hA:G.set O (AObj.cells (im (l.set i l[j])++junk) aP)=A at hG1 so1 so2;generalize hB:A.set O (AObj.cells (im ((l.set i l[j]).set j l[i])++junk) aP)=B at so2;rw [ak M aQ.eq_1];simp (maxSteps:=3000000) (maxDischargeDepth:=6) +contextual -implicitDefEqProofs only [amC M,↓amD,Nat.reduceBEq,Nat.reduceAdd,env,aj,bC,amG,AV.cell,Nat.reduceMul,Nat.reduceLeDiff,hlt,ii,ij,hG,li,lj,so1,hA,hG1,so2,hB,B4,wi,wj,r1]
   ·rw [e4 m]
    by_cases h1:i+1≤m∧m≤j-1
    ·rw [if_pos h1,if_pos (by omega),List.getElem?_set_ne (by omega),List.getElem?_set_ne (by omega)]
     congr 1;omega
    ·rw [if_neg h1]
     by_cases hmj:m=j
     ·subst hmj
      rw [List.getElem?_set_self (by simpa using hjl),if_pos (by omega),show i+m-m=i by omega,xi]
     ·rw [List.getElem?_set_ne (fun e=>hmj e.symm)]
      by_cases hmi:m=i
      ·subst hmi
       rw [List.getElem?_set_self hi,if_pos (by omega),show m+j-m=j by omega,xj]
      ·rw [List.getElem?_set_ne (fun e=>hmi e.symm),if_neg (by omega)]
  ·refine ⟨G,l,fun k He => ?_,hG,hl,fun m => ?_,rfl,fun _ _=>rfl⟩
   ·rw [ak M aQ.eq_1]
    simp (maxSteps:=3000000) (maxDischargeDepth:=6) +contextual -implicitDefEqProofs only [amC M,↓amD,Nat.reduceBEq,Nat.reduceAdd,env,aj,bC,hlt]
   ·by_cases h1:i≤m∧m≤j
    ·rw [if_pos h1];congr 1;omega
    ·rw [if_neg h1]
theorem PB(hC:mI E){G:List AObj}{v:AV}{l:List Str}(h:OpV G v l)(hl:l.length≤100000000):∃ G',M.run eJ [v] G=some (.ret (.tuple []),G')∧OpV G' v l.reverse∧G'.length=G.length∧∀ m,(∀ O,v = .rslice O 0 l.length 1 true→m≠O)→G'[m]?=G[m]? := by
 rcases h with ⟨rfl,rfl⟩ | ⟨O,junk,rfl,hG⟩
 ·refine ⟨G, ?_,.inl ⟨rfl,rfl⟩,rfl,fun _ _=>rfl⟩
  rw [bI M hC.slices_Reverse_string_string rfl (c:=bB) rfl,bB];have w0:IntKind.i64.wrap (((0:Nat):Int)-1) = -1:=rfl;have hd:decide ((0:Int) < -1)=false:=rfl
  have go0:∀ k He,M.go bg G (.c aQ :: .lp ⟨(some [0,2,3]),[],false⟩ aQ He :: .blk 0 :: .c (.lv [])::k) (kv [(0,.slice .nil 1 []),(2,.int .i64 0),(3,.int .i64 (-1))]) G=M.go bg G k .leaf G:=fun k He=>by
   rw [ak M aQ.eq_1];simp (maxSteps:=3000000) (maxDischargeDepth:=6) +contextual -implicitDefEqProofs only [amC M,↓amD,Nat.reduceBEq,Nat.reduceAdd,env,aj,bC,hd]
  simp only [kv_cons,kv_nil] at go0;simp (maxSteps:=3000000) (maxDischargeDepth:=6) +contextual -implicitDefEqProofs only [amC M,↓amD,Nat.reduceBEq,Nat.reduceAdd,env,aj,bC,w0,go0,List.length_nil]
 ·by_cases h0:l.length=0
  ·have:l=[]:=List.length_eq_zero_iff.1 h0
   subst this;refine ⟨G, ?_,.inr ⟨O,junk,rfl,hG⟩,rfl,fun _ _=>rfl⟩;have w0:IntKind.i64.wrap (((0:Nat):Int)-1) = -1:=rfl;have hd:decide ((0:Int) < -1)=false:=rfl
   have go0:∀ k He,M.go bg G (.c aQ :: .lp ⟨(some [0,2,3]),[],false⟩ aQ He :: .blk 0 :: .c (.lv [])::k) (kv [(0,.rslice O 0 0 1 true),(2,.int .i64 0),(3,.int .i64 (-1))]) G=M.go bg G k .leaf G:=fun k He=>by
    rw [ak M aQ.eq_1];simp (maxSteps:=3000000) (maxDischargeDepth:=6) +contextual -implicitDefEqProofs only [amC M,↓amD,Nat.reduceBEq,Nat.reduceAdd,env,aj,bC,hd]
   simp only [kv_cons,kv_nil] at go0;rw [bI M hC.slices_Reverse_string_string rfl (c:=bB) rfl,bB];simp (maxSteps:=3000000) (maxDischargeDepth:=6) +contextual -implicitDefEqProofs only [amC M,↓amD,Nat.reduceBEq,Nat.reduceAdd,env,aj,bC,w0,go0,List.length_nil]
  ·obtain ⟨G',l',e1,e2,e3,e4,e5,e6⟩:=rvl M (H0:=G) (O:=O) (junk:=junk) (len:=l.length) hl l.length 0 (l.length-1) G l (by omega) (by omega) (by omega) rfl hG
   have hr:l'=l.reverse:=by
    refine List.ext_getElem? fun m => ?_
    rw [e4 m]
    by_cases hm:m<l.length
    ·rw [if_pos (by omega),List.getElem?_reverse hm];congr 1;omega
    ·rw [if_neg (by omega),List.getElem?_eq_none (by omega),List.getElem?_eq_none (by simp;omega)]
   subst hr;refine ⟨G', ?_,.inr ⟨O,junk,by simp,e2⟩,e5,fun m hm=>e6 m (hm O rfl)⟩;have w0:IntKind.i64.wrap ((l.length:Int)-1)=((l.length-1:Nat):Int):=by rw [bV (by omega) (by omega)];omega
   simp only [kv_cons,kv_nil,Int.ofNat_zero] at e1;rw [bI M hC.slices_Reverse_string_string rfl (c:=bB) rfl,bB];simp (maxSteps:=3000000) (maxDischargeDepth:=6) +contextual -implicitDefEqProofs only [amC M,↓amD,Nat.reduceBEq,Nat.reduceAdd,env,aj,bC,w0,e1]
theorem eql{G H0:List AObj}(hc:db H0 G){v w:AV}{a b:List Str}(hv:OpV G v a)(hw:OpV G w b)(hab:a.length=b.length)(hl:a.length≤100000000)(k:List Fra):∀ (n i:Nat) (He:List AObj),i+n=a.length →
  M.go cQ H0 (.c bR :: .lp ⟨(some [0,1,12,13]),[],false⟩ bR He :: .blk 0 :: .c (.lv [])::k) (kv [(0,v),(1,w),(12,.int .i64 a.length),(13,.int .i64 i)]) G=sel (a.drop i == b.drop i) (M.go cQ H0 k .leaf G) (some (.ret (.bool false),G.take H0.length))
 |0,i,He,h=>by
  have e:i=a.length:=by omega
  subst e;rw [List.drop_length,List.drop_of_length_le (by omega),show (([]:List Str) == [])=true from rfl,sel_true];rw [ak M bR.eq_1];simp (maxSteps:=3000000) (maxDischargeDepth:=6) +contextual -implicitDefEqProofs only [amC M,↓amD,Nat.reduceBEq,Nat.reduceAdd,env,aj,ca,Nat.lt_irrefl]
 |n+1,i,He,h=>by
  have hi:i<a.length:=by omega
  have hib:i<b.length:=by omega
  obtain ⟨O,cs,o1,o2,o3⟩:=Fa hv (List.getElem?_eq_getElem hi);obtain ⟨O',cs',p1,p2,p3⟩:=Fa hw (List.getElem?_eq_getElem hib);have hwi:=cV (n:=a.length) hi (by simp only [bH];omega);have ih:=fun He=>eql hc hv hw hab hl k n (i+1) He (by omega)
  simp only [kv_cons,kv_nil] at ih;rw [List.drop_eq_getElem_cons hi,List.drop_eq_getElem_cons hib,List.cons_beq_cons];cases he:a[i] == b[i] with
  |true=>
   rw [Bool.true_and];rw [ak M bR.eq_1];simp (maxSteps:=3000000) (maxDischargeDepth:=6) +contextual -implicitDefEqProofs only [amC M,↓amD,Nat.reduceBEq,Nat.reduceAdd,env,aj,ca,hi,o1,o2,o3,p1,p2,p3,he,hwi,ih]
  |false=>
   rw [Bool.false_and,sel_false];rw [ak M bR.eq_1];simp (maxSteps:=3000000) (maxDischargeDepth:=6) +contextual -implicitDefEqProofs only [amC M,↓amD,Nat.reduceBEq,Nat.reduceAdd,env,aj,ca,hi,o1,o2,o3,p1,p2,p3,he,hc]
theorem Ls(hC:mI E){G:List AObj}{v w:AV}{a b:List Str}(hv:OpV G v a)(hw:OpV G w b)(hl:a.length≤100000000):M.run fg [v,w] G=some (.ret (.bool (a == b)),G):=by
 have l1:=fun H=>yj (G:=H) hv
 have l2:=fun H=>yj (G:=H) hw
 rw [bI M hC.slices_Equal_string_string rfl (c:=fj) rfl,fj]
 by_cases hab:a.length=b.length
 ·have hq:(a.length == b.length)=true:=by simp [hab]
  have h1:=fun k He=>eql M (cut_refl G) hv hw hab hl k a.length 0 He (by omega)
  simp only [kv_cons,kv_nil,Int.ofNat_zero,List.drop_zero] at h1;cases he:a == b with
  |true=>
   simp only [he,sel_true] at h1;simp (maxSteps:=3000000) (maxDischargeDepth:=6) +contextual -implicitDefEqProofs only [amC M,↓amD,Nat.reduceBEq,Nat.reduceAdd,env,aj,ca,l1,l2,hq,h1]
  |false=>
   simp only [he,sel_false] at h1;simp (maxSteps:=3000000) (maxDischargeDepth:=6) +contextual -implicitDefEqProofs only [amC M,↓amD,Nat.reduceBEq,Nat.reduceAdd,env,aj,ca,l1,l2,hq,h1,hp_self]
 ·have hq:(a.length == b.length)=false:=by simp [hab]
  have he:(a == b)=false:=by simp only [beq_eq_false_iff_ne];intro e;exact hab (by rw [e])
  rw [he];simp (maxSteps:=3000000) (maxDischargeDepth:=6) +contextual -implicitDefEqProofs only [amC M,↓amD,Nat.reduceBEq,Nat.reduceAdd,env,aj,ca,l1,l2,hq,hp_self,cut_refl]
end
section
attribute [local congr] aA bo aM aC aL aG aD aq au aH aI
variable{E:bb}(M:bO bU E)
def qb:List (Sl ae)→Int
 |[]=>0
 |p::ps=>sel (c9 p.l == 0) (qb ps) (c9 p.l)
def ri:List (Sl ae)→Bool
 |[]=>true
 |p::ps=>(match ps with
  |[]=>true
  |q::_=>jP 3 p.l == (jP 2 q.l).reverse)&&ri ps
theorem rj(p q:Sl ae)(ps:List (Sl ae)):ri (p::q::ps)=((jP 3 p.l == (jP 2 q.l).reverse)&&ri (q::ps)):=rfl
def lW(n i:Nat)(x:ae):Bool:=x.car&&(((x.kind == 2)&&decide (0<i))||((x.kind == 3)&&decide (i+1<n)))
def glue1(n i:Nat)(cur l:List ae):List ae:=l.foldl (fun c x=>sel (lW n i x) c (cf c x)) cur
def mj(n:Nat):Nat→List ae→List (Sl ae)→List ae
 |_,cur,[]=>cur
 |i,cur,p::ps=>mj n (i+1) (glue1 n i cur p.l) ps
def gS(cur:List ae):CSt:=⟨[],cur,[],0,false,[]⟩
def szQ(l:List ae):Nat:=(l.map fun x=>x.text.length+1).sum
theorem G9(x:ae)(l:List ae):szQ (x::l)=x.text.length+1+szQ l:=by simp [szQ]
def szL(ps:List (Sl ae)):Nat:=(ps.map fun p=>szQ p.l).sum
theorem Ha(p:Sl ae)(l:List (Sl ae)):szL (p::l)=szQ p.l+szL l:=by simp [szL]
theorem qc{H0 G:List AObj}(h1:H0.length≤G.length)(h2:∀ m,m<H0.length→G[m]?=H0[m]?):db H0 G∧G.take H0.length=H0:=by
 have hk:G.take H0.length=H0:=by
  refine List.ext_getElem? fun i => ?_
  by_cases hi:i<H0.length
  ·rw [List.getElem?_take_of_lt hi,h2 i hi]
  ·rw [List.getElem?_eq_none (by simp;omega),List.getElem?_eq_none (by omega)]
 exact ⟨⟨h1,fun i x hi hx=>.inl (by rw [← h2 i hi];exact hx)⟩,hk⟩
def xq(m:Nat)(cur:List ae):Prop:=cur.length≤m∧∀ x∈cur,x.text.length≤m
theorem xq.put{m:Nat}{cur:List ae}(h:xq m cur)(p:ae):xq (m+(p.text.length+1)) (cf cur p):=
 ⟨by have:=B2 cur p;have:=h.1;omega,fun x hx=>by have:=B3 h.2 (Nat.le_refl p.text.length) x hx;omega⟩
theorem xq.mono{m n:Nat}{cur:List ae}(h:xq m cur)(hn:m≤n):xq n cur:=⟨Nat.le_trans h.1 hn,fun x hx=>Nat.le_trans (h.2 x hx) hn⟩
theorem xq.glue1{n i:Nat}:∀ (l:List ae) {m:Nat}{cur:List ae},xq m cur→xq (m+szQ l) (glue1 n i cur l)
 |[],m,cur,h=>h
 |x::l,m,cur,h=>by
  rw [G9,← Nat.add_assoc];show xq _ (Go.Am.glue1 n i (sel (lW n i x) cur (cf cur x)) l);refine xq.glue1 l ?_;cases lW n i x
  ·exact h.put x
  ·exact h.mono (by omega)
theorem gl0(hB:kY E)(hX:sR M){H H0:List AObj}(hc:db H0 H){ps:List (Sl ae)}{tg:Tag}(hn:ps.length≤1000000)(hps:∀ p∈ps,p.l.length≤1000000∧yP p.l)(k:List Fra):∀ (n i:Nat) (He:List AObj),i+n=ps.length →
  M.go dq H0 (.c iO :: .lp ⟨(some [0,20,21,22]),[],false⟩ iO He :: .blk 0 :: .c (.lv [0])::k) (kv [(0,.slice tg 1 (ps.map fq)),(20,.slice tg 1 (ps.map fq)),(21,.int .i64 ps.length),(22,.int .i64 i)]) H =
   sel (qb (ps.drop i) == 0) (M.go dq H0 k (kv [(0,.slice tg 1 (ps.map fq))]) H) (some (.ret (.tuple [.slice .nil 3 [],.int .u8 (qb (ps.drop i))]),H.take H0.length))
 |0,i,He,h=>by
  have e:i=ps.length:=by omega
  subst e;rw [List.drop_length,qb,show ((0:Int) == 0)=true from rfl,sel_true];rw [ak M iO.eq_1];simp (maxSteps:=3000000) (maxDischargeDepth:=6) +contextual -implicitDefEqProofs only [amC M,↓amD,Nat.reduceBEq,Nat.reduceAdd,env,aj,b6,Nat.lt_irrefl]
 |n+1,i,He,h=>by
  have hi:i<ps.length:=by omega
  have hx:ps[i]?=some ps[i]:=List.getElem?_eq_getElem hi;have hd:(ps.drop i)=ps[i]::ps.drop (i+1):=List.drop_eq_getElem_cons hi;have hwi:=cV (n:=ps.length) hi (by simp only [bH];omega);have hir:=a8 (row:=fq) (tag:=tg) (sz:=1) (k:=.i64) hi;obtain ⟨p1,p2⟩:=hps _ (List.getElem_mem hi);have hck:=fun H=>sy M hB hX (l:=ps[i]) p1 p2 H
  have ih:=fun He=>gl0 hB hX hc (tg:=tg) hn hps k n (i+1) He (by omega)
  simp only [kv_cons,kv_nil] at ih;have hde:=fun e=>JP hc 3 e
  rw [hd,qb];cases c0:c9 ps[i].l == 0 with
  |true=>
   rw [sel_true];rw [ak M iO.eq_1];simp (maxSteps:=3000000) (maxDischargeDepth:=6) +contextual -implicitDefEqProofs only [amC M,↓amD,Nat.reduceBEq,Nat.reduceAdd,env,aj,b6,hi,hx,hir,hwi,qPl,hck,c0,ih,Bool.not_true]
  |false=>
   rw [sel_false,c0,sel_false];rw [ak M iO.eq_1];simp (maxSteps:=3000000) (maxDischargeDepth:=6) +contextual -implicitDefEqProofs only [amC M,↓amD,Nat.reduceBEq,Nat.reduceAdd,env,aj,b6,hi,hx,hir,hwi,qPl,hck,c0,hde,Bool.not_false]
theorem gl1(hC:mI E){H0:List AObj}{ps:List (Sl ae)}{tg:Tag}(hn:ps.length≤1000000)(hps:∀ p∈ps,p.l.length≤100000000):∀ (n j:Nat) (G:List AObj),j+1+n=ps.length→H0.length≤G.length→(∀ m,m<H0.length→G[m]?=H0[m]?) →
  ∃ G',(∀ (k:List Fra) (He:List AObj),M.go dq H0 (.c iP :: .lp ⟨(some [0,7]),[],false⟩ iP He :: .blk 2 :: .c (.lv [0])::k) (kv [(0,.slice tg 1 (ps.map fq)),(7,.int .i64 ((j+1:Nat):Int))]) G =
   sel (ri (ps.drop j)) (M.go dq H0 k (kv [(0,.slice tg 1 (ps.map fq))]) G') (some (.ret (.tuple [.slice .nil 3 [],.int .u8 10]),H0)))∧H0.length≤G'.length∧∀ m,m<H0.length→G'[m]?=H0[m]?
 |0,j,G,h,hl,hG=>by
  have e:ps.length=j+1:=by omega
  refine ⟨G,fun k He => ?_,hl,hG⟩;have hj:j<ps.length:=by omega
  have ha:ri (ps.drop j)=true:=by
   rw [List.drop_eq_getElem_cons hj,List.drop_of_length_le (by omega)];rfl
  rw [ha,sel_true];have hlt:¬ (j+1<ps.length):=by omega
  rw [ak M iP.eq_1];simp (maxSteps:=3000000) (maxDischargeDepth:=6) +contextual -implicitDefEqProofs only [amC M,↓amD,Nat.reduceBEq,Nat.reduceAdd,env,aj,b6,hlt,List.length_map]
 |n+1,j,G,h,hl,hG=>by
  have hj:j<ps.length:=by omega
  have hi:j+1<ps.length:=by omega
  have hxj:ps[j]?=some ps[j]:=List.getElem?_eq_getElem hj;have hxi:ps[j+1]?=some ps[j+1]:=List.getElem?_eq_getElem hi;have hrj:=a8 (row:=fq) (tag:=tg) (sz:=1) (k:=.i64) hj;have hri:=a8 (row:=fq) (tag:=tg) (sz:=1) (k:=.i64) hi;have hwj:IntKind.i64.wrap (((j+1:Nat):Int)-1)=(j:Int):=by rw [bV (by omega) (by omega)];omega
  have hwi:=cV (n:=ps.length) hi (by simp only [bH];omega);have bj:=hps _ (List.getElem_mem hj);have bi:=hps _ (List.getElem_mem hi);obtain ⟨G1,v1,w1,e1,o1,o2,o3,o4,o5,o6⟩:=G8 M hC (l:=ps[j].l) (tg:=ps[j].tag) bj G;obtain ⟨G2,v2,w2,f1,q1,q2,q3,q4,q5,q6⟩:=G8 M hC (l:=ps[j+1].l) (tg:=ps[j+1].tag) bi G1;have cl:∀ (k:Int) (l:List ae),(jP k l).length≤l.length:=fun k l=>by unfold jP;rw [List.length_map];exact List.length_filter_le _ _
  have c3:=cl 3 ps[j].l;have c2:=cl 2 ps[j+1].l;obtain ⟨G3,r1,r2,r3,r4⟩:=PB M hC q1 (by omega);have ow2:OpV G2 w1 (jP 3 ps[j].l):=o2.stay fun O cs hO=>by rw [q6 O (bZ hO)];exact hO
  have lw:∀ O len,w1 = .rslice O 0 len 1 true→O<G1.length:=fun O len e=>by
   rcases o2 with ⟨_,hv⟩ | ⟨O',junk,hv,hO⟩
   ·rw [hv] at e;cases e
   ·rw [hv] at e;cases e;exact bZ hO
  have ow3:OpV G3 w1 (jP 3 ps[j].l):=ow2.own fun O y e hO=>by
   rw [r4 O fun O' e' ei=>q4 O' _ _ _ _ e' (by rw [← ei];exact lw O _ e)];exact hO
  have eq:=Ls M hC ow3 r2 (by omega)
  have low3:∀ m,m<H0.length→G3[m]?=H0[m]? := fun m hm=>by
   rw [r4 m fun O' e' ei=>q4 O' _ _ _ _ e' (by omega),q6 m (by omega),o6 m (by omega),hG m hm]
  have hle3:H0.length≤G3.length:=by omega
  obtain ⟨hc3,ht3⟩:=qc hle3 low3;have hde:=JP hc3 3 10;rw [ht3] at hde;have hd:ps.drop j=ps[j]::ps[j+1]::ps.drop (j+1+1):=by rw [List.drop_eq_getElem_cons hj,List.drop_eq_getElem_cons hi]
  have ha:ri (ps.drop j)=((jP 3 ps[j].l == (jP 2 ps[j+1].l).reverse)&&ri (ps.drop (j+1))):=by
   rw [hd,rj,List.drop_eq_getElem_cons hi]
  rw [ha];cases c0:jP 3 ps[j].l == (jP 2 ps[j+1].l).reverse with
  |false=>
   refine ⟨G3,fun k He => ?_,hle3,low3⟩;rw [Bool.false_and,sel_false];rw [ak M iP.eq_1];simp (maxSteps:=3000000) (maxDischargeDepth:=6) +contextual -implicitDefEqProofs only [amC M,↓amD,Nat.reduceBEq,Nat.reduceAdd,env,aj,b6,hi,hj,hxj,hxi,hrj,hri,hwj,hwi,qPl,List.length_map,e1,f1,r1,eq,c0,cX,List.getElem?_cons_zero,List.getElem?_cons_succ,hde,Bool.not_false]
  |true=>
   obtain ⟨G4,i1,i2,i3⟩:=gl1 hC (tg:=tg) hn hps n (j+1) G3 (by omega) hle3 low3;refine ⟨G4,fun k He => ?_,i2,i3⟩;simp only [kv_cons,kv_nil] at i1;rw [Bool.true_and];rw [ak M iP.eq_1];simp (maxSteps:=3000000) (maxDischargeDepth:=6) +contextual -implicitDefEqProofs only [amC M,↓amD,Nat.reduceBEq,Nat.reduceAdd,env,aj,b6,hi,hj,hxj,hxi,hrj,hri,hwj,hwi,qPl,List.length_map,e1,f1,r1,eq,c0,cX,List.getElem?_cons_zero,List.getElem?_cons_succ,i1,Bool.not_true]
end
section
attribute [local congr] aA bo aM aC aL aG aD aq au aH aI
variable{E:bb}(M:bO bU E)
theorem PC{n i:Nat}(x:ae):(decide ((0:Int)<(i:Int))=decide (0<i)):=by
 rw [Bool.eq_iff_iff];simp
theorem gl2(hC:mI E){H0:List AObj}{R:Nat→Prop}{c:Nat}{pv:AV}{ps:List (Sl ae)}{tgp:Tag}(hpv:pv = .slice tgp 1 (ps.map fq))(hnp:ps.length≤1000000){i:Nat}(hi0:i<ps.length){l:List ae}{tg:Tag}(hl:l.length≤100000000):∀ (n j m:Nat) (H:List AObj) (cur:List ae),j+n=l.length→fS R c H (gS cur)→xq m cur→m+szQ (l.drop j)≤100000000 →
  ∃ H',(∀ (k:List Fra) (He:List AObj),M.go dq H0 (.c bL :: .lp ⟨(some [0,12,13,64,65,66,71,72,73]),[],false⟩ bL He :: .blk 6 :: .c (.lv [0,12,64,65,66])::k) (kv [(0,pv),(12,.ptr c 0),(13,.int .i64 i),(64,pv),(65,.int .i64 ps.length),(66,.int .i64 i),(71,.slice tg 3 (l.map ae.row)),(72,.int .i64 l.length),(73,.int .i64 j)]) H =
   M.go dq H0 k (kv [(0,pv),(12,.ptr c 0),(64,pv),(65,.int .i64 ps.length),(66,.int .i64 i)]) H')∧fS R c H' (gS (glue1 ps.length i cur (l.drop j)))∧Frm R H H'
 |0,j,m,H,cur,h,hS,hb,hm=>by
  have e:j=l.length:=by omega
  subst e;refine ⟨H,fun k He => ?_,by rw [List.drop_length];exact hS,Frm.refl R H⟩;rw [ak M bL.eq_1];simp (maxSteps:=3000000) (maxDischargeDepth:=6) +contextual -implicitDefEqProofs only [amC M,↓amD,Nat.reduceBEq,Nat.reduceAdd,env,aj,b6,Nat.lt_irrefl]
 |n+1,j,m,H,cur,h,hS,hb,hm=>by
  have hj:j<l.length:=by omega
  have hx:l[j]?=some l[j]:=List.getElem?_eq_getElem hj;have hd:(l.drop j)=l[j]::l.drop (j+1):=List.drop_eq_getElem_cons hj;have hwj:=cV (n:=l.length) hj (by simp only [bH];omega);have hwi:=cV (n:=ps.length) hi0 (by simp only [bH];omega);have hir:=a8 (row:=ae.row) (tag:=tg) (sz:=3) (k:=.i64) hj;have hlp:∀ G,qh G .sl pv=some (.int .i64 ((ps.length:Nat):Int)):=fun G=>by rw [hpv];simp only [qh,List.length_map]
  rw [hd] at hm ⊢;rw [G9] at hm;have gx:=aJ H [AObj.cells l[j].row ah];rw [List.getElem?_cons_zero] at gx;have h1:=hS.app [AObj.cells l[j].row ah];obtain ⟨_,l2⟩:=hS.le;have f1:=Frm.app H [AObj.cells l[j].row ah] l2;have hgi:=PC (n:=0) (i:=i) l[j];show ∃ H',_∧fS R c H' (gS (glue1 ps.length i (sel (lW ps.length i l[j]) cur (cf cur l[j])) (l.drop (j+1))))∧_
  have skip:lW ps.length i l[j]=true→∀ (k:List Fra) (He:List AObj),M.go dq H0 (.c bL :: .lp ⟨(some [0,12,13,64,65,66,71,72,73]),[],false⟩ bL He :: .blk 6 :: .c (.lv [0,12,64,65,66])::k) (kv [(0,pv),(12,.ptr c 0),(13,.int .i64 i),(64,pv),(65,.int .i64 ps.length),(66,.int .i64 i),(71,.slice tg 3 (l.map ae.row)),(72,.int .i64 l.length),(73,.int .i64 j)]) H =
    M.go dq H0 (.c bL :: .lp ⟨(some [0,12,13,64,65,66,71,72,73]),[],false⟩ bL (H++[AObj.cells l[j].row ah]) :: .blk 6 :: .c (.lv [0,12,64,65,66])::k) (kv [(0,pv),(12,.ptr c 0),(13,.int .i64 i),(64,pv),(65,.int .i64 ps.length),(66,.int .i64 i),(71,.slice tg 3 (l.map ae.row)),(72,.int .i64 l.length),(73,.int .i64 ((j+1:Nat):Int))]) (H++[AObj.cells l[j].row ah]):=fun hs k He=>by
   unfold lW at hs;rw [Bool.and_eq_true] at hs;obtain ⟨hs1,hs2⟩:=hs;cases k2:l[j].kind == 2 with
   |true=>
    have k3:(l[j].kind == 3)=false:=by rw [eq_of_beq k2];rfl
    rw [k2,k3,Bool.true_and,Bool.false_and,Bool.or_false] at hs2;rw [hs2] at hgi;rw [ak M bL.eq_1];simp (maxSteps:=3000000) (maxDischargeDepth:=6) +contextual -implicitDefEqProofs only [amC M,↓amD,Nat.reduceBEq,Nat.reduceAdd,env,aj,b6,amG,AV.cell,Nat.reduceMul,Nat.reduceLeDiff,hj,hx,hir,hwj,hwi,hlp,bP,gx,hs1,k2,k3,hgi]
   |false=>
    cases k3:l[j].kind == 3 with
    |false=>rw [k2,k3] at hs2;cases hs2
    |true=>
     rw [k2,k3,Bool.true_and,Bool.false_and,Bool.false_or] at hs2;have hlt:i+1<ps.length:=of_decide_eq_true hs2;rw [ak M bL.eq_1];simp (maxSteps:=3000000) (maxDischargeDepth:=6) +contextual -implicitDefEqProofs only [amC M,↓amD,Nat.reduceBEq,Nat.reduceAdd,env,aj,b6,amG,AV.cell,Nat.reduceMul,Nat.reduceLeDiff,hj,hx,hir,hwj,hwi,hlp,bP,gx,hs1,k2,k3,hlt]
  cases hsk:lW ps.length i l[j] with
  |true=>
   rw [sel_true];have sk:=skip hsk;obtain ⟨H2,i1,i2,i3⟩:=gl2 hC (H0:=H0) hpv hnp hi0 (tg:=tg) hl n (j+1) (m+(l[j].text.length+1)) _ cur (by omega) h1 (hb.mono (by omega)) (by omega);exact ⟨H2,fun k He=>by rw [sk k He,i1 k _],i2,f1.trans i3⟩
  |false=>
   rw [sel_false];have hb2:=hb.put l[j];obtain ⟨H1,p1,p2,p3,_⟩:=xm M hC h1 (show (gS cur).done.length≤100000000 from Nat.zero_le _) (show (gS cur).cur.length≤100000000 from by have:=hb.1;show cur.length≤_;omega) (fun x hx=>by have:=hb.2 x hx;omega) (p:=l[j]) (by omega);have p2':fS R c H1 (gS (cf cur l[j])):=p2
   have step:∀ (k:List Fra) (He:List AObj),M.go dq H0 (.c bL :: .lp ⟨(some [0,12,13,64,65,66,71,72,73]),[],false⟩ bL He :: .blk 6 :: .c (.lv [0,12,64,65,66])::k) (kv [(0,pv),(12,.ptr c 0),(13,.int .i64 i),(64,pv),(65,.int .i64 ps.length),(66,.int .i64 i),(71,.slice tg 3 (l.map ae.row)),(72,.int .i64 l.length),(73,.int .i64 j)]) H =
    M.go dq H0 (.c bL :: .lp ⟨(some [0,12,13,64,65,66,71,72,73]),[],false⟩ bL H1 :: .blk 6 :: .c (.lv [0,12,64,65,66])::k) (kv [(0,pv),(12,.ptr c 0),(13,.int .i64 i),(64,pv),(65,.int .i64 ps.length),(66,.int .i64 i),(71,.slice tg 3 (l.map ae.row)),(72,.int .i64 l.length),(73,.int .i64 ((j+1:Nat):Int))]) H1:=fun k He=>by
    unfold lW at hsk;cases kc:l[j].car with
    |false=>
     rw [ak M bL.eq_1];simp (maxSteps:=3000000) (maxDischargeDepth:=6) +contextual -implicitDefEqProofs only [amC M,↓amD,Nat.reduceBEq,Nat.reduceAdd,env,aj,b6,amG,AV.cell,Nat.reduceMul,Nat.reduceLeDiff,hj,hx,hir,hwj,hwi,hlp,bP,gx,kc,p1]
    |true=>
     rw [kc,Bool.true_and] at hsk;cases k2:l[j].kind == 2 with
     |true=>
      have k3:(l[j].kind == 3)=false:=by rw [eq_of_beq k2];rfl
      rw [k2,k3,Bool.true_and,Bool.false_and,Bool.or_false] at hsk;rw [hsk] at hgi;rw [ak M bL.eq_1];simp (maxSteps:=3000000) (maxDischargeDepth:=6) +contextual -implicitDefEqProofs only [amC M,↓amD,Nat.reduceBEq,Nat.reduceAdd,env,aj,b6,amG,AV.cell,Nat.reduceMul,Nat.reduceLeDiff,hj,hx,hir,hwj,hwi,hlp,bP,gx,kc,k2,k3,hgi,p1]
     |false=>
      rw [k2,Bool.false_and,Bool.false_or] at hsk;cases k3:l[j].kind == 3 with
      |false=>
       rw [ak M bL.eq_1];simp (maxSteps:=3000000) (maxDischargeDepth:=6) +contextual -implicitDefEqProofs only [amC M,↓amD,Nat.reduceBEq,Nat.reduceAdd,env,aj,b6,amG,AV.cell,Nat.reduceMul,Nat.reduceLeDiff,hj,hx,hir,hwj,hwi,hlp,bP,gx,kc,k2,k3,p1]
      |true=>
       rw [k3,Bool.true_and] at hsk;have hlt:¬ (i+1<ps.length):=of_decide_eq_false hsk;rw [ak M bL.eq_1];simp (maxSteps:=3000000) (maxDischargeDepth:=6) +contextual -implicitDefEqProofs only [amC M,↓amD,Nat.reduceBEq,Nat.reduceAdd,env,aj,b6,amG,AV.cell,Nat.reduceMul,Nat.reduceLeDiff,hj,hx,hir,hwj,hwi,hlp,bP,gx,kc,k2,k3,hlt,p1]
   obtain ⟨H2,i1,i2,i3⟩:=gl2 hC (H0:=H0) hpv hnp hi0 (tg:=tg) hl n (j+1) (m+(l[j].text.length+1)) _ _ (by omega) p2' hb2 (by omega);exact ⟨H2,fun k He=>by rw [step k He,i1 k _],i2,(f1.trans p3).trans i3⟩
theorem gl3(hC:mI E){H0:List AObj}{R:Nat→Prop}{c:Nat}{ps:List (Sl ae)}{tgp:Tag}(hnp:ps.length≤1000000)(hps:∀ p∈ps,p.l.length≤100000000):∀ (n i m:Nat) (H:List AObj) (cur:List ae),i+n=ps.length→fS R c H (gS cur)→xq m cur→m+szL (ps.drop i)≤100000000 →
  ∃ H',(∀ (k:List Fra) (He:List AObj),M.go dq H0 (.c ks :: .lp ⟨(some [0,12,64,65,66]),[],false⟩ ks He :: .blk 4 :: .c (.lv [12])::k) (kv [(0,.slice tgp 1 (ps.map fq)),(12,.ptr c 0),(64,.slice tgp 1 (ps.map fq)),(65,.int .i64 ps.length),(66,.int .i64 i)]) H=M.go dq H0 k (kv [(12,.ptr c 0)]) H')∧fS R c H' (gS (mj ps.length i cur (ps.drop i)))∧Frm R H H'
 |0,i,m,H,cur,h,hS,hb,hm=>by
  have e:i=ps.length:=by omega
  subst e;refine ⟨H,fun k He => ?_,by rw [List.drop_length];exact hS,Frm.refl R H⟩;rw [ak M ks.eq_1];simp (maxSteps:=3000000) (maxDischargeDepth:=6) +contextual -implicitDefEqProofs only [amC M,↓amD,Nat.reduceBEq,Nat.reduceAdd,env,aj,b6,Nat.lt_irrefl]
 |n+1,i,m,H,cur,h,hS,hb,hm=>by
  have hi:i<ps.length:=by omega
  have hx:ps[i]?=some ps[i]:=List.getElem?_eq_getElem hi;have hd:(ps.drop i)=ps[i]::ps.drop (i+1):=List.drop_eq_getElem_cons hi;have hwi:=cV (n:=ps.length) hi (by simp only [bH];omega);have hir:=a8 (row:=fq) (tag:=tgp) (sz:=1) (k:=.i64) hi;have bi:=hps _ (List.getElem_mem hi);rw [hd] at hm ⊢;rw [Ha] at hm;obtain ⟨H1,a1,a2,a3⟩:=gl2 M hC (H0:=H0) (pv:=.slice tgp 1 (ps.map fq)) rfl hnp hi (l:=ps[i].l) (tg:=ps[i].tag) bi ps[i].l.length 0 m H cur (by omega) hS hb (by rw [List.drop_zero];omega)
  rw [List.drop_zero] at a2;have hb2:=xq.glue1 (n:=ps.length) (i:=i) ps[i].l hb;obtain ⟨H2,i1,i2,i3⟩:=gl3 hC (H0:=H0) (tgp:=tgp) hnp hps n (i+1) (m+szQ ps[i].l) H1 _ (by omega) a2 hb2 (by omega);refine ⟨H2,fun k He => ?_,i2,a3.trans i3⟩;simp only [kv_cons,kv_nil,Int.ofNat_zero] at a1 i1;rw [ak M ks.eq_1];simp (maxSteps:=3000000) (maxDischargeDepth:=6) +contextual -implicitDefEqProofs only [amC M,↓amD,Nat.reduceBEq,Nat.reduceAdd,env,aj,b6,hi,hx,hir,hwi,qPl,a1,i1,List.length_map]
def Hb(ps:List (Sl ae)):AV:=
 sel (decide (ps.length=0)) (.tuple [.slice .nil 3 [],.int .u8 1]) (sel (qb ps == 0) (sel (ri ps) (sel (nL (mj ps.length 0 [] ps)) (.tuple [.slice .nil 3 [],.int .u8 3]) (.tuple [.slice (lV (mj ps.length 0 [] ps)) 3 ((mj ps.length 0 [] ps).map ae.row),.int .u8 0])) (.tuple [.slice .nil 3 [],.int .u8 10])) (.tuple [.slice .nil 3 [],.int .u8 (qb ps)]))
theorem DS(hB:kY E)(hX:sR M)(hC:mI E){ps:List (Sl ae)}{tg:Tag}(hn:ps.length≤1000000)(hps:∀ p∈ps,p.l.length≤1000000∧yP p.l)(hsz:szL ps≤100000000)(H:List AObj) :
  M.run pY [.slice tg 1 (ps.map fq)] H=some (.ret (Hb ps),H):=by
 have deS:=fun e=>JP (cut_refl H) 3 e
 simp only [hp_self] at deS;rw [bI M hC.docs_Glue rfl (c:=tL) rfl,tL]
 by_cases h0:ps.length=0
 ·have d0:decide (ps.length=0)=true:=decide_eq_true h0
  have q0:(((ps.length:Nat):Int) == 0)=true:=by rw [h0];rfl
  simp (maxSteps:=3000000) (maxDischargeDepth:=6) +contextual -implicitDefEqProofs only [amC M,↓amD,Nat.reduceBEq,Nat.reduceAdd,env,aj,b6,List.length_map,q0,deS,Hb,d0]
 ·have d0:decide (ps.length=0)=false:=decide_eq_false h0
  have q0:(((ps.length:Nat):Int) == 0)=false:=beq_eq_false_iff_ne.2 (by omega);have g0:=fun k He=>gl0 M hB hX (cut_refl H) (tg:=tg) hn hps k ps.length 0 He (by omega)
  simp only [kv_cons,kv_nil,Int.ofNat_zero,List.drop_zero,hp_self] at g0;cases c0:qb ps == 0 with
  |false=>
   simp only [c0,sel_false] at g0;simp (maxSteps:=3000000) (maxDischargeDepth:=6) +contextual -implicitDefEqProofs only [amC M,↓amD,Nat.reduceBEq,Nat.reduceAdd,env,aj,b6,List.length_map,q0,g0,Hb,d0,c0]
  |true=>
   simp only [c0,sel_true] at g0;obtain ⟨G1,g1,l1,w1⟩:=gl1 M hC (H0:=H) (tg:=tg) hn (fun p hp=>by have:=(hps p hp).1;omega) (ps.length-1) 0 H (by omega) (Nat.le_refl _) (fun _ _=>rfl);simp only [kv_cons,kv_nil,(show (((0+1:Nat)):Int)=1 from rfl),List.drop_zero] at g1;cases c1:ri ps with
   |false=>
    simp only [c1,sel_false] at g1;simp (maxSteps:=3000000) (maxDischargeDepth:=6) +contextual -implicitDefEqProofs only [amC M,↓amD,Nat.reduceBEq,Nat.reduceAdd,env,aj,b6,List.length_map,q0,g0,g1,Hb,d0,c0,c1]
   |true=>
    simp only [c1,sel_true] at g1;obtain ⟨G,hG⟩:∃ G,G=G1++[AObj.cells [.slice .nil 3 []] al,AObj.cells [.rslice G1.length 0 1 1 true,.slice .nil 1 [],.int .i64 0,.bool false,.slice .nil 1 []] aV]:=⟨_,rfl⟩
    have w0:fS (fun i=>i<H.length) (G1.length+1) G (gS []):=by
     refine ⟨G1.length,G1.length+2,[],.slice .nil 3 [],.nil,.slice .nil 1 [],⟨by omega,by omega,fun i hi=>by rw [hG];simp;omega,by rw [hG,hp_getk];rfl,by rw [hG,aJ];rfl,rfl,fun i w l h=>by simp at h,.inl ⟨rfl,rfl⟩,fun Q o n e r eq=>(by cases eq),fun Q o n e r eq=>(by cases eq),by rw [hG];simp,.inl ⟨rfl,rfl⟩,fun Q o n e r eq=>(by cases eq),.inr (.inr (.inl rfl))⟩⟩
    obtain ⟨G3,s1,s2,s3⟩:=gl3 M hC (H0:=H) (tgp:=tg) hn (fun p hp=>by have:=(hps p hp).1;omega) ps.length 0 0 G [] (by omega) w0 ⟨Nat.le_refl _,fun x hx=>(by cases hx)⟩ (by rw [List.drop_zero];omega);rw [List.drop_zero] at s2;obtain ⟨P,q,vs,v,ta,ov,h⟩:=s2;have hvs:vs=[]:=List.length_eq_zero_iff.1 h.len;subst hvs
    have low:∀ m,m<H.length→G3[m]?=H[m]? := fun m hm=>by
     rw [s3.low m hm,hG,List.getElem?_append_left (by omega),w1 m hm]
    have hle:H.length≤G3.length:=by have:=s3.len;rw [hG] at this;simp at this;omega
    obtain ⟨hcut,htk⟩:=qc hle low;generalize hcu:mj ps.length 0 [] ps=cur at h;have hcl:=h.cell;have hpr:=h.par;have hlv:=fun G=>IF (G:=G) h.cr
    have hia:=mV (id:=P) (n:=1) (i:=0) (by omega) .i64;have hld:bh none [v] 0=some v:=rfl;have hdn:(gS cur).done.length+1=1:=rfl;rw [hdn] at hcl;rw [List.nil_append] at hpr;simp only [kv_cons,kv_nil,Int.ofNat_zero] at s1 hia;rw [hG] at s1;have hbig:decide ((512:Int)<(((gS cur).cur.length:Nat):Int))=nL cur:=rfl;have hde:=JP hcut 3 3;rw [htk] at hde;have hfz:=kB hcut (v:=.tuple [v,.int .u8 0]) ⟨6,oU (b9 (Qv h.cr h.pr) (b9 (vw _ _ _ _ _) (dE _)))⟩
    rw [htk] at hfz;have hcc:(gS cur).cur=cur:=rfl;rw [hcc] at hfz;cases c2:nL cur with
    |true=>
     simp (maxSteps:=3000000) (maxDischargeDepth:=6) +contextual -implicitDefEqProofs only [amC M,↓amD,Nat.reduceBEq,Nat.reduceAdd,env,aj,b6,amG,AV.cell,Nat.reduceMul,Nat.reduceLeDiff,rnc,List.length_map,q0,g0,g1,Hb,d0,c0,c1,hcu,s1,hcl,hpr,cl5,hia,hld,hlv,hbig,c2,hde]
    |false=>
     simp (maxSteps:=3000000) (maxDischargeDepth:=6) +contextual -implicitDefEqProofs only [amC M,↓amD,Nat.reduceBEq,Nat.reduceAdd,env,aj,b6,amG,AV.cell,Nat.reduceMul,Nat.reduceLeDiff,rnc,List.length_map,q0,g0,g1,Hb,d0,c0,c1,hcu,s1,hcl,hpr,cl5,hia,hld,hlv,hbig,c2,hfz]
end
section
attribute [local congr] aA bo aM aC aL aG aD aq au aH aI
variable{E:bb}(M:bO bU E)
end
section
attribute [local congr] aA bo aM aC aL aG aD aq au aH aI
variable{E:bb}(M:bO bU E)
end
section
attribute [local congr] aA bo aM aC aL aG aD aq au aH aI
variable{E:bb}(M:bO bU E)
theorem Sz:(∀ p:List ae,bh none (plR p) 0=some (.slice (lV p) 3 (p.map ae.row))):=fun _=>rfl
end
section
attribute [local congr] aA bo aM aC aL aG aD aq au aH aI
variable{E:bb}(M:bO bU E)
structure u6 (E:bb):Prop where
 truchmanlaw01_vast:E.fn jt=some eU
 slices_IndexFunc_api_Piece_api_Piece_1:E.fn cW=some aT
 slices_ContainsFunc_api_Piece_api_Piece_1:E.fn bN=some cI
 docs_whole_1:E.fn oX=some pc
 docs_whole:E.fn oc=some rT
 docs_raw_1:E.fn rN=some rY
 docs_raw:E.fn vy=some vD
 docs_Check:E.fn nZ=some lH
 docs_Segments:E.fn nr=some fi
 slices_Clone_api_Piece_api_Piece:E.fn dJ=some dN
 docs_Restore:E.fn lA=some ct
 truchmanref01_Same:E.fn eT=some eV
 truchmanlaw01_DocsRestored:E.fn ff=some bM
def vsN(m:Nat)(l:List aw):Nat:=l.foldl (fun m b=>m+b.pieces.l.length+(b8 b.pieces.l).length) m
def vsB(l:List aw):Bool:=l.any fun b=>BU [b.pieces]
def B5(l:List aw):Bool:=sel (vsB (l.take 300)) true (decide (3500<vsN l.length (l.take 300)))
theorem vst(hB:kY E)(hU:jf E){bl:List aw}{tg:Tag}(hbl:bl.length≤bH)(hok:∀ b∈bl,b.pieces.ok 0 (ae.ok 0)){H0 H:List AObj}(hc:db H0 H){p:Nat}(hp:H[p]?=some (.cells [.slice tg 2 (bl.map aw.row)] ag))(k:List Fra):∀ (n i m:Nat) (He:List AObj),i+n=(bl.take 300).length→m≤bH+i*10000 →
  M.go eU H0 (.c cL :: .lp ⟨(some [1,3,4]),[],false⟩ cL He :: .blk 0 :: .c (.lv [3])::k) (kv [(1,.ptr p 0),(3,.int .i64 m),(4,.int .i64 i)]) H =
   sel (vsB ((bl.take 300).drop i)) (some (.ret (.bool true),H.take H0.length)) (M.go eU H0 k (kv [(3,.int .i64 (vsN m ((bl.take 300).drop i):Nat))]) H)
 |0,i,m,He,h,hm=>by
  rw [List.drop_of_length_le (by omega),show vsB []=false from rfl,sel_false,show vsN m []=m from rfl];rw [List.length_take] at h;have l1:∀ x:AV,bh none [x] 0=some x:=fun _=>rfl
  by_cases hi:i<bl.length
  ·have d3:decide ((i:Int)<300)=false:=decide_eq_false (by omega)
   rw [ak M cL.eq_1];simp (maxSteps:=3000000) (maxDischargeDepth:=6) +contextual -implicitDefEqProofs only [amC M,↓amD,Nat.reduceBEq,Nat.reduceAdd,env,aj,dX,hp,l1,List.length_map,hi,d3]
  ·rw [ak M cL.eq_1]
   simp (maxSteps:=3000000) (maxDischargeDepth:=6) +contextual -implicitDefEqProofs only [amC M,↓amD,Nat.reduceBEq,Nat.reduceAdd,env,aj,dX,hp,l1,List.length_map,hi]
 |n+1,i,m,He,h,hm=>by
  have hit:i<(bl.take 300).length:=by omega
  have hi:i<bl.length:=by rw [List.length_take] at hit;omega
  have h3:i<300:=by rw [List.length_take] at hit;omega
  have hx:bl[i]?=some bl[i]:=List.getElem?_eq_getElem hi;have hd:((bl.take 300).drop i)=bl[i]::(bl.take 300).drop (i+1):=by rw [List.drop_eq_getElem_cons hit,List.getElem_take]
  have d3:decide ((i:Int)<300)=true:=decide_eq_true (by omega);have l1:∀ x:AV,bh none [x] 0=some x:=fun _=>rfl
  have hwi:=cV (n:=bl.length) hi hbl;have hir:=a8 (row:=aw.row) (tag:=tg) (sz:=2) (k:=.i64) hi;have hk:=hok _ (List.getElem_mem hi);have hlg:=fun H=>Ll M hB hk H
  rw [hd,show vsB (bl[i]::(bl.take 300).drop (i+1))=(BU [bl[i].pieces]||vsB ((bl.take 300).drop (i+1))) from rfl];cases c0:BU [bl[i].pieces] with
  |true=>
   rw [Bool.true_or,sel_true];rw [ak M cL.eq_1];simp (maxSteps:=3000000) (maxDischargeDepth:=6) +contextual -implicitDefEqProofs only [amC M,↓amD,Nat.reduceBEq,Nat.reduceAdd,env,aj,dX,amG,AV.cell,Nat.reduceMul,Nat.reduceLeDiff,hp,l1,List.length_map,hi,hx,d3,hir,dD,eS,hlg,c0,hc]
  |false=>
   have hlo:=DI c0;have hpl:=BV bl[i].pieces.l;have hpr:=fun H=>Lc M hU (l:=bl[i].pieces.l) (tg:=bl[i].pieces.tag) hk.len (by omega) H
   have hw1:IntKind.i64.wrap ((m:Int)+(bl[i].pieces.l.length:Int))=((m+bl[i].pieces.l.length:Nat):Int):=by rw [bV (by omega) (by simp only [bH] at hm;omega)];omega
   have hw2:IntKind.i64.wrap (((m+bl[i].pieces.l.length:Nat):Int)+((b8 bl[i].pieces.l).length:Int))=((m+bl[i].pieces.l.length+(b8 bl[i].pieces.l).length:Nat):Int):=by rw [bV (by omega) (by simp only [bH] at hm;omega)];omega
   have ih:=fun He=>vst hB hU hbl hok hc hp k n (i+1) (m+bl[i].pieces.l.length+(b8 bl[i].pieces.l).length) He (by omega) (by omega)
   simp only [kv_cons,kv_nil] at ih;rw [Bool.false_or,show vsN m (bl[i]::(bl.take 300).drop (i+1))=vsN (m+bl[i].pieces.l.length+(b8 bl[i].pieces.l).length) ((bl.take 300).drop (i+1)) from rfl];rw [ak M cL.eq_1];simp (maxSteps:=3000000) (maxDischargeDepth:=6) +contextual -implicitDefEqProofs only [amC M,↓amD,Nat.reduceBEq,Nat.reduceAdd,env,aj,dX,amG,AV.cell,Nat.reduceMul,Nat.reduceLeDiff,hp,l1,List.length_map,hi,hx,d3,hir,dD,eS,hlg,c0,hpr,hw1,hw2,hwi,ih]
theorem Nm(hB:kY E)(hU:jf E)(hS:u6 E){d:Docu}(hd:d.ok 0)(H:List AObj):M.run jt [.agg d.row] H=some (.ret (.bool (B5 d.blocks.l)),H):=by
 have gx:=aJ H [AObj.cells d.row ag];rw [List.getElem?_cons_zero] at gx;have h1:=fun k He=>vst M hB hU hd.blocks.len (fun b hb=>(hd.blocks.all b hb).pieces) (cut_app H [AObj.cells d.row ag]) gx k (d.blocks.l.take 300).length 0 d.blocks.l.length He (by omega) (by have:=hd.blocks.len;omega)
 simp only [kv_cons,kv_nil,Int.ofNat_zero,List.drop_zero,hp_take] at h1;have l1:∀ x:AV,bh none [x] 0=some x:=fun _=>rfl
 have h2:decide ((3500:Int)<(vsN d.blocks.l.length (d.blocks.l.take 300):Int))=decide (3500<vsN d.blocks.l.length (d.blocks.l.take 300)):=by rw [Bool.eq_iff_iff];simp;omega
 rw [bI M hS.truchmanlaw01_vast rfl (c:=jB) rfl,jB];unfold B5;cases c:vsB (d.blocks.l.take 300) with
 |true=>
  simp only [c,sel_true] at h1;simp (maxSteps:=3000000) (maxDischargeDepth:=6) +contextual -implicitDefEqProofs only [amC M,↓amD,Nat.reduceBEq,Nat.reduceAdd,env,aj,dX,amG,AV.cell,Nat.reduceMul,Nat.reduceLeDiff,gx,kp,List.length_map,h1]
 |false=>
  simp only [c,sel_false] at h1;simp (maxSteps:=3000000) (maxDischargeDepth:=6) +contextual -implicitDefEqProofs only [amC M,↓amD,Nat.reduceBEq,Nat.reduceAdd,env,aj,dX,amG,AV.cell,Nat.reduceMul,Nat.reduceLeDiff,gx,kp,List.length_map,h1,h2,hp_take,cut_app]
end
section
attribute [local congr] aA bo aM aC aL aG aD aq au aH aI
variable{E:bb}(M:bO bU E)
theorem ixp(hS:u6 E){g:FuncId}{q:ae→Bool}(hg:∀ (x:ae) H,M.run g [.agg x.row] H=some (.ret (.bool (q x)),H)){G H0:List AObj}(hc:db H0 G){l:List ae}{tg:Tag}(hb:l.length≤bH):∀ (n i:Nat),i+n=l.length →
  sel ((l.drop i).any q) (∃ j:Nat,∀ (k:List Fra) (He:List AObj),M.go aT H0 (.c aE :: .lp ⟨(some [0,1,7,8]),[],false⟩ aE He :: .blk 0 :: .c (.lv [])::k) (kv [(0,.slice tg 3 (l.map ae.row)),(1,.fn (.func g) [] []),(7,.int .i64 l.length),(8,.int .i64 i)]) G=some (.ret (.int .i64 j),G.take H0.length))
   (∀ (k:List Fra) (He:List AObj),M.go aT H0 (.c aE :: .lp ⟨(some [0,1,7,8]),[],false⟩ aE He :: .blk 0 :: .c (.lv [])::k) (kv [(0,.slice tg 3 (l.map ae.row)),(1,.fn (.func g) [] []),(7,.int .i64 l.length),(8,.int .i64 i)]) G=M.go aT H0 k .leaf G)
 |0,i,h=>by
  have e:i=l.length:=by omega
  subst e;rw [List.drop_length,List.any_nil,sel_false];intro k He;rw [ak M aE.eq_1];simp (maxSteps:=3000000) (maxDischargeDepth:=6) +contextual -implicitDefEqProofs only [amC M,↓amD,Nat.reduceBEq,Nat.reduceAdd,env,aj,bw,Nat.lt_irrefl]
 |n+1,i,h=>by
  have hi:i<l.length:=by omega
  have hx:l[i]?=some l[i]:=List.getElem?_eq_getElem hi;have hd:(l.drop i)=l[i]::l.drop (i+1):=List.drop_eq_getElem_cons hi;have hf:=hg l[i];have hia:=a8 (row:=ae.row) (tag:=tg) (sz:=3) (k:=.i64) hi;have hwi:=cV (n:=l.length) hi hb;rw [hd,List.any_cons];cases hbg:q l[i] with
  |true=>
   rw [Bool.true_or,sel_true];refine ⟨i,fun k He => ?_⟩;rw [ak M aE.eq_1];simp (maxSteps:=3000000) (maxDischargeDepth:=6) +contextual -implicitDefEqProofs only [amC M,↓amD,Nat.reduceBEq,Nat.reduceAdd,env,aj,bw,hi,hx,hia,bP,hf,hbg,hc]
  |false=>
   have ih:=ixp hS hg hc (tg:=tg) hb n (i+1) (by omega);rw [Bool.false_or]
   have step:∀ (k:List Fra) (He:List AObj),M.go aT H0 (.c aE :: .lp ⟨(some [0,1,7,8]),[],false⟩ aE He :: .blk 0 :: .c (.lv [])::k) (kv [(0,.slice tg 3 (l.map ae.row)),(1,.fn (.func g) [] []),(7,.int .i64 l.length),(8,.int .i64 i)]) G=M.go aT H0 (.c aE :: .lp ⟨(some [0,1,7,8]),[],false⟩ aE G :: .blk 0 :: .c (.lv [])::k) (kv [(0,.slice tg 3 (l.map ae.row)),(1,.fn (.func g) [] []),(7,.int .i64 l.length),(8,.int .i64 ((i+1:Nat):Int))]) G:=fun k He=>by
    rw [ak M aE.eq_1];simp (maxSteps:=3000000) (maxDischargeDepth:=6) +contextual -implicitDefEqProofs only [amC M,↓amD,Nat.reduceBEq,Nat.reduceAdd,env,aj,bw,hi,hx,hia,bP,hf,hbg,hwi]
   cases ha:(l.drop (i+1)).any q with
   |true=>
    rw [ha,sel_true] at ih;rw [sel_true];obtain ⟨j,ih⟩:=ih;exact ⟨j,fun k He=>by rw [step k He,ih k G]⟩
   |false=>
    rw [ha,sel_false] at ih;rw [sel_false];exact fun k He=>by rw [step k He,ih k G]
theorem JS(hS:u6 E){g:FuncId}{q:ae→Bool}(hg:∀ (x:ae) H,M.run g [.agg x.row] H=some (.ret (.bool (q x)),H)){l:List ae}{tg:Tag}(hb:l.length≤bH)(G:List AObj) :
  M.run bN [.slice tg 3 (l.map ae.row),.fn (.func g) [] []] G=some (.ret (.bool (l.any q)),G):=by
 have h:=ixp M hS hg (cut_refl G) (tg:=tg) hb l.length 0 (by omega);rw [List.drop_zero] at h
 have hi:∃ z:Int,decide ((0:Int)≤z)=l.any q∧M.run cW [.slice tg 3 (l.map ae.row),.fn (.func g) [] []] G=some (.ret (.int .i64 z),G):=by
  cases ha:l.any q with
  |true=>
   rw [ha,sel_true] at h;obtain ⟨j,h⟩:=h;simp only [kv_cons,kv_nil,Int.ofNat_zero] at h;refine ⟨(j:Int),decide_eq_true (by omega), ?_⟩;rw [bI M hS.slices_IndexFunc_api_Piece_api_Piece_1 rfl (c:=bu) rfl,bu];simp (maxSteps:=3000000) (maxDischargeDepth:=6) +contextual -implicitDefEqProofs only [amC M,↓amD,Nat.reduceBEq,Nat.reduceAdd,env,aj,bw,List.length_map,h,hp_self]
  |false=>
   rw [ha,sel_false] at h;simp only [kv_cons,kv_nil,Int.ofNat_zero] at h;refine ⟨-1,rfl, ?_⟩;rw [bI M hS.slices_IndexFunc_api_Piece_api_Piece_1 rfl (c:=bu) rfl,bu];simp (maxSteps:=3000000) (maxDischargeDepth:=6) +contextual -implicitDefEqProofs only [amC M,↓amD,Nat.reduceBEq,Nat.reduceAdd,env,aj,bw,List.length_map,h,hp_self,cut_refl]
 obtain ⟨z,z1,z2⟩:=hi;rw [bI M hS.slices_ContainsFunc_api_Piece_api_Piece_1 rfl (c:=cH) rfl,cH];simp (maxSteps:=3000000) (maxDischargeDepth:=6) +contextual -implicitDefEqProofs only [amC M,↓amD,Nat.reduceBEq,Nat.reduceAdd,env,aj,hZ,z2,z1]
theorem IJ(hS:u6 E)(x:ae)(H:List AObj):M.run oX [.agg x.row] H=some (.ret (.bool x.car),H):=by
 have gx:=aJ H [AObj.cells x.row ah];rw [List.getElem?_cons_zero] at gx;rw [bI M hS.docs_whole_1 rfl (c:=pb) rfl,pb];simp (maxSteps:=3000000) (maxDischargeDepth:=6) +contextual -implicitDefEqProofs only [amC M,↓amD,Nat.reduceBEq,Nat.reduceAdd,env,aj,Bf,amG,AV.cell,Nat.reduceMul,Nat.reduceLeDiff,gx,bP,hp_take,cut_app]
theorem Nn(hS:u6 E)(x:ae)(H:List AObj):M.run rN [.agg x.row] H=some (.ret (.bool (!(x.kind == 1))),H):=by
 have gx:=aJ H [AObj.cells x.row ah];rw [List.getElem?_cons_zero] at gx;rw [bI M hS.docs_raw_1 rfl (c:=rX) rfl,rX];simp (maxSteps:=3000000) (maxDischargeDepth:=6) +contextual -implicitDefEqProofs only [amC M,↓amD,Nat.reduceBEq,Nat.reduceAdd,env,aj,EO,amG,AV.cell,Nat.reduceMul,Nat.reduceLeDiff,gx,bP,hp_take,cut_app]
def uq(l:List ae):Bool := !(l.any (·.car))
def JT(l:List ae):Bool := !(l.any fun x => !(x.kind == 1))
theorem DT(hS:u6 E){l:List ae}{tg:Tag}(hb:l.length≤bH)(H:List AObj):M.run oc [.slice tg 3 (l.map ae.row)] H=some (.ret (.bool (uq l)),H):=by
 have h1:=fun H=>JS M hS (q:=fun x=>x.car) (fun x H=>IJ M hS x H) (tg:=tg) hb H
 rw [bI M hS.docs_whole rfl (c:=rS) rfl,rS];simp (maxSteps:=3000000) (maxDischargeDepth:=6) +contextual -implicitDefEqProofs only [amC M,↓amD,Nat.reduceBEq,Nat.reduceAdd,env,aj,EJ,h1,uq]
theorem PD(hS:u6 E){b:aw}(hb:b.pieces.l.length≤bH)(H:List AObj):M.run vy [.agg b.row] H=some (.ret (.bool (!(b.kind == 6)||JT b.pieces.l)),H):=by
 have gx:=aJ H [AObj.cells b.row aU];rw [List.getElem?_cons_zero] at gx;have h1:=fun H=>JS M hS (q:=fun x => !(x.kind == 1)) (fun x H=>Nn M hS x H) (l:=b.pieces.l) (tg:=b.pieces.tag) hb H
 rw [bI M hS.docs_raw rfl (c:=vC) rfl,vC];cases c:b.kind == 6 with
 |true=>simp (maxSteps:=3000000) (maxDischargeDepth:=6) +contextual -implicitDefEqProofs only [amC M,↓amD,Nat.reduceBEq,Nat.reduceAdd,env,aj,Be,amG,AV.cell,Nat.reduceMul,Nat.reduceLeDiff,gx,dD,c,h1,JT,hp_take,cut_app,Bool.not_true,Bool.false_or]
 |false=>simp (maxSteps:=3000000) (maxDischargeDepth:=6) +contextual -implicitDefEqProofs only [amC M,↓amD,Nat.reduceBEq,Nat.reduceAdd,env,aj,Be,amG,AV.cell,Nat.reduceMul,Nat.reduceLeDiff,gx,dD,c,hp_take,cut_app,Bool.not_false,Bool.true_or]
def xr(b:aw):Int:=sel (decide (b.kind<1)||decide (6<b.kind)) 1 (sel (c9 b.pieces.l == 0) (sel (uq b.pieces.l) (sel (!(b.kind == 6)||JT b.pieces.l) 0 1) 8) (c9 b.pieces.l))
def sA:List aw→Int
 |[]=>0
 |b::l=>sel (xr b == 0) (sA l) (xr b)
def gZ(l:List aw):Int:=sel (decide ((256:Int)<(l.length:Int))) 3 (sA l)
theorem dck(hB:kY E)(hX:sR M)(hS:u6 E){bl:Sl aw}{m0:Nat}(hok:bl.ok m0 (aw.ok m0))(hsz:∀ b∈bl.l,b.pieces.l.length≤1000000∧yP b.pieces.l){H0 H:List AObj}(hc:db H0 H)(hm:m0≤H.length)(k:List Fra):∀ (n i:Nat),i+n=bl.l.length →
  M.go lH H0 (.c dH :: .lp ⟨(some [11,12,13]),[],true⟩ dH H :: .blk 0 :: .c (.lv [])::k) (kv [(11,.slice bl.tag 2 (bl.l.map aw.row)),(12,.int .i64 bl.l.length),(13,.int .i64 i)]) H =
   sel (sA (bl.l.drop i) == 0) (M.go lH H0 k (kv []) H) (some (.ret (.int .u8 (sA (bl.l.drop i))),H.take H0.length))
 |0,i,h=>by
  have e:i=bl.l.length:=by omega
  subst e;rw [List.drop_length,sA,show ((0:Int) == 0)=true from rfl,sel_true];rw [ak M dH.eq_1];simp (maxSteps:=3000000) (maxDischargeDepth:=6) +contextual -implicitDefEqProofs only [amC M,↓amD,Nat.reduceBEq,Nat.reduceAdd,env,aj,eQ,Nat.lt_irrefl]
 |n+1,i,h=>by
  have hi:i<bl.l.length:=by omega
  have hx:bl.l[i]?=some bl.l[i]:=List.getElem?_eq_getElem hi;have hd:(bl.l.drop i)=bl.l[i]::bl.l.drop (i+1):=List.drop_eq_getElem_cons hi;have hwi:=cV (n:=bl.l.length) hi hok.len;have hir:=a8 (row:=aw.row) (tag:=bl.tag) (sz:=2) (k:=.i64) hi;obtain ⟨z1,z2⟩:=hsz _ (List.getElem_mem hi);have w1:Wk H.length (.slice bl.tag 2 (bl.l.map aw.row)) (.slice bl.tag 2 (bl.l.map aw.row)):=(hok.mono hm (fun _ h=>h.mono hm)).wk (fun _ h=>h.wk)
  have ih:=dck hB hX hS hok hsz hc hm k n (i+1) (by omega);simp only [kv_cons,kv_nil] at ih;have gx:=aJ H [AObj.cells bl.l[i].row aU];rw [List.getElem?_cons_zero] at gx;have h1:=fun H=>sy M hB hX (l:=bl.l[i].pieces) z1 z2 H
  have h2:=fun H=>DT M hS (l:=bl.l[i].pieces.l) (tg:=bl.l[i].pieces.tag) (by simp only [bH];omega) H
  have h3:=fun H=>PD M hS (b:=bl.l[i]) (by simp only [bH];omega) H
  have hct:∀ X,db H0 (H++X):=fun X=>⟨by have:=hc.1;simp;omega,fun i x hi hx=>hc.2 i x hi (by rwa [List.getElem?_append_left (by have:=hc.1;omega)] at hx)⟩
  have htk:∀ X,(H++X).take H0.length=H.take H0.length:=fun X=>List.take_append_of_le_length hc.1
  rw [hd,sA];generalize hbb:bl.l[i]=b at *
  unfold xr;cases c1:decide (b.kind<1) with
  |true=>
   rw [Bool.true_or,sel_true,show ((1:Int) == 0)=false from rfl,sel_false,show ((1:Int) == 0)=false from rfl,sel_false];rw [ak M dH.eq_1];simp (maxSteps:=3000000) (maxDischargeDepth:=6) +contextual -implicitDefEqProofs only [amC M,↓amD,Nat.reduceBEq,Nat.reduceAdd,env,aj,eQ,amG,AV.cell,Nat.reduceMul,Nat.reduceLeDiff,hi,hx,hbb,hir,dD,gx,c1,hct,htk]
  |false=>
  cases c2:decide (6<b.kind) with
  |true=>
   rw [Bool.false_or,sel_true,show ((1:Int) == 0)=false from rfl,sel_false,show ((1:Int) == 0)=false from rfl,sel_false];rw [ak M dH.eq_1];simp (maxSteps:=3000000) (maxDischargeDepth:=6) +contextual -implicitDefEqProofs only [amC M,↓amD,Nat.reduceBEq,Nat.reduceAdd,env,aj,eQ,amG,AV.cell,Nat.reduceMul,Nat.reduceLeDiff,hi,hx,hbb,hir,dD,gx,c1,c2,hct,htk]
  |false=>
  rw [Bool.false_or,sel_false];cases c3:c9 b.pieces.l == 0 with
  |false=>
   rw [sel_false,c3,sel_false,c3,sel_false];rw [ak M dH.eq_1];simp (maxSteps:=3000000) (maxDischargeDepth:=6) +contextual -implicitDefEqProofs only [amC M,↓amD,Nat.reduceBEq,Nat.reduceAdd,env,aj,eQ,amG,AV.cell,Nat.reduceMul,Nat.reduceLeDiff,hi,hx,hbb,hir,dD,gx,c1,c2,h1,c3,hct,htk,Bool.not_false]
  |true=>
  rw [sel_true];cases c4:uq b.pieces.l with
  |false=>
   rw [sel_false,show ((8:Int) == 0)=false from rfl,sel_false,show ((8:Int) == 0)=false from rfl,sel_false];rw [ak M dH.eq_1];simp (maxSteps:=3000000) (maxDischargeDepth:=6) +contextual -implicitDefEqProofs only [amC M,↓amD,Nat.reduceBEq,Nat.reduceAdd,env,aj,eQ,amG,AV.cell,Nat.reduceMul,Nat.reduceLeDiff,hi,hx,hbb,hir,dD,gx,c1,c2,h1,c3,h2,c4,hct,htk,Bool.not_false,Bool.not_true]
  |true=>
  rw [sel_true];cases c5:(!(b.kind == 6)||JT b.pieces.l) with
  |false=>
   rw [sel_false,show ((1:Int) == 0)=false from rfl,sel_false,show ((1:Int) == 0)=false from rfl,sel_false];rw [ak M dH.eq_1];simp (maxSteps:=3000000) (maxDischargeDepth:=6) +contextual -implicitDefEqProofs only [amC M,↓amD,Nat.reduceBEq,Nat.reduceAdd,env,aj,eQ,amG,AV.cell,Nat.reduceMul,Nat.reduceLeDiff,hi,hx,hbb,hir,dD,gx,c1,c2,h1,c3,h2,c4,h3,c5,hct,htk,Bool.not_false,Bool.not_true]
  |true=>
   rw [sel_true,show ((0:Int) == 0)=true from rfl,sel_true];rw [ak M dH.eq_1];simp (maxSteps:=3000000) (maxDischargeDepth:=6) +contextual -implicitDefEqProofs only [amC M,↓amD,Nat.reduceBEq,Nat.reduceAdd,env,aj,eQ,amG,AV.cell,Nat.reduceMul,Nat.reduceLeDiff,hi,hx,hbb,hir,dD,gx,c1,c2,h1,c3,h2,c4,h3,c5,hct,hwi,ih,w1,cut_app,hp_take,Bool.not_false,Bool.not_true]
theorem B6(hB:kY E)(hX:sR M)(hS:u6 E){d:Docu}{m0:Nat}(hd:d.ok m0)(hsz:d.blocks.l.length≤256→∀ b∈d.blocks.l,b.pieces.l.length≤1000000∧yP b.pieces.l)(H:List AObj)(hm:m0≤H.length:=by exact Nat.zero_le _) :
  M.run nZ [.agg d.row] H=some (.ret (.int .u8 (gZ d.blocks.l)),H):=by
 have gx:=aJ H [AObj.cells d.row ag];rw [List.getElem?_cons_zero] at gx;rw [bI M hS.docs_Check rfl (c:=rR) rfl,rR];unfold gZ;cases c0:decide ((256:Int)<(d.blocks.l.length:Int)) with
 |true=>simp (maxSteps:=3000000) (maxDischargeDepth:=6) +contextual -implicitDefEqProofs only [amC M,↓amD,Nat.reduceBEq,Nat.reduceAdd,env,aj,eQ,amG,AV.cell,Nat.reduceMul,Nat.reduceLeDiff,gx,kp,List.length_map,c0,hp_take,cut_app]
 |false=>
  have h1:=fun k=>dck M hB hX hS hd.blocks (hsz (by have:=of_decide_eq_false c0;omega)) (cut_app H [AObj.cells d.row ag]) (by simp;omega) k d.blocks.l.length 0 (by omega)
  simp only [kv_cons,kv_nil,Int.ofNat_zero,List.drop_zero,hp_take] at h1;cases c1:sA d.blocks.l == 0 with
  |false=>
   simp only [c1,sel_false] at h1;simp (maxSteps:=3000000) (maxDischargeDepth:=6) +contextual -implicitDefEqProofs only [amC M,↓amD,Nat.reduceBEq,Nat.reduceAdd,env,aj,eQ,amG,AV.cell,Nat.reduceMul,Nat.reduceLeDiff,gx,kp,List.length_map,c0,h1]
  |true=>
   simp only [c1,sel_true] at h1;have e1:sA d.blocks.l=0:=by simpa using c1
   simp (maxSteps:=3000000) (maxDischargeDepth:=6) +contextual -implicitDefEqProofs only [amC M,↓amD,Nat.reduceBEq,Nat.reduceAdd,env,aj,eQ,amG,AV.cell,Nat.reduceMul,Nat.reduceLeDiff,gx,kp,List.length_map,c0,h1,e1,hp_take,cut_app]
end
section
attribute [local congr] aA bo aM aC aL aG aD aq au aH aI
variable{E:bb}(M:bO bU E)
end
section
attribute [local congr] aA bo aM aC aL aG aD aq au aH aI
variable{E:bb}(M:bO bU E)
def mkS(n:Nat)(p:List ae):bk:=⟨(n:Int),⟨lV p,p⟩⟩
theorem PE(n:Nat)(p:List ae):(mkS n p).row=[.int .i64 (n:Int),.slice (lV p) 3 (p.map ae.row)]:=rfl
def kf(rs:List Brk)(b:aw):List (List ae):=nM b.pieces.l (yg rs b.pieces.l)
def ur(rs:List Brk)(l:List aw):Bool:=l.any fun b => !(b.kind == 6)&&(kf rs b).any nL
def mJ(rs:List Brk):Nat→List aw→List bk
 |_,[]=>[]
 |n,b::l=>sel (b.kind == 6) [] ((kf rs b).map (mkS n))++mJ rs (n+1) l
theorem sn(p:List ae):AV.strip (.slice (lV p) 3 (p.map ae.row)) = .slice (lV p) 3 (p.map ae.row):=by
 rw [eS];cases p<;>rfl
theorem DU:∀ {l:List aw},sA l=0→∀ b∈l,c9 b.pieces.l=0
 |x::l,h,b,hb=>by
  rw [sA] at h;cases c:xr x == 0 with
  |false=>
   rw [c,sel_false] at h;rw [h] at c;cases c
  |true=>
   rw [c,sel_true] at h;rcases List.mem_cons.1 hb with rfl | hb
   ·have e:xr b=0:=by simpa using c
    unfold xr at e;cases c1:(decide (b.kind<1)||decide (6<b.kind)) with
    |true=>rw [c1,sel_true] at e;cases e
    |false=>
     rw [c1,sel_false] at e;cases c2:c9 b.pieces.l == 0 with
     |true=>simpa using c2
     |false=>rw [c2,sel_false] at e;exact e
   ·exact DU h b hb
theorem Fh(u:List Un)(rs:List Brk):∀ (n a:Nat) (N:Int) (p:Option Int),1≤a→(a:Int)+n=N→(∀ q,p=some q→q<a)→okA N p (E3 u rs n a)=true
 |0,a,N,p,_,_,_=>by rw [E3,okA.eq_def]
 |n+1,a,N,p,ha,hN,hp=>by
  rw [E3];cases ye u a rs with
  |false=>
   rw [sel_false,List.nil_append];exact Fh u rs n (a+1) N p (by omega) (by omega) fun q e=>by have:=hp q e;omega
  |true=>
   have ih:=Fh u rs n (a+1) N (some (a:Int)) (by omega) (by omega) fun q e=>by cases e;omega
   have d1:decide ((a:Int)<1)=false:=decide_eq_false (by omega);have d2:decide (N-1<(a:Int))=false:=decide_eq_false (by omega);rw [sel_true,List.singleton_append,xo,d1,d2,ih];cases p with
   |none=>rfl
   |some q=>
    have d3:decide ((a:Int)≤q)=false:=decide_eq_false (by have:=hp q rfl;omega);simp [d3]
theorem Hc(rs:List Brk)(l:List ae):okA ((unL l).length:Int) none (yg rs l)=true:=by
 unfold yg
 by_cases h:(unL l).length=0
 ·rw [h];rfl
 ·exact Fh _ _ _ _ _ _ (Nat.le_refl _) (by omega) fun q e=>by cases e
theorem Qx(n:Nat)(l:List bk)(h:∀ s∈l,∃ k p,s=mkS k p):gH n (l.map bk.row):=by
 rw [rowsWk_map];intro s hs;obtain ⟨k,p,rfl⟩:=h s hs;exact ⟨wk_int _ _ _,wk_slice (by cases p<;>trivial) (M1 n p),trivial⟩
theorem Fi(rs:List Brk):∀ (l:List aw) (n:Nat),∀ s∈mJ rs n l,∃ k p,s=mkS k p
 |[],n,s,h=>by cases h
 |b::l,n,s,h=>by
  rw [mJ] at h;rcases List.mem_append.1 h with h | h
  ·cases c:b.kind == 6 with
   |true=>rw [c,sel_true] at h;cases h
   |false=>
    rw [c,sel_false] at h;obtain ⟨p,_,rfl⟩:=List.mem_map.1 h;exact ⟨n,p,rfl⟩
  ·exact Fi rs l (n+1) s h
theorem dsi{H H0:List AObj}{v7 v30 v31 v32:AV}{nb:Nat}{pl:List (List ae)}{tg:Tag}(hpl:pl.length≤100000000){X:List AObj}(k:List Fra):∀ (n j:Nat) (o:List bk) (He:List AObj),j+n=pl.length→o.length+n≤1000000000 →
  M.go fi H0 (.c gy :: .lp ⟨(some [7,9,10,30,31,32,52,53,54]),[(9,2,aN)],false⟩ gy He :: .blk 2 :: .c (.lv [7,9,30,31,32])::k) (kv [(7,v7),(9,.slice (.own H.length) 2 (o.map bk.row)),(10,.int .i64 nb),(30,v30),(31,v31),(32,v32),(52,.slice tg 1 (pl.map plR)),(53,.int .i64 pl.length),(54,.int .i64 j)]) (H++(.tok (o.length*2) aN::X)) =
   M.go fi H0 k (kv [(7,v7),(9,.slice (.own H.length) 2 ((o++(pl.drop j).map (mkS nb)).map bk.row)),(30,v30),(31,v31),(32,v32)]) (H++(.tok ((o++(pl.drop j).map (mkS nb)).length*2) aN::X))
 |0,j,o,He,h,ho=>by
  have e:j=pl.length:=by omega
  subst e;rw [List.drop_length,List.map_nil,List.append_nil];rw [ak M gy.eq_1];simp (maxSteps:=3000000) (maxDischargeDepth:=6) +contextual -implicitDefEqProofs only [amC M,↓amD,Nat.reduceBEq,Nat.reduceAdd,env,aj,dw,Nat.lt_irrefl]
 |n+1,j,o,He,h,ho=>by
  have hj:j<pl.length:=by omega
  have hx:pl[j]?=some pl[j]:=List.getElem?_eq_getElem hj;have hd:(pl.drop j)=pl[j]::pl.drop (j+1):=List.drop_eq_getElem_cons hj;have hwj:=cV (n:=pl.length) hj (by simp only [bH];omega);have hir:=a8 (row:=plR) (tag:=tg) (sz:=1) (k:=.i64) hj;have ap:=fun L=>zP (row:=bk.row) (l:=o) (x:=mkS nb pl[j]) (r:=[.int .i64 (nb:Int),.slice (lV pl[j]) 3 (pl[j].map ae.row)]) (sz:=2) (bytes:=32) (e:=aN) H L rfl rfl (by rw [List.map_cons,List.map_cons,sn,PE];rfl) (by omega) (by omega)
  have ih:=fun He=>dsi (H:=H) (H0:=H0) (v7:=v7) (v30:=v30) (v31:=v31) (v32:=v32) (nb:=nb) (tg:=tg) hpl (X:=X) k n (j+1) (o++[mkS nb pl[j]]) He (by omega) (by simp;omega)
  simp only [kv_cons,kv_nil] at ih;rw [hd,List.map_cons,show o++mkS nb pl[j]::(pl.drop (j+1)).map (mkS nb)=o++[mkS nb pl[j]]++(pl.drop (j+1)).map (mkS nb) by simp];rw [ak M gy.eq_1];simp (maxSteps:=3000000) (maxDischargeDepth:=6) +contextual -implicitDefEqProofs only [amC M,↓amD,Nat.reduceBEq,Nat.reduceAdd,env,aj,dw,amG,AV.cell,Nat.reduceMul,Nat.reduceLeDiff,hj,hx,hwj,hir,Sz,sn,ap,ih]
theorem IK{rs:List Brk}{b:aw}(h:b.pieces.l.length+gR b.pieces.l≤2600):(kf rs b).length≤20000:=by
 have b0:CBm 0 ⟨[],[],yg rs b.pieces.l,0,false,[]⟩:=⟨Nat.le_refl _,fun s hs=>(by cases hs),Nat.le_refl _,Nat.le_refl _,fun x hx=>(by cases hx),Nat.le_refl _⟩
 have hb:=(Ff b.pieces.l b0).done;rw [Fg] at hb;unfold kf nM GY;rw [List.length_append,List.length_singleton];omega
theorem dso(hB:kY E)(hU:jf E)(hN:IA E)(hC:mI E){rs:List Brk}(hr0:rs.length≤bH)(hr:∀ r∈rs,r.bef.length≤1000000∧r.aft.length≤1000000){bl:Sl aw}{m0:Nat}(hok:bl.ok m0 (aw.ok m0))(hlen:bl.l.length≤256)(hsz:∀ b∈bl.l,b.pieces.l.length+gR b.pieces.l≤2600)(hck:∀ b∈bl.l,c9 b.pieces.l=0){H H0:List AObj}(hc:db H0 H)(hm:m0≤H.length)(k:List Fra):∀ (n i:Nat) (o:List bk),i+n=bl.l.length→o.length≤i*20000→(∀ s∈o,∃ k p,s=mkS k p) →
  M.go fi H0 (.c ey :: .lp ⟨(some [7,9,30,31,32]),[(9,2,aN)],true⟩ ey (H++[.tok (o.length*2) aN]) :: .blk 0 :: .c (.lv [9])::k) (kv [(7,.slice .any 3 (rs.map ed)),(9,.slice (.own H.length) 2 (o.map bk.row)),(30,.slice bl.tag 2 (bl.l.map aw.row)),(31,.int .i64 bl.l.length),(32,.int .i64 i)]) (H++[.tok (o.length*2) aN]) =
   sel (ur rs (bl.l.drop i)) (some (.ret (.tuple [.slice .any 2 [],.int .u8 3]),H.take H0.length)) (M.go fi H0 k (kv [(9,.slice (.own H.length) 2 ((o++mJ rs i (bl.l.drop i)).map bk.row))]) (H++[.tok ((o++mJ rs i (bl.l.drop i)).length*2) aN]))
 |0,i,o,h,ho,hmk=>by
  have e:i=bl.l.length:=by omega
  subst e;rw [List.drop_length,show ur rs []=false from rfl,sel_false,mJ,List.append_nil];rw [ak M ey.eq_1];simp (maxSteps:=3000000) (maxDischargeDepth:=6) +contextual -implicitDefEqProofs only [amC M,↓amD,Nat.reduceBEq,Nat.reduceAdd,env,aj,dw,Nat.lt_irrefl]
 |n+1,i,o,h,ho,hmk=>by
  have hi:i<bl.l.length:=by omega
  have hx:bl.l[i]?=some bl.l[i]:=List.getElem?_eq_getElem hi;have hd:(bl.l.drop i)=bl.l[i]::bl.l.drop (i+1):=List.drop_eq_getElem_cons hi;have hwi:=cV (n:=bl.l.length) hi hok.len;have hir:=a8 (row:=aw.row) (tag:=bl.tag) (sz:=2) (k:=.i64) hi;have z:=hsz _ (List.getElem_mem hi);have ck:=hck _ (List.getElem_mem hi);have hcl:=IK (rs:=rs) z;have w1:Wk (H.length+1) (.slice bl.tag 2 (bl.l.map aw.row)) (.slice bl.tag 2 (bl.l.map aw.row)):=(hok.mono (m:=H.length+1) (by omega) (fun _ h=>h.mono (by omega))).wk (fun _ h=>h.wk)
  have w2:Wk (H.length+1) (.slice .any 3 (rs.map ed)) (.slice .any 3 (rs.map ed)):=wk_slice trivial (BS _ _);have w3:∀ o:List bk,(∀ s∈o,∃ k p,s=mkS k p)→Wk (H.length+1) (.slice (.own H.length) 2 (o.map bk.row)) (.slice (.own H.length) 2 (o.map bk.row)):=fun o ho=>wk_slice (by simp [wN]) (Qx _ _ ho)
  have gk:∀ L:List AObj,(H++L)[H.length+1]?=L[1]? := fun L=>hp_getk H L 1
  have sk:∀ (L:List AObj) (x:AObj),(H++L).set (H.length+1) x=H++L.set 1 x:=fun L x=>hp_setk H L 1 x
  have hct:∀ X,db H0 (H++X):=fun X=>⟨by have:=hc.1;simp;omega,fun i x hi hx=>hc.2 i x hi (by rwa [List.getElem?_append_left (by have:=hc.1;omega)] at hx)⟩
  have htk:∀ X,(H++X).take H0.length=H.take H0.length:=fun X=>List.take_append_of_le_length hc.1
  have hul:=JH bl.l[i].pieces.l;have hp1:=fun H=>IC M hB hU hN hr0 hr (l:=bl.l[i].pieces) (by omega) (by omega) H
  have hp2:=fun H=>Py M hC (l:=bl.l[i].pieces.l) (tg:=bl.l[i].pieces.tag) (ta:=.any) (pos:=yg rs bl.l[i].pieces.l) (by simp only [bH];omega) (fun x hx=>by have:=rh hx;simp only [bH];omega) (.inl rfl) (II ck) (by rw [Fg];omega) H
  unfold Rv at hp2;rw [hd,mJ,show ur rs (bl.l[i]::bl.l.drop (i+1))=((!(bl.l[i].kind == 6)&&(kf rs bl.l[i]).any nL)||ur rs (bl.l.drop (i+1))) from rfl];generalize hbb:bl.l[i]=b at *
  cases c1:b.kind == 6 with
  |true=>
   have ih:=dso hB hU hN hC hr0 hr hok hlen hsz hck hc hm k n (i+1) o (by omega) (by omega) hmk;simp only [kv_cons,kv_nil] at ih;rw [Bool.not_true,Bool.false_and,Bool.false_or,sel_true,List.nil_append];have w3':=w3 o hmk;rw [ak M ey.eq_1];simp (maxSteps:=3000000) (maxDischargeDepth:=6) +contextual -implicitDefEqProofs only [amC M,↓amD,Nat.reduceBEq,Nat.reduceAdd,env,aj,dw,amG,AV.cell,Nat.reduceMul,Nat.reduceLeDiff,hi,hx,hbb,hir,hwi,dD,gk,sk,List.getElem?_cons_succ,List.getElem?_cons_zero,List.set_cons_succ,List.set_cons_zero,c1,ih,w1,w2,w3',xf,uk]
  |false=>
  rw [Bool.not_false,Bool.true_and,sel_false];cases c2:(kf rs b).any nL with
  |true=>
   rw [Bool.true_or,sel_true];have c2':(nM b.pieces.l (yg rs b.pieces.l)).any nL=true:=c2;rw [ak M ey.eq_1];simp (maxSteps:=3000000) (maxDischargeDepth:=6) +contextual -implicitDefEqProofs only [amC M,↓amD,Nat.reduceBEq,Nat.reduceAdd,env,aj,dw,amG,AV.cell,Nat.reduceMul,Nat.reduceLeDiff,hi,hx,hbb,hir,hwi,dD,gk,sk,List.getElem?_cons_succ,List.getElem?_cons_zero,List.set_cons_succ,List.set_cons_zero,c1,hp1,hp2,c2',cX,Bool.not_true,Bool.not_false,hct,htk,fI,wk_tuple]
  |false=>
   have c2':(nM b.pieces.l (yg rs b.pieces.l)).any nL=false:=c2;rw [Bool.false_or]
   have hmk2:∀ s∈o++(kf rs b).map (mkS i),∃ k p,s=mkS k p:=fun s hs=>by
    rcases List.mem_append.1 hs with hs | hs
    ·exact hmk s hs
    ·obtain ⟨p,_,rfl⟩:=List.mem_map.1 hs;exact ⟨i,p,rfl⟩
   have ih:=dso hB hU hN hC hr0 hr hok hlen hsz hck hc hm k n (i+1) (o++(kf rs b).map (mkS i)) (by omega) (by rw [List.length_append,List.length_map];omega) hmk2;have h0:=fun X k He=>dsi M (H:=H) (H0:=H0) (v7:=.slice .any 3 (rs.map ed)) (v30:=.slice bl.tag 2 (bl.l.map aw.row)) (v31:=.int .i64 bl.l.length) (v32:=.int .i64 i) (nb:=i) (pl:=kf rs b) (tg:=.any) (by omega) (X:=X) k (kf rs b).length 0 o He (by omega) (by omega)
   simp only [kv_cons,kv_nil,Int.ofNat_zero,List.drop_zero] at ih h0;rw [← List.append_assoc];have w3':=w3 _ hmk2;generalize hoo:o++(kf rs b).map (mkS i)=oo at ih h0 w3' ⊢;have hcc:nM b.pieces.l (yg rs b.pieces.l)=kf rs b:=rfl;rw [ak M ey.eq_1];simp (maxSteps:=3000000) (maxDischargeDepth:=6) +contextual -implicitDefEqProofs only [amC M,↓amD,Nat.reduceBEq,Nat.reduceAdd,env,aj,dw,amG,AV.cell,Nat.reduceMul,Nat.reduceLeDiff,hi,hx,hbb,hir,hwi,dD,gk,sk,List.getElem?_cons_succ,List.getElem?_cons_zero,List.set_cons_succ,List.set_cons_zero,c1,hp1,hp2,c2,c2',hcc,cX,Bool.not_true,Bool.not_false,List.length_map,h0,ih,w1,w2,w3',xf,uk]
def No(rs:List Brk)(l:List aw):AV:=
 sel (gZ l == 0) (sel (nK rs == 0) (sel (ur rs l) (.tuple [.slice .any 2 [],.int .u8 3]) (.tuple [.slice .any 2 ((mJ rs 0 l).map bk.row),.int .u8 0])) (.tuple [.slice .any 2 [],.int .u8 (nK rs)])) (.tuple [.slice .any 2 [],.int .u8 (gZ l)])
theorem xt{l:List aw}(h:(gZ l == 0)=true):l.length≤256∧∀ b∈l,c9 b.pieces.l=0:=by
 have h0:gZ l=0:=by simpa using h
 unfold gZ at h0;cases c:decide ((256:Int)<(l.length:Int)) with
 |true=>rw [c,sel_true] at h0;cases h0
 |false=>
  rw [c,sel_false] at h0;exact ⟨by have:=of_decide_eq_false c;omega,DU h0⟩
theorem C5(hB:kY E)(hX:sR M)(hU:jf E)(hN:IA E)(hC:mI E)(hS:u6 E){rs:Sl Brk}(hrs:rs.ok 0 (Brk.ok 0))(hr0:rs.l.length≤1000)(hr:rs.l.length≤64→∀ r∈rs.l,r.bef.length≤1000000∧r.aft.length≤1000000){d:Docu}(hd:d.ok 0)(hsz:d.blocks.l.length≤256→∀ b∈d.blocks.l,b.pieces.l.length+gR b.pieces.l≤2600)(H:List AObj) :
  M.run nr [.agg d.row,.slice rs.tag 3 (rs.l.map Brk.row)] H=some (.ret (No rs.l d.blocks.l),H):=by
 have gx:=aJ H [AObj.cells d.row ag];rw [List.getElem?_cons_zero] at gx
 have k1:=fun H=>B6 M hB hX hS hd (fun h b hb=>by
  have z:=hsz h b hb;exact ⟨by omega,fun x hx=>by have:=rh hx;omega⟩) H
 have k2:=fun H=>E7 M hB hX hU hrs hr0 hr H
 unfold M8 at k2;rw [bI M hS.docs_Segments rfl (c:=nA) rfl,nA];unfold No;cases c0:gZ d.blocks.l == 0 with
 |false=>simp (maxSteps:=3000000) (maxDischargeDepth:=6) +contextual -implicitDefEqProofs only [amC M,↓amD,Nat.reduceBEq,Nat.reduceAdd,env,aj,dw,amG,AV.cell,Nat.reduceMul,Nat.reduceLeDiff,gx,kp,k1,c0,Bool.not_false,hp_take,cut_app,fI,wk_tuple]
 |true=>
 cases c1:nK rs.l == 0 with
 |false=>
  simp only [c1,sel_false] at k2;simp (maxSteps:=3000000) (maxDischargeDepth:=6) +contextual -implicitDefEqProofs only [amC M,↓amD,Nat.reduceBEq,Nat.reduceAdd,env,aj,dw,amG,AV.cell,Nat.reduceMul,Nat.reduceLeDiff,gx,kp,k1,c0,Bool.not_true,Bool.not_false,k2,c1,cX,List.getElem?_cons_zero,List.getElem?_cons_succ,hp_take,cut_app,fI,wk_tuple]
 |true=>
  simp only [c1,sel_true] at k2;obtain ⟨b1,b2⟩:=xt c0;have h1:=fun k=>dso M hB hU hN hC (rs:=rs.l) (by simp only [bH];omega) (hr (Iv c1)) hd.blocks b1 (hsz b1) b2 (cut_app H [AObj.cells d.row ag]) (Nat.zero_le _) k d.blocks.l.length 0 [] (by omega) (Nat.zero_le _) (fun s hs=>(by cases hs))
  simp only [kv_cons,kv_nil,Int.ofNat_zero,List.drop_zero,hp_take,List.nil_append,List.length_nil,Nat.zero_mul,List.map_nil,List.length_append,List.length_cons,List.append_assoc,List.cons_append,Nat.zero_add] at h1;cases c2:ur rs.l d.blocks.l with
  |true=>
   simp only [c2,sel_true] at h1;simp (maxSteps:=3000000) (maxDischargeDepth:=6) +contextual -implicitDefEqProofs only [amC M,↓amD,Nat.reduceBEq,Nat.reduceAdd,env,aj,dw,amG,AV.cell,Nat.reduceMul,Nat.reduceLeDiff,gx,kp,k1,c0,Bool.not_true,k2,cX,List.getElem?_cons_zero,List.getElem?_cons_succ,(show ((0:Int) == 0)=true from rfl),List.length_map,h1]
  |false=>
   simp only [c2,sel_false] at h1;have hh:=handV_drop (cut_app H [.cells d.row ag,.tok ((mJ rs.l 0 d.blocks.l).length*2) aN]) (wk_tuple (xs:=[.slice (.own (H.length+1)) 2 ((mJ rs.l 0 d.blocks.l).map bk.row),.int .u8 0]) ⟨wk_any (esz:=2) (tag:=.own (H.length+1)) (Qx H.length _ (Fi _ _ _)),wk_int _ _ 0,trivial⟩);simp only [anyV_tuple,hp_take] at hh;simp (maxSteps:=3000000) (maxDischargeDepth:=6) +contextual -implicitDefEqProofs only [amC M,↓amD,Nat.reduceBEq,Nat.reduceAdd,env,aj,dw,amG,AV.cell,Nat.reduceMul,Nat.reduceLeDiff,gx,kp,k1,c0,Bool.not_true,k2,cX,List.getElem?_cons_zero,List.getElem?_cons_succ,(show ((0:Int) == 0)=true from rfl),List.length_map,h1,hh]
end
end Go.Am
