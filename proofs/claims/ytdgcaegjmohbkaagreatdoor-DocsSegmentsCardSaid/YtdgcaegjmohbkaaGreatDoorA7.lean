import Derived.Test.YtdgcaegjmohbkaaGreatDoorA6
/-
  Part 7 of the tool: an abstract machine over the model, proved sound, and what it says of the functions that the law reaches. Condition: none but those that each theorem names.
-/
set_option linter.unusedVariables false
set_option linter.unusedSimpArgs false
set_option maxRecDepth 100000
set_option maxHeartbeats 4000000
namespace Go.Am
open Go.RowKit
section
attribute [local congr] aI bR aZ aJ aY aR aK aC aD aS aT
variable{E:bG}(M:cJ cM E)
theorem Tj(hC:jT E){t:Nat}{R:Nat→Prop}{pos:List Int}{ta:Tag}(hpl:pos.length≤1000000){s:List ag}(hs:s.length≤100000000){H0:List AObj}{i m:Nat}{x:ag}(hi:i<s.length)(hx:s[i]?=some x)(hxt:x.text.length≤100000000)
  {H:List AObj}{S:CSt}{q:Nat}{vs:List AV}{v ov:AV} (h:nd t R H S q vs v ov) (hb:CBm m S) (hm:m≤50000) (hop:(x.kind == 3)=true→S.opn≠[]) :
  ∃ H1 q1 vs1 v1 ov1,(∀ (k:List Fra) (He:List AObj),M.go bH H0 (.c aN :: .lp ⟨(some [1,9,10,11,12,13,14]),[(10,1,al)],false⟩ aN He :: .blk 2 :: .c (.lv [10,11])::k) (kv [(1,.slice ta 1 (pos.map bU)),(9,.slice .any 3 (s.map ag.row)),(10,.slice (.own t) 1 (vs.map nA)),(11,v),(12,ov),(13,.int .i64 S.place),(14,.int .i64 i)]) H =
   M.go bH H0 (.c aN :: .lp ⟨(some [1,9,10,11,12,13,14]),[(10,1,al)],false⟩ aN H1 :: .blk 2 :: .c (.lv [10,11])::k) (kv [(1,.slice ta 1 (pos.map bU)),(9,.slice .any 3 (s.map ag.row)),(10,.slice (.own t) 1 (vs1.map nA)),(11,v1),(12,ov1),(13,.int .i64 (xU pos S x).place),(14,.int .i64 ((i+1:Nat):Int))]) H1)∧nd t R H1 (xU pos S x) q1 vs1 v1 ov1∧sX R H H1:=by
 have hir:=aA (row:=ag.row) (tag:=.any) (sz:=3) (k:=.i64) hi;have hwi:=bt (n:=s.length) hi (by simp only [aX];omega);have hvl:=h.len;have bnd:∀ S1:CSt,CBm (m+1) S1→S1.cur.length≤100000000∧(∀ y∈S1.cur,y.text.length≤100000000)∧S1.opn.length≤100000∧S1.place≤100000:=fun S1 b=>⟨by have:=b.cur;omega,fun y hy=>by have:=b.txt y hy;omega,by have:=b.opn;omega,by have:=b.place;omega⟩
 have s2:(x.kind == 2)=true→∀ {H1:List AObj}{S1:CSt}{q1:Nat}{vs1:List AV}{v1 ov1:AV},nd t R H1 S1 q1 vs1 v1 ov1→CBm (m+1) S1→∃ ov2 G2 w G3,rap true H1 aH 1 16 false ov1 (.slice .full 1 [[.str x.text]])=some (ov2,G2)∧M.run dI [v1,.agg x.row] G2=some (.ret w,G3)∧nd t R G3 (iC S1 x) q1 vs1 w ov2∧sX R H1 G3:=fun k2 {H1 S1 q1 vs1 v1 ov1} w1 b=>by
  obtain ⟨b1,b2,b3,_⟩:=bnd S1 b;obtain ⟨ov2,G2,a1,a2,a3⟩:=w1.open b3 x.text;obtain ⟨w,G3,c1,c2,c3⟩:=a2.add M hC b1 b2 hxt;refine ⟨ov2,G2,w,G3,a1,c1, ?_,a3.trans c3⟩;have e1:(x.kind == 1)=false:=by rw [eq_of_beq k2];rfl
  have e5:(x.kind == 5)=false:=by rw [eq_of_beq k2];rfl
  have hN:iC S1 x = { S1 with opn:=S1.opn++[x.text],cur:=jH S1.cur x }:=by simp [iC,sL,k2,e1,e5,sel_true,sel_false]
  rw [hN];exact c2
 have s3:(x.kind == 3)=true→∀ {H1:List AObj}{S1:CSt}{q1:Nat}{vs1:List AV}{v1 ov1:AV},nd t R H1 S1 q1 vs1 v1 ov1→CBm (m+1) S1→S1.opn≠[]→∃ ov2 w G3,(∀ G,rG G .sl ov1=some (.int .i64 (S1.opn.length:Int)))∧CB 1 ov1 none (some (.int .i64 ((S1.opn.length-1:Nat):Int))) none=some ov2∧IntKind.i64.wrap ((S1.opn.length:Int)-1)=((S1.opn.length-1:Nat):Int)∧M.run dI [v1,.agg x.row] H1=some (.ret w,G3)∧nd t R G3 (iC S1 x) q1 vs1 w ov2∧sX R H1 G3:=fun k3 {H1 S1 q1 vs1 v1 ov1} w1 b hne=>by
  obtain ⟨b1,b2,b3,_⟩:=bnd S1 b
  obtain ⟨l,s,hls⟩:∃ l s,S1.opn=l++[s]:=by
   rcases List.eq_nil_or_concat S1.opn with h | ⟨l,s,h⟩
   ·exact absurd h hne
   ·exact ⟨l,s,by simpa using h⟩
  have hlen:S1.opn.length=l.length+1:=by rw [hls];simp
  obtain ⟨ov2,a1,a2⟩:=w1.shut hls;obtain ⟨w,G3,c1,c2,c3⟩:=a2.add M hC b1 b2 hxt;refine ⟨ov2,w,G3,fun G=>tK (G:=G) w1.op,by rw [hlen,Nat.add_sub_cancel];exact a1,by rw [bK (by omega) (by omega)];omega,c1, ?_,c3⟩;have e1:(x.kind == 1)=false:=by rw [eq_of_beq k3];rfl
  have e2:(x.kind == 2)=false:=by rw [eq_of_beq k3];rfl
  have e5:(x.kind == 5)=false:=by rw [eq_of_beq k3];rfl
  have hN:iC S1 x = { S1 with opn:=l,cur:=jH S1.cur x }:=by simp [iC,sL,k3,e1,e2,e5,hls,sel_true,sel_false]
  rw [hN];exact c2
 have s0:(x.kind == 2)=false→(x.kind == 3)=false→∀ {H1:List AObj}{S1:CSt}{q1:Nat}{vs1:List AV}{v1 ov1:AV},nd t R H1 S1 q1 vs1 v1 ov1→CBm (m+1) S1→∃ w G3,M.run dI [v1,.agg x.row] H1=some (.ret w,G3)∧nd t R G3 (iC S1 x) q1 vs1 w ov1∧sX R H1 G3:=fun k2 k3 {H1 S1 q1 vs1 v1 ov1} w1 b=>by
  obtain ⟨b1,b2,b3,_⟩:=bnd S1 b;obtain ⟨w,G3,c1,c2,c3⟩:=w1.add M hC b1 b2 hxt;refine ⟨w,G3,c1, ?_,c3⟩
  have w2:nd t R G3 (iC S1 x) q1 vs1 w ov1:=⟨c2.rl,c2.tr,c2.tok,c2.len,c2.dn,c2.cr,c2.ab,c2.pr,c2.ql,by
   have ho:(iC S1 x).opn=S1.opn:=by simp [iC,sL,k2,k3,sel_false]
   rw [ho];exact c2.op,c2.oa⟩
  exact w2
 have plc:∀ S1:CSt,S1.place=S.place→IntKind.i64.wrap ((S1.place:Int)+1)=((S1.place+1:Nat):Int):=fun S1 e=>by
  have:=hb.place;rw [bK (by omega) (by omega)];omega
 unfold xU;cases hcut:yN pos S x with
 |true=>
  unfold yN at hcut;rw [Bool.and_eq_true,Bool.and_eq_true] at hcut;obtain ⟨hc1,hc2,hc3⟩:=hcut;have hlt:vs.length<pos.length:=by rw [hvl];exact of_decide_eq_true hc1
  have k3:(x.kind == 3)=false:=by simpa using hc3
  have hp0:pos[vs.length]?=some pos[vs.length]:=List.getElem?_eq_getElem hlt
  have heq:((S.place:Int) == pos[vs.length])=true:=by
   rw [← hvl] at hc2;rw [List.getD_eq_getElem?_getD,hp0] at hc2;exact hc2
  have hip:=aA (row:=bU) (tag:=ta) (sz:=1) (k:=.i64) hlt;rw [sel_true];have hob:=hb.opn;have hcb:=hb.cur;have hdb:=hb.done;obtain ⟨H1,v1,e1,w1,f1⟩:=rc1 M (v1:=.slice ta 1 (pos.map bU)) (v9:=.slice .any 3 (s.map ag.row)) (v10:=.slice (.own t) 1 (vs.map nA)) (v13:=.int .i64 S.place) (v14:=.int .i64 i) (H0:=H0) S.opn.length H v S h (Nat.le_refl _) (by omega) (by omega);rw [List.take_length] at w1;obtain ⟨p1,p2,p3⟩:=w1.push (by dsimp only;omega)
  obtain ⟨H3,v3,e3,w3,f3⟩:=rc2 M (v1:=.slice ta 1 (pos.map bU)) (v9:=.slice .any 3 (s.map ag.row)) (v10:=.slice (.own t) 1 ((vs++[v1]).map nA)) (v13:=.int .i64 S.place) (v14:=.int .i64 i) (H0:=H0) S.opn.length 0 _ (.slice .nil 3 []) _ p2 (by dsimp only;omega) (by dsimp only;omega) (by simp;omega)
  have w4:nd t R H3 (qN S) H1.length (vs++[v1]) v3 ov:=by
   have:=w3;simp only [List.drop_zero,List.nil_append] at this;exact ⟨this.rl,this.tr,this.tok,this.len,this.dn,this.cr,this.ab,this.pr,this.ql,this.op,this.oa⟩
  have b4:=K9 hb;have f4:sX R H H3:=(f1.trans p3).trans f3;have hlo:=fun G=>tK (G:=G) h.op
  have hwo:IntKind.i64.wrap ((S.opn.length:Int)-1)=(S.opn.length:Int)-1:=bK (by omega) (by omega);have hpc:=plc S rfl;have ac1:=(zQ w1.cr).2;have sp1:=AU w1.cr;have sr1:∀ a b:AV,bf [a] 0 [b]=[b]:=fun _ _=>rfl
  simp only [kv_cons,kv_nil,Int.ofNat_zero] at e1 e3;generalize hG:H1.set t _=G at p1 e3;generalize hR1:(vs++[v1]).map nA=R1 at p1 e3;cases k2:x.kind == 2 with
  |true=>
   obtain ⟨ov2,G2,w,G3,a1,a2,a3,a4⟩:=s2 k2 w4 b4;refine ⟨G3,_,_,w,ov2,fun k He => ?_,a3,f4.trans a4⟩;have e1k:(x.kind == 1)=false:=by rw [eq_of_beq k2];rfl
   have e5k:(x.kind == 5)=false:=by rw [eq_of_beq k2];rfl
   have hpN:(iC (qN S) x).place=S.place:=by simp [iC,e1k,e5k,sel_false,qN]
   rw [hpN,hR1];rw [ak M aN.eq_1];simp (maxSteps:=3000000) (maxDischargeDepth:=6) +contextual -implicitDefEqProofs only [amC M,↓amD,Nat.reduceBEq,Nat.reduceAdd,env,aj,au,amG,AV.cell,Nat.reduceMul,Nat.reduceLeDiff,hi,hx,hir,hwi,List.length_map,hlt,hip,hp0,pN,heq,aW,k2,k3,hlo,hwo,e1,ac1,sp1,sr1,p1,e3,a1,a2]
  |false=>
   obtain ⟨w,G3,a2,a3,a4⟩:=s0 k2 k3 w4 b4;refine ⟨G3,_,_,w,ov,fun k He => ?_,a3,f4.trans a4⟩;cases k1:x.kind == 1 with
   |true=>
    have hpN:(iC (qN S) x).place=S.place+1:=by simp [iC,k1,sel_true,qN]
    rw [hpN,hR1];rw [ak M aN.eq_1];simp (maxSteps:=3000000) (maxDischargeDepth:=6) +contextual -implicitDefEqProofs only [amC M,↓amD,Nat.reduceBEq,Nat.reduceAdd,env,aj,au,amG,AV.cell,Nat.reduceMul,Nat.reduceLeDiff,hi,hx,hir,hwi,List.length_map,hlt,hip,hp0,pN,heq,aW,k1,k2,k3,hlo,hwo,e1,ac1,sp1,sr1,p1,e3,a2,hpc]
   |false=>
    cases k5:x.kind == 5 with
    |true=>
     have hpN:(iC (qN S) x).place=S.place+1:=by simp [iC,k1,k5,sel_true,qN]
     rw [hpN,hR1];rw [ak M aN.eq_1];simp (maxSteps:=3000000) (maxDischargeDepth:=6) +contextual -implicitDefEqProofs only [amC M,↓amD,Nat.reduceBEq,Nat.reduceAdd,env,aj,au,amG,AV.cell,Nat.reduceMul,Nat.reduceLeDiff,hi,hx,hir,hwi,List.length_map,hlt,hip,hp0,pN,heq,aW,k1,k5,k2,k3,hlo,hwo,e1,ac1,sp1,sr1,p1,e3,a2,hpc]
    |false=>
     have hpN:(iC (qN S) x).place=S.place:=by simp [iC,k1,k5,sel_false,qN]
     rw [hpN,hR1];rw [ak M aN.eq_1];simp (maxSteps:=3000000) (maxDischargeDepth:=6) +contextual -implicitDefEqProofs only [amC M,↓amD,Nat.reduceBEq,Nat.reduceAdd,env,aj,au,amG,AV.cell,Nat.reduceMul,Nat.reduceLeDiff,hi,hx,hir,hwi,List.length_map,hlt,hip,hp0,pN,heq,aW,k1,k5,k2,k3,hlo,hwo,e1,ac1,sp1,sr1,p1,e3,a2]
 |false=>
  rw [sel_false];have b4:CBm (m+1) S:=hb.mono (by omega);have hpc:=plc S rfl;unfold yN at hcut;rw [← hvl] at hcut
  have why:(¬ vs.length<pos.length)∨(∃ hlt:vs.length<pos.length,((S.place:Int) == pos[vs.length])=false)∨(∃ hlt:vs.length<pos.length,((S.place:Int) == pos[vs.length])=true∧(x.kind == 3)=true):=by
   by_cases hlt:vs.length<pos.length
   ·right
    rw [decide_eq_true hlt,Bool.true_and,List.getD_eq_getElem?_getD,List.getElem?_eq_getElem hlt,Option.getD_some] at hcut;cases he:(S.place:Int) == pos[vs.length] with
    |false=>exact .inl ⟨hlt,he⟩
    |true=>
     rw [he,Bool.true_and] at hcut;exact .inr ⟨hlt,he,by simpa using hcut⟩
   ·exact .inl hlt
  rcases why with hlt | ⟨hlt,heq⟩ | ⟨hlt,heq,k3⟩
  ·cases k2:x.kind == 2 with
   |true=>
    have k3:(x.kind == 3)=false:=by rw [eq_of_beq k2];rfl
    obtain ⟨ov2,G2,w,G3,a1,a2,a3,a4⟩:=s2 k2 h b4;refine ⟨G3,_,_,w,ov2,fun k He => ?_,a3,a4⟩;have e1k:(x.kind == 1)=false:=by rw [eq_of_beq k2];rfl
    have e5k:(x.kind == 5)=false:=by rw [eq_of_beq k2];rfl
    have hpN:(iC S x).place=S.place:=by simp [iC,e1k,e5k,sel_false]
    rw [hpN];rw [ak M aN.eq_1];simp (maxSteps:=3000000) (maxDischargeDepth:=6) +contextual -implicitDefEqProofs only [amC M,↓amD,Nat.reduceBEq,Nat.reduceAdd,env,aj,au,amG,AV.cell,Nat.reduceMul,Nat.reduceLeDiff,hi,hx,hir,hwi,List.length_map,hlt,aW,k2,k3,a1,a2]
   |false=>
    cases k3:x.kind == 3 with
    |true=>
     obtain ⟨ov2,w,G3,a0,a1,aw,a2,a3,a4⟩:=s3 k3 h b4 (hop k3);refine ⟨G3,_,_,w,ov2,fun k He => ?_,a3,a4⟩;have e1k:(x.kind == 1)=false:=by rw [eq_of_beq k3];rfl
     have e5k:(x.kind == 5)=false:=by rw [eq_of_beq k3];rfl
     have hpN:(iC S x).place=S.place:=by simp [iC,e1k,e5k,sel_false]
     rw [hpN];rw [ak M aN.eq_1];simp (maxSteps:=3000000) (maxDischargeDepth:=6) +contextual -implicitDefEqProofs only [amC M,↓amD,Nat.reduceBEq,Nat.reduceAdd,env,aj,au,amG,AV.cell,Nat.reduceMul,Nat.reduceLeDiff,hi,hx,hir,hwi,List.length_map,hlt,aW,k2,k3,a0,aw,a1,a2]
    |false=>
     obtain ⟨w,G3,a2,a3,a4⟩:=s0 k2 k3 h b4;refine ⟨G3,_,_,w,ov,fun k He => ?_,a3,a4⟩;cases k1:x.kind == 1 with
     |true=>
      have hpN:(iC S x).place=S.place+1:=by simp [iC,k1,sel_true]
      rw [hpN];rw [ak M aN.eq_1];simp (maxSteps:=3000000) (maxDischargeDepth:=6) +contextual -implicitDefEqProofs only [amC M,↓amD,Nat.reduceBEq,Nat.reduceAdd,env,aj,au,amG,AV.cell,Nat.reduceMul,Nat.reduceLeDiff,hi,hx,hir,hwi,List.length_map,hlt,aW,k1,k2,k3,a2,hpc]
     |false=>
      cases k5:x.kind == 5 with
      |true=>
       have hpN:(iC S x).place=S.place+1:=by simp [iC,k1,k5,sel_true]
       rw [hpN];rw [ak M aN.eq_1];simp (maxSteps:=3000000) (maxDischargeDepth:=6) +contextual -implicitDefEqProofs only [amC M,↓amD,Nat.reduceBEq,Nat.reduceAdd,env,aj,au,amG,AV.cell,Nat.reduceMul,Nat.reduceLeDiff,hi,hx,hir,hwi,List.length_map,hlt,aW,k1,k5,k2,k3,a2,hpc]
      |false=>
       have hpN:(iC S x).place=S.place:=by simp [iC,k1,k5,sel_false]
       rw [hpN];rw [ak M aN.eq_1];simp (maxSteps:=3000000) (maxDischargeDepth:=6) +contextual -implicitDefEqProofs only [amC M,↓amD,Nat.reduceBEq,Nat.reduceAdd,env,aj,au,amG,AV.cell,Nat.reduceMul,Nat.reduceLeDiff,hi,hx,hir,hwi,List.length_map,hlt,aW,k1,k5,k2,k3,a2]
  ·have hp0:pos[vs.length]?=some pos[vs.length]:=List.getElem?_eq_getElem hlt
   have hip:=aA (row:=bU) (tag:=ta) (sz:=1) (k:=.i64) hlt;cases k2:x.kind == 2 with
   |true=>
    have k3:(x.kind == 3)=false:=by rw [eq_of_beq k2];rfl
    obtain ⟨ov2,G2,w,G3,a1,a2,a3,a4⟩:=s2 k2 h b4;refine ⟨G3,_,_,w,ov2,fun k He => ?_,a3,a4⟩;have e1k:(x.kind == 1)=false:=by rw [eq_of_beq k2];rfl
    have e5k:(x.kind == 5)=false:=by rw [eq_of_beq k2];rfl
    have hpN:(iC S x).place=S.place:=by simp [iC,e1k,e5k,sel_false]
    rw [hpN];rw [ak M aN.eq_1];simp (maxSteps:=3000000) (maxDischargeDepth:=6) +contextual -implicitDefEqProofs only [amC M,↓amD,Nat.reduceBEq,Nat.reduceAdd,env,aj,au,amG,AV.cell,Nat.reduceMul,Nat.reduceLeDiff,hi,hx,hir,hwi,List.length_map,hlt,hip,hp0,pN,heq,aW,k2,k3,a1,a2]
   |false=>
    cases k3:x.kind == 3 with
    |true=>
     obtain ⟨ov2,w,G3,a0,a1,aw,a2,a3,a4⟩:=s3 k3 h b4 (hop k3);refine ⟨G3,_,_,w,ov2,fun k He => ?_,a3,a4⟩;have e1k:(x.kind == 1)=false:=by rw [eq_of_beq k3];rfl
     have e5k:(x.kind == 5)=false:=by rw [eq_of_beq k3];rfl
     have hpN:(iC S x).place=S.place:=by simp [iC,e1k,e5k,sel_false]
     rw [hpN];rw [ak M aN.eq_1];simp (maxSteps:=3000000) (maxDischargeDepth:=6) +contextual -implicitDefEqProofs only [amC M,↓amD,Nat.reduceBEq,Nat.reduceAdd,env,aj,au,amG,AV.cell,Nat.reduceMul,Nat.reduceLeDiff,hi,hx,hir,hwi,List.length_map,hlt,hip,hp0,pN,heq,aW,k2,k3,a0,aw,a1,a2]
    |false=>
     obtain ⟨w,G3,a2,a3,a4⟩:=s0 k2 k3 h b4;refine ⟨G3,_,_,w,ov,fun k He => ?_,a3,a4⟩;cases k1:x.kind == 1 with
     |true=>
      have hpN:(iC S x).place=S.place+1:=by simp [iC,k1,sel_true]
      rw [hpN];rw [ak M aN.eq_1];simp (maxSteps:=3000000) (maxDischargeDepth:=6) +contextual -implicitDefEqProofs only [amC M,↓amD,Nat.reduceBEq,Nat.reduceAdd,env,aj,au,amG,AV.cell,Nat.reduceMul,Nat.reduceLeDiff,hi,hx,hir,hwi,List.length_map,hlt,hip,hp0,pN,heq,aW,k1,k2,k3,a2,hpc]
     |false=>
      cases k5:x.kind == 5 with
      |true=>
       have hpN:(iC S x).place=S.place+1:=by simp [iC,k1,k5,sel_true]
       rw [hpN];rw [ak M aN.eq_1];simp (maxSteps:=3000000) (maxDischargeDepth:=6) +contextual -implicitDefEqProofs only [amC M,↓amD,Nat.reduceBEq,Nat.reduceAdd,env,aj,au,amG,AV.cell,Nat.reduceMul,Nat.reduceLeDiff,hi,hx,hir,hwi,List.length_map,hlt,hip,hp0,pN,heq,aW,k1,k5,k2,k3,a2,hpc]
      |false=>
       have hpN:(iC S x).place=S.place:=by simp [iC,k1,k5,sel_false]
       rw [hpN];rw [ak M aN.eq_1];simp (maxSteps:=3000000) (maxDischargeDepth:=6) +contextual -implicitDefEqProofs only [amC M,↓amD,Nat.reduceBEq,Nat.reduceAdd,env,aj,au,amG,AV.cell,Nat.reduceMul,Nat.reduceLeDiff,hi,hx,hir,hwi,List.length_map,hlt,hip,hp0,pN,heq,aW,k1,k5,k2,k3,a2]
  ·have hp0:pos[vs.length]?=some pos[vs.length]:=List.getElem?_eq_getElem hlt
   have hip:=aA (row:=bU) (tag:=ta) (sz:=1) (k:=.i64) hlt;have k2:(x.kind == 2)=false:=by rw [eq_of_beq k3];rfl
   obtain ⟨ov2,w,G3,a0,a1,aw,a2,a3,a4⟩:=s3 k3 h b4 (hop k3);refine ⟨G3,_,_,w,ov2,fun k He => ?_,a3,a4⟩;have e1k:(x.kind == 1)=false:=by rw [eq_of_beq k3];rfl
   have e5k:(x.kind == 5)=false:=by rw [eq_of_beq k3];rfl
   have hpN:(iC S x).place=S.place:=by simp [iC,e1k,e5k,sel_false]
   rw [hpN];rw [ak M aN.eq_1];simp (maxSteps:=3000000) (maxDischargeDepth:=6) +contextual -implicitDefEqProofs only [amC M,↓amD,Nat.reduceBEq,Nat.reduceAdd,env,aj,au,amG,AV.cell,Nat.reduceMul,Nat.reduceLeDiff,hi,hx,hir,hwi,List.length_map,hlt,hip,hp0,pN,heq,aW,k2,k3,a0,aw,a1,a2]
def zW(l:List ag):Nat:=(l.map fun x=>x.text.length+2).sum
theorem AW(x:ag)(l:List ag):zW (x::l)=x.text.length+2+zW l:=by simp [zW]
theorem rc3(hC:jT E){t:Nat}{R:Nat→Prop}{pos:List Int}{ta:Tag}(hpl:pos.length≤1000000){s:List ag}(hs:s.length≤100000000)(hst:∀ x∈s,x.text.length≤100000000){H0:List AObj}:∀ (n i m:Nat) (H:List AObj) (S:CSt) (q:Nat) (vs:List AV) (v ov:AV),i+n=s.length→nd t R H S q vs v ov→CBm m S→xr (s.drop i) S.opn.length→m+zW (s.drop i)≤50000 →
  ∃ H' q' vs' v' ov',(∀ (k:List Fra) (He:List AObj),M.go bH H0 (.c aN :: .lp ⟨(some [1,9,10,11,12,13,14]),[(10,1,al)],false⟩ aN He :: .blk 2 :: .c (.lv [10,11])::k) (kv [(1,.slice ta 1 (pos.map bU)),(9,.slice .any 3 (s.map ag.row)),(10,.slice (.own t) 1 (vs.map nA)),(11,v),(12,ov),(13,.int .i64 S.place),(14,.int .i64 i)]) H =
   M.go bH H0 k (kv [(10,.slice (.own t) 1 (vs'.map nA)),(11,v')]) H')∧nd t R H' ((s.drop i).foldl (xU pos) S) q' vs' v' ov'∧sX R H H'∧CBm (m+zW (s.drop i)) ((s.drop i).foldl (xU pos) S)
 |0,i,m,H,S,q,vs,v,ov,h,hR,hb,hop,hm=>by
  have e:i=s.length:=by omega
  subst e;rw [List.drop_length];refine ⟨H,q,vs,v,ov,fun k He => ?_,hR,sX.refl _ _,hb.mono (by omega)⟩;rw [ak M aN.eq_1];simp (maxSteps:=3000000) (maxDischargeDepth:=6) +contextual -implicitDefEqProofs only [amC M,↓amD,Nat.reduceBEq,Nat.reduceAdd,env,aj,au,Nat.lt_irrefl]
 |n+1,i,m,H,S,q,vs,v,ov,h,hR,hb,hop,hm=>by
  have hi:i<s.length:=by omega
  have hx:s[i]?=some s[i]:=List.getElem?_eq_getElem hi;have hd:(s.drop i)=s[i]::s.drop (i+1):=List.drop_eq_getElem_cons hi;have hmem:s[i]∈s:=List.getElem_mem hi;rw [hd] at hop hm ⊢;rw [AW] at hm;obtain ⟨hop1,hop2⟩:=hop;obtain ⟨H1,q1,vs1,v1,ov1,o1,o2,o3⟩:=Tj M hC (ta:=ta) hpl hs (H0:=H0) hi hx (hst _ hmem) hR hb (by omega) (fun hk e=>by have:=hop1 hk;rw [e] at this;simp at this)
  have hopn:(xU pos S s[i]).opn.length=(if s[i].kind == 2 then S.opn.length+1 else if s[i].kind == 3 then S.opn.length-1 else S.opn.length):=by
   have e:(sel (yN pos S s[i]) (qN S) S).opn=S.opn:=by cases yN pos S s[i]<;>rfl
   show (sL (sel (yN pos S s[i]) (qN S) S).opn s[i]).length=_;rw [e,sL];cases s[i].kind == 2 with
   |true=>simp [sel_true]
   |false=>cases s[i].kind == 3<;>simp [sel_true,sel_false]
  rw [← hopn] at hop2;obtain ⟨H2,q2,vs2,v2,ov2,i1,i2,i3,i4⟩:=rc3 hC (ta:=ta) hpl hs hst (H0:=H0) n (i+1) (m+s[i].text.length+2) H1 _ q1 vs1 v1 ov1 (by omega) o2 (QG hb pos (Nat.le_refl _)) hop2 (by omega);refine ⟨H2,q2,vs2,v2,ov2,fun k He=>by rw [o1 k He,i1 k H1],i2,o3.trans i3, ?_⟩;rw [AW,List.foldl_cons];exact i4.mono (by omega)
end
section
attribute [local congr] aI bR aZ aJ aY aR aK aC aD aS aT
variable{E:bG}(M:cJ cM E)
theorem vu{H0 H:List AObj}(hc:b5 H0 H)(n:Nat)(e:Int):pZ cM .deep H0 H (.tuple [.slice .nil n [],.int .u8 e])=some (.tuple [.slice .nil n [],.int .u8 e],H.take H0.length):=by
 rw [kx hc ⟨5,ph (b6 (rJ (t:=.nil) (dQ _)) (b6 (uM _ _ _ _ _) (dQ _)))⟩];rfl
theorem La:∀ (rs:List Nat) (l:List ag) (n:Nat),xr l n→xr (rs.map rq++l) n
 |[],l,n,h=>h
 |r::rs,l,n,h=>⟨fun hk=>(by cases hk),La rs l n h⟩
theorem IV:∀ (l:List ag) (n:Nat),xr l n→xr (pP l) n
 |[],_,_=>trivial
 |x::l,n,h=>by
  obtain ⟨h1,h2⟩:=h;have ih:=IV l _ h2;show xr (xt x++pP l) n;unfold xt;cases k1:x.kind == 1 with
  |true=>
   rw [sel_true];refine La _ _ _ ?_;have e2:(x.kind == 2)=false:=by rw [eq_of_beq k1];rfl
   have e3:(x.kind == 3)=false:=by rw [eq_of_beq k1];rfl
   rwa [if_neg (by simp [e2]),if_neg (by simp [e3])] at ih
  |false=>rw [sel_false];exact ⟨h1,ih⟩
theorem OF:∀ (l m:List ag),zW (l++m)=zW l+zW m:=fun l m=>by simp [zW]
theorem IW:∀ rs:List Nat,zW (rs.map rq)≤6*rs.length
 |[]=>Nat.le_refl _
 |r::rs=>by
  have:=IW rs;have h4:=xq r;rw [List.map_cons,AW,List.length_cons];omega
theorem IX:∀ l:List ag,zW (pP l)≤IR l
 |[]=>Nat.le_refl _
 |x::l=>by
  have ih:=IX l;have hr:=jQ x.text;have hc:=IW (cE x.text);show zW (xt x++pP l)≤_;rw [OF,xD,szP];unfold xt;cases x.kind == 1 with
  |true=>rw [sel_true];omega
  |false=>rw [sel_false];simp only [zW,List.map_cons,List.map_nil,List.sum_cons,List.sum_nil] at *;omega
theorem Lb:∀ (l:List ag) (x:ag),x∈pP l→x.text.length≤jG l+4
 |[],x,h=>by simp [pP] at h
 |y::l,x,h=>by
  have h':x∈xt y++pP l:=h;have hy:jG (y::l)=y.text.length+jG l:=by simp [jG]
  rcases List.mem_append.1 h' with h | h
  ·unfold xt at h
   cases k1:y.kind == 1 with
   |true=>
    rw [k1,sel_true] at h;obtain ⟨r,_,rfl⟩:=List.mem_map.1 h;have:=xq r;omega
   |false=>
    rw [k1,sel_false,List.mem_singleton] at h;subst h;omega
  ·have:=Lb l x h;omega
theorem SV{H H0:List AObj}{pos:List Int}{ta:Tag}(hl:pos.length≤1000000){v0:AV}{n2:Nat}(hn2:n2≤100000000)(hc:b5 H0 H)(k:List Fra):∀ (n i:Nat) (He:List AObj),i+n=pos.length →
  M.go bH H0 (.c cG :: .lp ⟨(some [0,1,6,8]),[],false⟩ cG He :: .blk 0 :: .c (.lv [0,1])::k) (kv [(0,v0),(1,.slice ta 1 (pos.map bU)),(6,.int .i64 n2),(8,.int .i64 i)]) H =
   sel (okA n2 (prv pos i) (pos.drop i)) (M.go bH H0 k (kv [(0,v0),(1,.slice ta 1 (pos.map bU))]) (H)) (some (.ret (.tuple [.slice .nil 1 [],.int .u8 1]),H.take H0.length))
 |0,i,He,h=>by
  have e:i=pos.length:=by omega
  subst e;rw [ak M cG.eq_1];simp (maxSteps:=3000000) (maxDischargeDepth:=6) +contextual -implicitDefEqProofs only [amC M,↓amD,Nat.reduceBEq,Nat.reduceAdd,env,aj,au,Nat.lt_irrefl,List.drop_length,okA]
 |n+1,i,He,h=>by
  have hi:i<pos.length:=by omega
  have hx:pos[i]?=some pos[i]:=List.getElem?_eq_getElem hi;have hd:(pos.drop i)=pos[i]::pos.drop (i+1):=List.drop_eq_getElem_cons hi;have hm:pos[i]∈pos:=List.getElem_mem hi;have ih:=fun He=>SV (H:=H) (H0:=H0) (pos:=pos) (ta:=ta) (hl:=hl) (v0:=v0) (n2:=n2) (hn2:=hn2) hc k n (i+1)  He (by omega)
  simp only [kv_cons,kv_nil] at ih;have hwi:=bt (n:=pos.length) hi (by simp only [aX];omega);have hir:=aA (row:=bU) (tag:=ta) (sz:=1) (k:=.i64) hi;have hw1:IntKind.i64.wrap ((n2:Int)-1)=(n2:Int)-1:=bK (by omega) (by omega);have hpv:prv pos (i+1)=some pos[i]:=hx;have hde:=vu hc 1 1;rw [hd,Ea];rw [hpv] at ih;cases d1:decide (pos[i]<1) with
  |true=>
   rw [ak M cG.eq_1];simp (maxSteps:=3000000) (maxDischargeDepth:=6) +contextual -implicitDefEqProofs only [amC M,↓amD,Nat.reduceBEq,Nat.reduceAdd,env,aj,au,hi,hx,hir,pN,d1,hde,Bool.not_true,Bool.false_and]
  |false=>
   cases d2:decide ((n2:Int)-1<pos[i]) with
   |true=>
    rw [ak M cG.eq_1];simp (maxSteps:=3000000) (maxDischargeDepth:=6) +contextual -implicitDefEqProofs only [amC M,↓amD,Nat.reduceBEq,Nat.reduceAdd,env,aj,au,hi,hx,hir,pN,d1,hw1,d2,hde,Bool.not_true,Bool.not_false,Bool.true_and,Bool.false_and]
   |false=>
    cases i with
    |zero=>
     have d3:decide ((0:Int)<((0:Nat):Int))=false:=rfl;rw [ak M cG.eq_1];simp (maxSteps:=3000000) (maxDischargeDepth:=6) +contextual -implicitDefEqProofs only [amC M,↓amD,Nat.reduceBEq,Nat.reduceAdd,env,aj,au,hi,hx,hir,pN,d1,hw1,d2,d3,hwi,ih,prv,Bool.not_true,Bool.not_false,Bool.true_and,Bool.false_and]
    |succ i=>
     have hi0:i<pos.length:=by omega
     have hx0:pos[i]?=some pos[i]:=List.getElem?_eq_getElem hi0;have hir0:=aA (row:=bU) (tag:=ta) (sz:=1) (k:=.i64) hi0;have d3:decide ((0:Int)<((i+1:Nat):Int))=true:=decide_eq_true (by omega);have hw3:IntKind.i64.wrap (((i+1:Nat):Int)-1)=(i:Int):=by rw [bK (by omega) (by omega)];omega
     have hpv0:prv pos (i+1)=some pos[i]:=hx0;rw [hpv0];cases d4:decide (pos[i+1]≤pos[i]) with
     |true=>
      rw [ak M cG.eq_1];simp (maxSteps:=3000000) (maxDischargeDepth:=6) +contextual -implicitDefEqProofs only [amC M,↓amD,Nat.reduceBEq,Nat.reduceAdd,env,aj,au,hi,hx,hx0,hir,hir0,pN,d1,hw1,d2,d3,hw3,d4,hde,Bool.not_true,Bool.not_false,Bool.true_and,Bool.false_and]
     |false=>
      rw [ak M cG.eq_1];simp (maxSteps:=3000000) (maxDischargeDepth:=6) +contextual -implicitDefEqProofs only [amC M,↓amD,Nat.reduceBEq,Nat.reduceAdd,env,aj,au,hi,hx,hx0,hir,hir0,pN,d1,hw1,d2,d3,hw3,d4,hwi,ih,Bool.not_true,Bool.not_false,Bool.true_and,Bool.false_and]
theorem SW{H H0:List AObj}(hc:b5 H0 H){tg:Tag}{ws:List AV}{pl:List (List ag)}(hl:ws.length=pl.length)(hb:pl.length≤100000000)(hw:∀ (i:Nat) (w:AV) (l:List ag),ws[i]?=some w→pl[i]?=some l→PcV H w l)(k:List Fra):∀ (n i:Nat) (He:List AObj),i+n=pl.length →
  M.go bH H0 (.c eM :: .lp ⟨(some [10,18]),[],false⟩ eM He :: .blk 9 :: .c (.lv [10])::k) (kv [(10,.slice tg 1 (ws.map nA)),(18,.int .i64 i)]) H =
   sel ((pl.drop i).any nR) (some (.ret (.tuple [.slice .nil 1 [],.int .u8 3]),H.take H0.length)) (M.go bH H0 k (kv [(10,.slice tg 1 (ws.map nA))]) H)
 |0,i,He,h=>by
  have e:¬ i<ws.length:=by omega
  have e2:pl.drop i=[]:=List.drop_of_length_le (by omega);rw [e2,List.any_nil,sel_false];rw [ak M eM.eq_1];simp (maxSteps:=3000000) (maxDischargeDepth:=6) +contextual -implicitDefEqProofs only [amC M,↓amD,Nat.reduceBEq,Nat.reduceAdd,env,aj,au,e]
 |n+1,i,He,h=>by
  have hi:i<pl.length:=by omega
  have hiw:i<ws.length:=by omega
  have hx:pl[i]?=some pl[i]:=List.getElem?_eq_getElem hi;have hxw:ws[i]?=some ws[i]:=List.getElem?_eq_getElem hiw;have hd:(pl.drop i)=pl[i]::pl.drop (i+1):=List.drop_eq_getElem_cons hi;have hlw:=fun G=>AS (G:=G) (hw i _ _ hxw hx)
  have hir:=aA (row:=nA) (tag:=tg) (sz:=1) (k:=.i64) hiw;have qf:∀ v:AV,bn none (nA v) 0=some v:=fun _=>rfl
  have hwi:=bt (n:=pl.length) hi (by simp only [aX];omega);have ih:=fun He=>SW hc (tg:=tg) hl hb hw k n (i+1) He (by omega)
  simp only [kv_cons,kv_nil] at ih;have hde:=vu hc 1 3;rw [hd,List.any_cons,nR];cases hbg:decide ((512:Int)<(pl[i].length:Int)) with
  |true=>
   rw [Bool.true_or,sel_true];rw [ak M eM.eq_1];simp (maxSteps:=3000000) (maxDischargeDepth:=6) +contextual -implicitDefEqProofs only [amC M,↓amD,Nat.reduceBEq,Nat.reduceAdd,env,aj,au,hiw,hxw,hir,qf,hlw,hbg,hde]
  |false=>
   rw [Bool.false_or];rw [ak M eM.eq_1];simp (maxSteps:=3000000) (maxDischargeDepth:=6) +contextual -implicitDefEqProofs only [amC M,↓amD,Nat.reduceBEq,Nat.reduceAdd,env,aj,au,hiw,hxw,hir,qf,hlw,hbg,hwi,ih]
def QH(l:List ag)(pos:List Int):CSt:=(pP l).foldl (xU pos) ⟨[],[],[],0,false,[]⟩
def Eb(l:List ag)(pos:List Int):List (List ag):=(QH l pos).done++[(QH l pos).cur]
def Ec(l:List ag)(pos:List Int):AV:=
 sel (dX l == 0) (sel (okA ((unL l).length:Int) none pos) (sel ((Eb l pos).any nR) (.tuple [.slice .nil 1 [],.int .u8 3]) (.tuple [.slice .any 1 ((Eb l pos).map plR),.int .u8 0])) (.tuple [.slice .nil 1 [],.int .u8 1])) (.tuple [.slice .nil 1 [],.int .u8 (dX l)])
theorem OG(hB:gA E)(hU:fT E)(hC:jT E){l:Sl ag}{pos:List Int}{ta:Tag}(hsz:l.l.length+jG l.l≤2600)(hpl:pos.length≤1000000)(H:List AObj) :
  M.run nC [.slice l.tag 3 (l.l.map ag.row),.slice ta 1 (pos.map bU)] H=some (.ret (Ec l.l pos),H):=by
 have htx:∀ x∈l.l,x.text.length≤2600:=fun x hx=>by have:=qM hx;omega
 have hul:=Cc l.l;have u1:=fun H=>J0 M hB hU (l:=l) (by omega) (fun x hx=>by have:=htx x hx;omega) (by omega) H
 have deS:=fun e=>vu (cut_refl H) 1 e
 simp only [hp_self] at deS;rw [br M hC.truchmanref01_Cut rfl (c:=nF) rfl,nF];cases c0:dX l.l == 0 with
 |false=>
  have hne:¬ dX l.l=0:=by simpa using c0
  rw [AO,if_neg hne] at u1;simp (maxSteps:=3000000) (maxDischargeDepth:=6) +contextual -implicitDefEqProofs only [amC M,↓amD,Nat.reduceBEq,Nat.reduceAdd,env,aj,au,u1,bQ,List.getElem?_cons_succ,c0,Ec,deS]
 |true=>
  have e0:dX l.l=0:=by simpa using c0
  rw [AO,if_pos e0] at u1;have h1:=fun k He=>SV M (ta:=ta) hpl (v0:=.slice l.tag 3 (l.l.map ag.row)) (n2:=(unL l.l).length) (by omega) (cut_refl H) k pos.length 0 He (by omega)
  simp only [kv_cons,kv_nil,Int.ofNat_zero,List.drop_zero,show prv pos 0=none from rfl] at h1;cases c1:okA ((unL l.l).length:Int) none pos with
  |false=>
   simp only [c1,sel_false] at h1;simp (maxSteps:=3000000) (maxDischargeDepth:=6) +contextual -implicitDefEqProofs only [amC M,↓amD,Nat.reduceBEq,Nat.reduceAdd,env,aj,au,u1,bQ,List.getElem?_cons_succ,c0,(show ((0:Int) == 0)=true from rfl),h1,c1,Ec,hp_self]
  |true=>
   simp only [c1,sel_true] at h1;have hsl:=IU l.l;have g1:=fun H=>J9 M hC (l:=l.l) (tg:=l.tag) (by omega) (fun x hx=>by have:=htx x hx;omega) (by omega) H
   have w0:nd H.length (fun i=>i<H.length) (H++[.tok 0 al]) ⟨[],[],[],0,false,[]⟩ 0 [] (.slice .nil 3 []) (.slice .nil 1 []):=⟨fun i hi=>by simp;omega,by omega,by rw [aL];rfl,rfl,fun i w l h=>by simp at h,.inl ⟨rfl,rfl⟩,fun Q o n e r eq=>(by cases eq),fun Q o n e r eq=>(by cases eq),by simp,.inl ⟨rfl,rfl⟩,fun Q o n e r eq=>(by cases eq)⟩
   have b0:CBm 0 ⟨[],[],[],0,false,[]⟩:=⟨Nat.le_refl _,fun s hs=>(by cases hs),Nat.le_refl _,Nat.le_refl _,fun x hx=>(by cases hx),Nat.le_refl _⟩
   have hsum:zW (pP l.l)≤20000:=by have:=IX l.l;rw [Cd] at this;omega
   obtain ⟨H1,q1,vs,v,ov,e1,w1,f1,b1⟩:=rc3 M hC (ta:=ta) hpl (s:=pP l.l) (by omega) (fun x hx=>by have:=Lb l.l x hx;omega) (H0:=H) (pP l.l).length 0 0 _ _ 0 [] _ _ (by omega) w0 b0 (by rw [List.drop_zero];exact IV _ _ (D9 e0)) (by rw [List.drop_zero];omega);rw [List.drop_zero] at w1 b1;have hX:(pP l.l).foldl (xU pos) ⟨[],[],[],0,false,[]⟩=QH l.l pos:=rfl;rw [hX] at w1 b1;have hdn:=b1.done;obtain ⟨p1,p2,p3⟩:=w1.push (by omega)
   have hlow:=f1.trans p3;generalize hG:H1.set H.length _=G at p1 p2 p3 hlow;have hlen:(vs++[v]).length=(Eb l.l pos).length:=by have:=p2.len;simpa [Eb] using this
   have hws:∀ (i:Nat) (w:AV) (p:List ag),(vs++[v])[i]?=some w→(Eb l.l pos)[i]?=some p→PcV G w p∧free (fun i=>i<H.length) w:=fun i w p hi hp=>⟨(p2.dn i w p hi hp).1,(p2.dn i w p hi hp).2.2⟩
   have hk:G.take H.length=H:=by
    have hgl:=hlow.len;refine List.ext_getElem? fun i => ?_
    by_cases hi:i<H.length
    ·rw [List.getElem?_take_of_lt hi,hlow.low i hi,List.getElem?_append_left hi]
    ·rw [List.getElem?_eq_none (by simp;omega),List.getElem?_eq_none (by omega)]
   have hcut:b5 H G:=⟨by have:=hlow.len;simp at this;omega,fun i x hi hx=>.inl (by rw [← hk,List.getElem?_take_of_lt hi];exact hx)⟩
   have h4:=fun k He=>SW M hcut (tg:=.own H.length) hlen (by rw [← hlen];have:=w1.len;simp;omega) (fun i w p hi hp=>(hws i w p hi hp).1) k (Eb l.l pos).length 0 He (by omega)
   simp only [kv_cons,kv_nil,Int.ofNat_zero,List.drop_zero,hk,List.map_nil] at h4 e1
   have hfz:Fz H.length G (.tuple [.slice (.own H.length) 1 ((vs++[v]).map nA),.int .u8 0]) (.tuple [.slice .any 1 ((Eb l.l pos).map plR),.int .u8 0]):=by
    refine ⟨6,ph (b6 (rJ (t:=.own H.length) ?_) (b6 (uM _ _ _ _ _) (dQ _)))⟩;refine zq (by rw [List.length_map,List.length_map];exact hlen) fun i x y hx hy => ?_
    rw [List.getElem?_map] at hx hy;cases hxi:(vs++[v])[i]? with
    |none=>rw [hxi] at hx;cases hx
    |some w=>
     cases hyi:(Eb l.l pos)[i]? with
     |none=>rw [hyi] at hy;cases hy
     |some p=>
      rw [hxi] at hx;rw [hyi] at hy;cases hx;cases hy;obtain ⟨g1,g2⟩:=hws i w p hxi hyi;exact b6 (K7 g1 g2) (dQ _)
   have hh:=kx hcut hfz;rw [hk] at hh;have ac1:=(zQ w1.cr).2;have sp1:=AU w1.cr;have sr1:∀ a b:AV,bf [a] 0 [b]=[b]:=fun _ _=>rfl
   generalize hR1:(vs++[v]).map nA=R1 at p1 h4 hh;cases c2:(Eb l.l pos).any nR with
   |true=>
    simp only [c2,sel_true] at h4;simp (maxSteps:=3000000) (maxDischargeDepth:=6) +contextual -implicitDefEqProofs only [amC M,↓amD,Nat.reduceBEq,Nat.reduceAdd,env,aj,au,amG,AV.cell,Nat.reduceMul,Nat.reduceLeDiff,u1,bQ,List.getElem?_cons_succ,c0,(show ((0:Int) == 0)=true from rfl),h1,c1,g1,e1,ac1,sp1,sr1,p1,h4,c2,Ec]
   |false=>
    simp only [c2,sel_false] at h4;simp (maxSteps:=3000000) (maxDischargeDepth:=6) +contextual -implicitDefEqProofs only [amC M,↓amD,Nat.reduceBEq,Nat.reduceAdd,env,aj,au,amG,AV.cell,Nat.reduceMul,Nat.reduceLeDiff,u1,bQ,List.getElem?_cons_succ,c0,(show ((0:Int) == 0)=true from rfl),h1,c1,g1,e1,ac1,sp1,sr1,p1,h4,c2,hh,Ec]
end
section
attribute [local congr] aI bR aZ aJ aY aR aK aC aD aS aT
variable{E:bG}(M:cJ cM E)
theorem Lc:∀ (l:List Int) (n:Int) (p:Option Int),okA n p l=true→(∀ (i:Nat) (x y:Int),l[i]?=some x→l[i+1]?=some y→x<y)∧(∀ x∈l,1≤x∧x≤n-1)∧∀ q x,p=some q→l[0]?=some x→q<x
 |[],n,p,_=>⟨fun i x y h=>(by simp at h),fun x h=>(by cases h),fun q x _ h=>(by simp at h)⟩
 |k::t,n,p,h=>by
  rw [Ea,Bool.and_eq_true,Bool.and_eq_true,Bool.and_eq_true] at h;obtain ⟨h1,h2,h3,h4⟩:=h;obtain ⟨i1,i2,i3⟩:=Lc t n (some k) h4;simp only [Bool.not_eq_true',decide_eq_false_iff_not] at h1 h2;refine ⟨fun i x y hx hy => ?_,fun x hx => ?_,fun q x hq hx => ?_⟩
  ·cases i with
   |zero=>
    rw [List.getElem?_cons_zero] at hx;rw [List.getElem?_cons_succ] at hy;exact i3 x y (by rw [← hx]) hy
   |succ i=>
    rw [List.getElem?_cons_succ] at hx hy;exact i1 i x y hx hy
  ·rcases List.mem_cons.1 hx with rfl | hx
   ·omega
   ·exact i2 x hx
  ·rw [List.getElem?_cons_zero] at hx
   subst hq;dsimp only at h3;simp only [Bool.not_eq_true',decide_eq_false_iff_not] at h3;injection hx with hx;omega
def zX(pos:List Int)(T:CSt):Bool:=decide (T.done.length<pos.length)&&((T.place:Int) == pos.getD T.done.length 0)
structure AX (pos:List Int) (S T:CSt):Prop where
 done:S.done=T.done
 cur:S.cur=T.cur
 opn:S.opn=T.opn
 place:S.place=T.place
 due:S.due=zX pos T
 pos:S.pos=pos.drop (T.done.length+(if S.due=true then 1 else 0))
theorem IY(pos:List Int)(S:CSt)(x:ag):yN pos S x=(zX pos S && !(x.kind == 3)):=by
 unfold yN zX;rw [Bool.and_assoc]
theorem OH{pos:List Int}(hinc:∀ (i:Nat) (x y:Int),pos[i]?=some x→pos[i+1]?=some y→x<y){T:CSt}(h:zX pos T=true):zX pos (qN T)=false:=by
 unfold zX at h ⊢;rw [Bool.and_eq_true] at h;obtain ⟨h1,h2⟩:=h;have h1:=of_decide_eq_true h1;have hx:pos[T.done.length]?=some pos[T.done.length]:=List.getElem?_eq_getElem h1;rw [List.getD_eq_getElem?_getD,hx] at h2;have h2:(T.place:Int)=pos[T.done.length]:=eq_of_beq h2;have hd:(qN T).done.length=T.done.length+1:=by simp [qN]
 have hp:(qN T).place=T.place:=rfl;rw [hd,hp]
 by_cases hlt:T.done.length+1<pos.length
 ·have hy:pos[T.done.length+1]?=some pos[T.done.length+1]:=List.getElem?_eq_getElem hlt
  have:=hinc _ _ _ hx hy;rw [List.getD_eq_getElem?_getD,hy,decide_eq_true hlt,Bool.true_and];simp only [Option.getD_some,beq_eq_false_iff_ne];omega
 ·rw [decide_eq_false hlt];rfl
theorem IZ{pos:List Int}(hinc:∀ (i:Nat) (x y:Int),pos[i]?=some x→pos[i+1]?=some y→x<y){S T:CSt}(h:AX pos S T)(hd:S.due=true):AX pos (tl S) (qN T):=by
 have hh:zX pos T=true:=by rw [← h.due];exact hd
 refine ⟨by simp [tl,qN,h.done,h.cur,h.opn],by simp [tl,qN,h.opn],h.opn,h.place,(OH hinc hh).symm, ?_⟩;have:=h.pos;rw [if_pos hd] at this;show S.pos=_;rw [this];simp [tl,qN]
theorem ME(pos:List Int)(m n:Nat):B3 (pos.drop m) n=(decide (m<pos.length)&&((n:Int) == pos.getD m 0)):=by
 by_cases hlt:m<pos.length
 ·rw [List.drop_eq_getElem_cons hlt,B3,decide_eq_true hlt,Bool.true_and,List.getD_eq_getElem?_getD,List.getElem?_eq_getElem hlt,Option.getD_some]
  rw [Bool.eq_iff_iff];simp only [beq_iff_eq];exact ⟨fun h=>h.symm,fun h=>h.symm⟩
 ·rw [List.drop_of_length_le (by omega),B3,decide_eq_false hlt];rfl
theorem I0{pos:List Int}(hinc:∀ (i:Nat) (x y:Int),pos[i]?=some x→pos[i+1]?=some y→x<y){S T:CSt}(h:AX pos S T){p:ag}(hk:(p.kind == 1)=true∨(p.kind == 5)=true):AX pos (sM S p) (xU pos T p):=by
 have k3:(p.kind == 3)=false:=by rcases hk with hk | hk<;>(rw [eq_of_beq hk];rfl)
 have k2:(p.kind == 2)=false:=by rcases hk with hk | hk<;>(rw [eq_of_beq hk];rfl)
 have k15:((p.kind == 1)||(p.kind == 5))=true:=by rcases hk with hk | hk<;>simp [hk]
 have h1:AX pos (jq S) (sel (yN pos T p) (qN T) T)∧(jq S).due=false:=by
  rw [IY,← h.due,k3,Bool.not_false,Bool.and_true];unfold jq;cases hd:S.due with
  |true=>rw [sel_true,sel_true];exact ⟨IZ hinc h hd,rfl⟩
  |false=>rw [sel_false,sel_false];exact ⟨h,hd⟩
 obtain ⟨h1,hdf⟩:=h1;unfold xU;generalize sel (yN pos T p) (qN T) T=T1 at h1;have hps:=h1.pos;rw [if_neg (by simp [hdf]),Nat.add_zero] at hps
 have hh:B3 (jq S).pos ((jq S).place+1)=zX pos (iC T1 p):=by
  rw [hps,ME,h1.place];simp only [zX,iC,k15,sel_true]
 refine ⟨h1.done, ?_, ?_, ?_, ?_, ?_⟩
 ·show jH (jq S).cur p=jH T1.cur p;rw [h1.cur]
 ·show (jq S).opn=sL T1.opn p
  rw [h1.opn];simp [sL,k2,k3,sel_false]
 ·show (jq S).place+1=sel ((p.kind == 1)||(p.kind == 5)) (T1.place+1) T1.place
  rw [k15,sel_true,h1.place]
 ·show sel (B3 (jq S).pos ((jq S).place+1)) true (jq S).due=_
  rw [hh,hdf];cases zX pos (iC T1 p)<;>rfl
 ·show sel (B3 (jq S).pos ((jq S).place+1)) (jq S).pos.tail (jq S).pos=pos.drop (T1.done.length+if sel (B3 (jq S).pos ((jq S).place+1)) true (jq S).due=true then 1 else 0)
  rw [hdf];cases B3 (jq S).pos ((jq S).place+1) with
  |true=>rw [sel_true,sel_true,if_pos rfl,hps,List.tail_drop]
  |false=>rw [sel_false,sel_false,if_neg (by simp),Nat.add_zero,hps]
theorem QI{pos:List Int}(hinc:∀ (i:Nat) (x y:Int),pos[i]?=some x→pos[i+1]?=some y→x<y){S T:CSt}(h:AX pos S T){p:ag}(k1:(p.kind == 1)=false)(k5:(p.kind == 5)=false):AX pos (GV S p) (xU pos T p):=by
 have h1:AX pos (oF S p) (sel (yN pos T p) (qN T) T):=by
  rw [IY,← h.due];unfold oF;cases hd:S.due && !(p.kind == 3) with
  |true=>
   rw [sel_true,sel_true];rw [Bool.and_eq_true] at hd;exact IZ hinc h hd.1
  |false=>rw [sel_false,sel_false];exact h
 unfold xU;generalize sel (yN pos T p) (qN T) T=T1 at h1;have hh:zX pos (iC T1 p)=zX pos T1:=by simp only [zX,iC,k1,k5,Bool.or_false,sel_false]
 refine ⟨h1.done, ?_, ?_, ?_,by rw [hh];exact h1.due,h1.pos⟩
 ·show jH (oF S p).cur p=jH T1.cur p;rw [h1.cur]
 ·show sL (oF S p).opn p=sL T1.opn p;rw [h1.opn]
 ·show (oF S p).place=sel ((p.kind == 1)||(p.kind == 5)) (T1.place+1) T1.place
  rw [k1,k5,Bool.or_false,sel_false,h1.place]
theorem FW{pos:List Int}(hinc:∀ (i:Nat) (x y:Int),pos[i]?=some x→pos[i+1]?=some y→x<y):∀ (rs:List Nat) {S T:CSt},AX pos S T→AX pos (rs.foldl (fun S r=>sM S (rq r)) S) ((rs.map rq).foldl (xU pos) T)
 |[],S,T,h=>h
 |r::rs,S,T,h=>by
  rw [List.foldl_cons,List.map_cons,List.foldl_cons];exact FW hinc rs (I0 hinc h (.inl rfl))
theorem I1{pos:List Int}(hinc:∀ (i:Nat) (x y:Int),pos[i]?=some x→pos[i+1]?=some y→x<y):∀ (l:List ag) {S T:CSt},AX pos S T→AX pos (FT S l) ((pP l).foldl (xU pos) T)
 |[],S,T,h=>h
 |x::l,S,T,h=>by
  have hs:pP (x::l)=xt x++pP l:=rfl;rw [hs,List.foldl_append];refine I1 hinc l (S:=GW S x) ?_;unfold GW xt;cases k1:x.kind == 1 with
  |true=>rw [sel_true,sel_true];exact FW hinc _ h
  |false=>
   rw [sel_false,sel_false,List.foldl_cons,List.foldl_nil];cases k5:x.kind == 5 with
   |true=>rw [sel_true];exact I0 hinc h (.inr k5)
   |false=>rw [sel_false];exact QI hinc h k1 k5
theorem OI{l:List ag}{pos:List Int}{n:Int}(h:okA n none pos=true):vP l pos=Eb l pos:=by
 obtain ⟨h1,h2,_⟩:=Lc pos n none h
 have h0:AX pos ⟨[],[],pos,0,false,[]⟩ ⟨[],[],[],0,false,[]⟩:=by
  refine ⟨rfl,rfl,rfl,rfl, ?_,rfl⟩;unfold zX;cases pos with
  |nil=>rfl
  |cons x t=>
   have:=h2 x List.mem_cons_self;simp only [List.length_nil,List.getD_cons_zero];symm;rw [Bool.and_eq_false_iff];right;simp only [beq_eq_false_iff_ne];omega
 have:=I1 h1 l h0;unfold vP Eb;rw [show IT l pos=FT ⟨[],[],pos,0,false,[]⟩ l from rfl,show QH l pos=(pP l).foldl (xU pos) ⟨[],[],[],0,false,[]⟩ from rfl,this.done,this.cur]
end
section
attribute [local congr] aI bR aZ aJ aY aR aK aC aD aS aT
variable{E:bG}(M:cJ cM E)
def gW(k:Int)(l:List ag):List Str:=(l.filter fun x=>x.car&&(x.kind == k)).map (·.text)
theorem xE(k:Int)(x:ag)(l:List ag):gW k (x::l)=sel (x.car&&(x.kind == k)) [x.text] []++gW k l:=by
 unfold gW;rw [List.filter_cons];cases x.car&&(x.kind == k)<;>rfl
theorem OpV.own{H H':List AObj}{v:AV}{l:List Str}(h:OpV H v l)(hs:∀ (O:Nat) (y:AObj),v = .rslice O 0 l.length 1 true→H[O]?=some y→H'[O]?=some y):OpV H' v l:=by
 rcases h with h | ⟨O,junk,h1,h2⟩
 ·exact .inl h
 ·exact .inr ⟨O,junk,h1,hs O _ h1 h2⟩
theorem OJ{G:List AObj}{v:AV}{l:List Str}(h:OpV G v l)(hl:l.length≤100000000)(s:Str) :
  ∃ G',rap true G aH 1 16 false v (.slice .full 1 [[.str s]])=some (.rslice G.length 0 (l.length+1) 1 true,G')∧OpV G' (.rslice G.length 0 (l.length+1) 1 true) (l++[s])∧G.length<G'.length∧∀ (i:Nat) (y:AObj),G[i]?=some y→(∀ O,v = .rslice O 0 l.length 1 true→i≠O)→G'[i]?=some y:=by
 rcases h with ⟨rfl,rfl⟩ | ⟨O,junk,rfl,hg⟩
 ·refine ⟨G++[.cells [.str s] aH], ?_,.inr ⟨G.length,[],rfl,by rw [aL];rfl⟩,by simp,fun i y hi _=>bD hi⟩
  simp only [rap,pY,pS,or_true,if_true,na];rw [if_pos (by simp)];rfl
 ·have hlt:=cg hg
  have hlen:l.length*1≤(kr l++junk).length:=by rw [List.length_append,kg];omega
  refine ⟨G.set O .dead++[.cells (kr (l++[s])) aH], ?_,.inr ⟨G.length,[],by simp, ?_⟩,by simp,fun i y hi hne => ?_⟩
  ·simp only [rap,pY,pS,or_true,if_true,na,hg]
   rw [if_pos ⟨trivial,trivial,hlen,by simp;omega,by simp;omega⟩];simp only [Nat.mul_one];rw [List.take_left' (by rw [kg]),xl];rfl
  ·rw [List.append_nil,show G.length=(G.set O .dead).length by simp,aL];rfl
  ·have:=(List.getElem?_eq_some_iff.1 hi).1
   rw [List.getElem?_append_left (by simp;omega),List.getElem?_set_ne (hne O rfl).symm];exact hi
theorem den(hC:jT E){H0:List AObj}{l:List ag}{tg:Tag}(hl:l.length≤100000000):∀ (n i:Nat) (H:List AObj) (v w:AV) (a b:List Str),i+n=l.length→OpV H v a→OpV H w b→(∀ O O' len len',v = .rslice O 0 len 1 true→w = .rslice O' 0 len' 1 true→O≠O')→free (fun j=>j<H0.length) v→free (fun j=>j<H0.length) w→H0.length≤H.length→a.length≤i→b.length≤i →
  ∃ H' v' w',(∀ (k:List Fra) (He:List AObj),M.go mJ H0 (.c ez :: .lp ⟨(some [2,3,6,7,8]),[],false⟩ ez He :: .blk 0 :: .c (.lv [2,3])::k) (kv [(2,v),(3,w),(6,.slice tg 3 (l.map ag.row)),(7,.int .i64 l.length),(8,.int .i64 i)]) H=M.go mJ H0 k (kv [(2,v'),(3,w')]) H')∧OpV H' v' (a++gW 2 (l.drop i))∧OpV H' w' (b++gW 3 (l.drop i))∧(∀ O O' len len',v' = .rslice O 0 len 1 true→w' = .rslice O' 0 len' 1 true→O≠O')∧free (fun j=>j<H0.length) v'∧H.length≤H'.length∧(∀ j,j<H0.length→H'[j]?=H[j]?)
 |0,i,H,v,w,a,b,h,hv,hw,hne,fv,fw,hle,ha,hb=>by
  have e:i=l.length:=by omega
  subst e;refine ⟨H,v,w,fun k He => ?_,by rw [List.drop_length];simpa [gW] using hv,by rw [List.drop_length];simpa [gW] using hw,hne,fv,Nat.le_refl _,fun _ _=>rfl⟩;rw [ak M ez.eq_1];simp (maxSteps:=3000000) (maxDischargeDepth:=6) +contextual -implicitDefEqProofs only [amC M,↓amD,Nat.reduceBEq,Nat.reduceAdd,env,aj,oI,Nat.lt_irrefl]
 |n+1,i,H,v,w,a,b,h,hv,hw,hne,fv,fw,hle,ha,hb=>by
  have hi:i<l.length:=by omega
  have hx:l[i]?=some l[i]:=List.getElem?_eq_getElem hi;have hd:(l.drop i)=l[i]::l.drop (i+1):=List.drop_eq_getElem_cons hi;have hwi:=bt (n:=l.length) hi (by simp only [aX];omega);have hir:=aA (row:=ag.row) (tag:=tg) (sz:=3) (k:=.i64) hi;have gx:=aL H [AObj.cells l[i].row ah];rw [List.getElem?_cons_zero] at gx;have hv1:OpV (H++[AObj.cells l[i].row ah]) v a:=hv.stay fun O cs hO=>bD hO
  have hw1:OpV (H++[AObj.cells l[i].row ah]) w b:=hw.stay fun O cs hO=>bD hO
  rw [hd,xE,xE]
  have lt_of:∀ {v:AV}{a:List Str},OpV H v a→∀ O len,v = .rslice O 0 len 1 true→O<H.length:=fun {v a} hv O len e=>by
   rcases hv with ⟨_,hv⟩ | ⟨O',junk,hv,hO⟩
   ·rw [hv] at e;cases e
   ·rw [hv] at e;cases e;exact cg hO
  have one:∃ H1 v1 w1,(∀ (k:List Fra) (He:List AObj),M.go mJ H0 (.c ez :: .lp ⟨(some [2,3,6,7,8]),[],false⟩ ez He :: .blk 0 :: .c (.lv [2,3])::k) (kv [(2,v),(3,w),(6,.slice tg 3 (l.map ag.row)),(7,.int .i64 l.length),(8,.int .i64 i)]) H =
    M.go mJ H0 (.c ez :: .lp ⟨(some [2,3,6,7,8]),[],false⟩ ez H1 :: .blk 0 :: .c (.lv [2,3])::k) (kv [(2,v1),(3,w1),(6,.slice tg 3 (l.map ag.row)),(7,.int .i64 l.length),(8,.int .i64 ((i+1:Nat):Int))]) H1) ∧
    OpV H1 v1 (a++sel (l[i].car&&(l[i].kind == 2)) [l[i].text] [])∧OpV H1 w1 (b++sel (l[i].car&&(l[i].kind == 3)) [l[i].text] [])∧(∀ O O' len len',v1 = .rslice O 0 len 1 true→w1 = .rslice O' 0 len' 1 true→O≠O')∧free (fun j=>j<H0.length) v1∧free (fun j=>j<H0.length) w1∧H.length≤H1.length∧(∀ j,j<H0.length→H1[j]?=H[j]?):=by
   have keep:∀ {u:AV}{d:List Str}{G1:List AObj},OpV H u d→free (fun j=>j<H0.length) u→(∀ (i':Nat) (y:AObj),(H++[AObj.cells l[i].row ah])[i']?=some y→(∀ O,u = .rslice O 0 d.length 1 true→i'≠O)→G1[i']?=some y)→∀ j,j<H0.length→G1[j]?=H[j]? := fun {u d G1} hu fu hk j hj=>by
    have hlt:j<H.length:=by omega
    rw [List.getElem?_eq_getElem hlt];exact hk j _ (bD (List.getElem?_eq_getElem hlt)) fun O e ei=>fu O _ _ _ _ e (by omega)
   cases k2:l[i].car&&(l[i].kind == 2) with
   |true=>
    rw [Bool.and_eq_true] at k2;have k3:(l[i].kind == 3)=false:=by rw [eq_of_beq k2.2];rfl
    obtain ⟨G1,a1,a2,a3,a4⟩:=OJ hv1 (by omega) l[i].text;have hlg:(H++[AObj.cells l[i].row ah]).length=H.length+1:=by simp
    rw [hlg] at a1 a2 a3;refine ⟨G1,_,w,fun k He => ?_,by rw [sel_true];exact a2,by rw [k3,Bool.and_false,sel_false,List.append_nil];exact hw1.own fun O y e hO=>a4 O y hO fun O' e' ei=>hne O' O _ _ e' e ei.symm,fun O O' len len' e1 e2 => ?_,fun Q o n e r eq=>(by cases eq;omega),fw,by omega,keep hv fv a4⟩
    ·rw [ak M ez.eq_1]
     simp (maxSteps:=3000000) (maxDischargeDepth:=6) +contextual -implicitDefEqProofs only [amC M,↓amD,Nat.reduceBEq,Nat.reduceAdd,env,aj,oI,amG,AV.cell,Nat.reduceMul,Nat.reduceLeDiff,hi,hx,hir,hwi,gx,k2.1,k2.2,aW,a1]
    ·cases e1
     have:=lt_of hw O' len' e2;omega
   |false=>
    rw [sel_false,List.append_nil];cases k3:l[i].car&&(l[i].kind == 3) with
    |true=>
     rw [Bool.and_eq_true] at k3;have k2f:(l[i].kind == 2)=false:=by rw [eq_of_beq k3.2];rfl
     obtain ⟨G1,a1,a2,a3,a4⟩:=OJ hw1 (by omega) l[i].text;have hlg:(H++[AObj.cells l[i].row ah]).length=H.length+1:=by simp
     rw [hlg] at a1 a2 a3;refine ⟨G1,v,_,fun k He => ?_,hv1.own fun O y e hO=>a4 O y hO fun O' e' ei=>hne O O' _ _ e e' ei,by rw [sel_true];exact a2,fun O O' len len' e1 e2 => ?_,fv,fun Q o n e r eq=>(by cases eq;omega),by omega,keep hw fw a4⟩
     ·rw [ak M ez.eq_1]
      simp (maxSteps:=3000000) (maxDischargeDepth:=6) +contextual -implicitDefEqProofs only [amC M,↓amD,Nat.reduceBEq,Nat.reduceAdd,env,aj,oI,amG,AV.cell,Nat.reduceMul,Nat.reduceLeDiff,hi,hx,hir,hwi,gx,k3.1,k2f,k3.2,aW,a1]
     ·cases e2
      have:=lt_of hv O len e1;omega
    |false=>
     rw [sel_false,List.append_nil];refine ⟨_,v,w,fun k He => ?_,hv1,hw1,hne,fv,fw,by simp,fun j hj=>List.getElem?_append_left (by omega)⟩;cases kc:l[i].car with
     |false=>
      rw [ak M ez.eq_1];simp (maxSteps:=3000000) (maxDischargeDepth:=6) +contextual -implicitDefEqProofs only [amC M,↓amD,Nat.reduceBEq,Nat.reduceAdd,env,aj,oI,amG,AV.cell,Nat.reduceMul,Nat.reduceLeDiff,hi,hx,hir,hwi,gx,kc,aW]
     |true=>
      rw [kc,Bool.true_and] at k2 k3;rw [ak M ez.eq_1];simp (maxSteps:=3000000) (maxDischargeDepth:=6) +contextual -implicitDefEqProofs only [amC M,↓amD,Nat.reduceBEq,Nat.reduceAdd,env,aj,oI,amG,AV.cell,Nat.reduceMul,Nat.reduceLeDiff,hi,hx,hir,hwi,gx,kc,k2,k3,aW]
  obtain ⟨H1,v1,w1,o1,o2,o3,o4,o5,o6,o7,o8⟩:=one;have la:(sel (l[i].car&&(l[i].kind == 2)) [l[i].text] []).length≤1:=by cases l[i].car&&(l[i].kind == 2)<;>simp [sel_true,sel_false]
  have lb:(sel (l[i].car&&(l[i].kind == 3)) [l[i].text] []).length≤1:=by cases l[i].car&&(l[i].kind == 3)<;>simp [sel_true,sel_false]
  obtain ⟨H2,v2,w2,i1,i2,i3,i4,i5,i6,i7⟩:=den hC (H0:=H0) (tg:=tg) hl n (i+1) H1 v1 w1 _ _ (by omega) o2 o3 o4 o5 o6 (by omega) (by rw [List.length_append];omega) (by rw [List.length_append];omega);exact ⟨H2,v2,w2,fun k He=>by rw [o1 k He,i1 k H1],by rw [← List.append_assoc];exact i2,by rw [← List.append_assoc];exact i3,i4,i5,by omega,fun j hj=>by rw [i7 j hj,o8 j hj]⟩
theorem I2(hC:jT E){l:List ag}{tg:Tag}(hl:l.length≤100000000)(H:List AObj):∃ H' v w,M.run te [.slice tg 3 (l.map ag.row)] H=some (.ret (.tuple [v,w]),H')∧OpV H' v (gW 2 l)∧OpV H' w (gW 3 l)∧(∀ O O' len len',v = .rslice O 0 len 1 true→w = .rslice O' 0 len' 1 true→O≠O')∧free (fun j=>j<H.length) v∧H.length≤H'.length∧∀ j,j<H.length→H'[j]?=H[j]? := by
 obtain ⟨H',v,w,e1,e2,e3,e4,e5,e6,e7⟩:=den M hC (H0:=H) (tg:=tg) hl l.length 0 H (.slice .nil 1 []) (.slice .nil 1 []) [] [] (by omega) (.inl ⟨rfl,rfl⟩) (.inl ⟨rfl,rfl⟩) (fun O O' len len' e=>(by cases e)) (fun Q o n e r eq=>(by cases eq)) (fun Q o n e r eq=>(by cases eq)) (Nat.le_refl _) (Nat.le_refl _) (Nat.le_refl _);rw [List.drop_zero,List.nil_append] at e2 e3;refine ⟨H',v,w, ?_,e2,e3,e4,e5,e6,e7⟩
 simp only [kv_cons,kv_nil,Int.ofNat_zero] at e1;rw [br M hC.docs_ends rfl (c:=wO) rfl,wO];simp (maxSteps:=3000000) (maxDischargeDepth:=6) +contextual -implicitDefEqProofs only [amC M,↓amD,Nat.reduceBEq,Nat.reduceAdd,env,aj,oI,List.length_map,e1]
end
section
attribute [local congr] aI bR aZ aJ aY aR aK aC aD aS aT
variable{E:bG}(M:cJ cM E)
theorem OK(l:List Str)(i:Nat)(s:Str):(kr l).set i (.str s)=kr (l.set i s):=by
 unfold kr;rw [List.map_set]
theorem Ed{l:List Str}{junk:List AV}{i:Nat}(hi:i<l.length)(s:Str):bf (kr l++junk) i [.str s]=kr (l.set i s)++junk:=by
 rw [setRow_cons,setRow_nil,List.set_append_left _ _ (by rw [kg];exact hi),OK]
theorem Ld{l:List Str}{junk:List AV}{i:Nat}{s:Str}(h:l[i]?=some s):bn none (kr l++junk) i=some (.str s):=by
 have hlt:=(List.getElem?_eq_some_iff.1 h).1;simp only [bn];rw [List.getElem?_append_left (by rw [kg];exact hlt),kr,List.getElem?_map,h];rfl
theorem rvl{H0:List AObj}{O:Nat}{junk:List AV}{len:Nat}(hlen:len≤100000000):∀ (n i j:Nat) (G:List AObj) (l:List Str),j-i≤n→i≤j+1→j<len→l.length=len→G[O]?=some (.cells (kr l++junk) aH) →
  ∃ G' l',(∀ (k:List Fra) (He:List AObj),M.go bC H0 (.c bb :: .lp ⟨(some [0,2,3]),[],false⟩ bb He :: .blk 0 :: .c (.lv [])::k) (kv [(0,.rslice O 0 len 1 true),(2,.int .i64 i),(3,.int .i64 j)]) G=M.go bC H0 k .leaf G')∧G'[O]?=some (.cells (kr l'++junk) aH)∧l'.length=len∧(∀ m,l'[m]?=if i≤m∧m≤j then l[i+j-m]? else l[m]?)∧G'.length=G.length∧∀ m,m≠O→G'[m]?=G[m]?
 |n,i,j,G,l,hn,hij,hj,hl,hG=>by
  by_cases hlt:i<j
  ·obtain ⟨n,rfl⟩:∃ m,n=m+1:=⟨n-1,by omega⟩
   have hi:i<l.length:=by omega
   have hjl:j<l.length:=by omega
   have xi:l[i]?=some l[i]:=List.getElem?_eq_getElem hi;have xj:l[j]?=some l[j]:=List.getElem?_eq_getElem hjl;have hOl:=cg hG;have hl2:((l.set i l[j]).set j l[i]).length=len:=by simp [hl]
   have hG1:(G.set O (AObj.cells (kr (l.set i l[j])++junk) aH))[O]?=some (.cells (kr (l.set i l[j])++junk) aH):=List.getElem?_set_self hOl;have hG2:((G.set O (AObj.cells (kr (l.set i l[j])++junk) aH)).set O (AObj.cells (kr ((l.set i l[j]).set j l[i])++junk) aH))[O]?=some (.cells (kr ((l.set i l[j]).set j l[i])++junk) aH):=List.getElem?_set_self (by simpa using hOl);have so1:=stO_cells (sz:=1) (H:=G) (id:=O) (off:=i) (cs:=[.str l[j]]) (T:=aH) (old:=kr l++junk) rfl (by rw [List.length_append,kg];omega) rfl
   have so2:=stO_cells (sz:=1) (H:=G.set O (AObj.cells (kr (l.set i l[j])++junk) aH)) (id:=O) (off:=j) (cs:=[.str l[i]]) (T:=aH) (old:=kr (l.set i l[j])++junk) rfl (by rw [List.length_append,kg];simp;omega) rfl;rw [Ed hi] at so1;rw [Ed (by simpa using hjl)] at so2;obtain ⟨G',l',e1,e2,e3,e4,e5,e6⟩:=rvl hlen n (i+1) (j-1) _ _ (by omega) (by omega) (by omega) hl2 hG2;refine ⟨G',l',fun k He => ?_,e2,e3,fun m => ?_,by simpa using e5,fun m hm=>by rw [e6 m hm,List.getElem?_set_ne hm.symm,List.getElem?_set_ne hm.symm]⟩
   ·rw [← e1 k ((G.set O (AObj.cells (kr (l.set i l[j])++junk) aH)).set O (AObj.cells (kr ((l.set i l[j]).set j l[i])++junk) aH))]
    have ii:=qz (id:=O) (show i<len by omega) .i64;have ij:=qz (id:=O) (show j<len by omega) .i64;have li:=Ld (junk:=junk) xi;have lj:=Ld (junk:=junk) xj;have wi:=bt (n:=len) (show i<len by omega) (by simp only [aX];omega);have wj:IntKind.i64.wrap ((j:Int)-1)=((j-1:Nat):Int):=by rw [bK (by omega) (by omega)];omega
    have r1:∀ H,oW (some H)=some (eB,H):=fun _=>rfl
    generalize hA:G.set O (AObj.cells (kr (l.set i l[j])++junk) aH)=A at hG1 so1 so2;generalize hB:A.set O (AObj.cells (kr ((l.set i l[j]).set j l[i])++junk) aH)=B at so2;rw [ak M bb.eq_1];simp (maxSteps:=3000000) (maxDischargeDepth:=6) +contextual -implicitDefEqProofs only [amC M,↓amD,Nat.reduceBEq,Nat.reduceAdd,env,aj,bZ,amG,AV.cell,Nat.reduceMul,Nat.reduceLeDiff,hlt,ii,ij,hG,li,lj,so1,hA,hG1,so2,hB,Ed,wi,wj,r1]
   ·rw [e4 m]
    by_cases h1:i+1≤m∧m≤j-1
    ·rw [if_pos h1,if_pos (by omega),List.getElem?_set_ne (by omega),List.getElem?_set_ne (by omega)]
     congr 1;omega
    ·rw [if_neg h1]
     by_cases hmj:m=j
     ·subst hmj
      rw [List.getElem?_set_self (by simpa using hjl),if_pos (by omega),show i+m-m=i by omega,xi]
     ·rw [List.getElem?_set_ne (fun e=>hmj e.symm)]
      by_cases hmi:m=i
      ·subst hmi
       rw [List.getElem?_set_self hi,if_pos (by omega),show m+j-m=j by omega,xj]
      ·rw [List.getElem?_set_ne (fun e=>hmi e.symm),if_neg (by omega)]
  ·refine ⟨G,l,fun k He => ?_,hG,hl,fun m => ?_,rfl,fun _ _=>rfl⟩
   ·rw [ak M bb.eq_1]
    simp (maxSteps:=3000000) (maxDischargeDepth:=6) +contextual -implicitDefEqProofs only [amC M,↓amD,Nat.reduceBEq,Nat.reduceAdd,env,aj,bZ,hlt]
   ·by_cases h1:i≤m∧m≤j
    ·rw [if_pos h1];congr 1;omega
    ·rw [if_neg h1]
theorem QJ(hC:jT E){G:List AObj}{v:AV}{l:List Str}(h:OpV G v l)(hl:l.length≤100000000):∃ G',M.run gl [v] G=some (.ret (.tuple []),G')∧OpV G' v l.reverse∧G'.length=G.length∧∀ m,(∀ O,v = .rslice O 0 l.length 1 true→m≠O)→G'[m]?=G[m]? := by
 rcases h with ⟨rfl,rfl⟩ | ⟨O,junk,rfl,hG⟩
 ·refine ⟨G, ?_,.inl ⟨rfl,rfl⟩,rfl,fun _ _=>rfl⟩
  rw [br M hC.slices_Reverse_string_string rfl (c:=bY) rfl,bY];have w0:IntKind.i64.wrap (((0:Nat):Int)-1) = -1:=rfl;have hd:decide ((0:Int) < -1)=false:=rfl
  have go0:∀ k He,M.go bC G (.c bb :: .lp ⟨(some [0,2,3]),[],false⟩ bb He :: .blk 0 :: .c (.lv [])::k) (kv [(0,.slice .nil 1 []),(2,.int .i64 0),(3,.int .i64 (-1))]) G=M.go bC G k .leaf G:=fun k He=>by
   rw [ak M bb.eq_1];simp (maxSteps:=3000000) (maxDischargeDepth:=6) +contextual -implicitDefEqProofs only [amC M,↓amD,Nat.reduceBEq,Nat.reduceAdd,env,aj,bZ,hd]
  simp only [kv_cons,kv_nil] at go0;simp (maxSteps:=3000000) (maxDischargeDepth:=6) +contextual -implicitDefEqProofs only [amC M,↓amD,Nat.reduceBEq,Nat.reduceAdd,env,aj,bZ,w0,go0,List.length_nil]
 ·by_cases h0:l.length=0
  ·have:l=[]:=List.length_eq_zero_iff.1 h0
   subst this;refine ⟨G, ?_,.inr ⟨O,junk,rfl,hG⟩,rfl,fun _ _=>rfl⟩;have w0:IntKind.i64.wrap (((0:Nat):Int)-1) = -1:=rfl;have hd:decide ((0:Int) < -1)=false:=rfl
   have go0:∀ k He,M.go bC G (.c bb :: .lp ⟨(some [0,2,3]),[],false⟩ bb He :: .blk 0 :: .c (.lv [])::k) (kv [(0,.rslice O 0 0 1 true),(2,.int .i64 0),(3,.int .i64 (-1))]) G=M.go bC G k .leaf G:=fun k He=>by
    rw [ak M bb.eq_1];simp (maxSteps:=3000000) (maxDischargeDepth:=6) +contextual -implicitDefEqProofs only [amC M,↓amD,Nat.reduceBEq,Nat.reduceAdd,env,aj,bZ,hd]
   simp only [kv_cons,kv_nil] at go0;rw [br M hC.slices_Reverse_string_string rfl (c:=bY) rfl,bY];simp (maxSteps:=3000000) (maxDischargeDepth:=6) +contextual -implicitDefEqProofs only [amC M,↓amD,Nat.reduceBEq,Nat.reduceAdd,env,aj,bZ,w0,go0,List.length_nil]
  ·obtain ⟨G',l',e1,e2,e3,e4,e5,e6⟩:=rvl M (H0:=G) (O:=O) (junk:=junk) (len:=l.length) hl l.length 0 (l.length-1) G l (by omega) (by omega) (by omega) rfl hG
   have hr:l'=l.reverse:=by
    refine List.ext_getElem? fun m => ?_
    rw [e4 m]
    by_cases hm:m<l.length
    ·rw [if_pos (by omega),List.getElem?_reverse hm];congr 1;omega
    ·rw [if_neg (by omega),List.getElem?_eq_none (by omega),List.getElem?_eq_none (by simp;omega)]
   subst hr;refine ⟨G', ?_,.inr ⟨O,junk,by simp,e2⟩,e5,fun m hm=>e6 m (hm O rfl)⟩;have w0:IntKind.i64.wrap ((l.length:Int)-1)=((l.length-1:Nat):Int):=by rw [bK (by omega) (by omega)];omega
   simp only [kv_cons,kv_nil,Int.ofNat_zero] at e1;rw [br M hC.slices_Reverse_string_string rfl (c:=bY) rfl,bY];simp (maxSteps:=3000000) (maxDischargeDepth:=6) +contextual -implicitDefEqProofs only [amC M,↓amD,Nat.reduceBEq,Nat.reduceAdd,env,aj,bZ,w0,e1]
theorem eql{G H0:List AObj}(hc:b5 H0 G){v w:AV}{a b:List Str}(hv:OpV G v a)(hw:OpV G w b)(hab:a.length=b.length)(hl:a.length≤100000000)(k:List Fra):∀ (n i:Nat) (He:List AObj),i+n=a.length →
  M.go dB H0 (.c cu :: .lp ⟨(some [0,1,12,13]),[],false⟩ cu He :: .blk 0 :: .c (.lv [])::k) (kv [(0,v),(1,w),(12,.int .i64 a.length),(13,.int .i64 i)]) G=sel (a.drop i == b.drop i) (M.go dB H0 k .leaf G) (some (.ret (.bool false),G.take H0.length))
 |0,i,He,h=>by
  have e:i=a.length:=by omega
  subst e;rw [List.drop_length,List.drop_of_length_le (by omega),show (([]:List Str) == [])=true from rfl,sel_true];rw [ak M cu.eq_1];simp (maxSteps:=3000000) (maxDischargeDepth:=6) +contextual -implicitDefEqProofs only [amC M,↓amD,Nat.reduceBEq,Nat.reduceAdd,env,aj,cN,Nat.lt_irrefl]
 |n+1,i,He,h=>by
  have hi:i<a.length:=by omega
  have hib:i<b.length:=by omega
  obtain ⟨O,cs,o1,o2,o3⟩:=AT hv (List.getElem?_eq_getElem hi);obtain ⟨O',cs',p1,p2,p3⟩:=AT hw (List.getElem?_eq_getElem hib);have hwi:=bt (n:=a.length) hi (by simp only [aX];omega);have ih:=fun He=>eql hc hv hw hab hl k n (i+1) He (by omega)
  simp only [kv_cons,kv_nil] at ih;rw [List.drop_eq_getElem_cons hi,List.drop_eq_getElem_cons hib,List.cons_beq_cons];cases he:a[i] == b[i] with
  |true=>
   rw [Bool.true_and];rw [ak M cu.eq_1];simp (maxSteps:=3000000) (maxDischargeDepth:=6) +contextual -implicitDefEqProofs only [amC M,↓amD,Nat.reduceBEq,Nat.reduceAdd,env,aj,cN,hi,o1,o2,o3,p1,p2,p3,he,hwi,ih]
  |false=>
   rw [Bool.false_and,sel_false];rw [ak M cu.eq_1];simp (maxSteps:=3000000) (maxDischargeDepth:=6) +contextual -implicitDefEqProofs only [amC M,↓amD,Nat.reduceBEq,Nat.reduceAdd,env,aj,cN,hi,o1,o2,o3,p1,p2,p3,he,hc]
theorem MF(hC:jT E){G:List AObj}{v w:AV}{a b:List Str}(hv:OpV G v a)(hw:OpV G w b)(hl:a.length≤100000000):M.run iq [v,w] G=some (.ret (.bool (a == b)),G):=by
 have l1:=fun H=>tK (G:=H) hv
 have l2:=fun H=>tK (G:=H) hw
 rw [br M hC.slices_Equal_string_string rfl (c:=iz) rfl,iz]
 by_cases hab:a.length=b.length
 ·have hq:(a.length == b.length)=true:=by simp [hab]
  have h1:=fun k He=>eql M (cut_refl G) hv hw hab hl k a.length 0 He (by omega)
  simp only [kv_cons,kv_nil,Int.ofNat_zero,List.drop_zero] at h1;cases he:a == b with
  |true=>
   simp only [he,sel_true] at h1;simp (maxSteps:=3000000) (maxDischargeDepth:=6) +contextual -implicitDefEqProofs only [amC M,↓amD,Nat.reduceBEq,Nat.reduceAdd,env,aj,cN,l1,l2,hq,h1]
  |false=>
   simp only [he,sel_false] at h1;simp (maxSteps:=3000000) (maxDischargeDepth:=6) +contextual -implicitDefEqProofs only [amC M,↓amD,Nat.reduceBEq,Nat.reduceAdd,env,aj,cN,l1,l2,hq,h1,hp_self]
 ·have hq:(a.length == b.length)=false:=by simp [hab]
  have he:(a == b)=false:=by simp only [beq_eq_false_iff_ne];intro e;exact hab (by rw [e])
  rw [he];simp (maxSteps:=3000000) (maxDischargeDepth:=6) +contextual -implicitDefEqProofs only [amC M,↓amD,Nat.reduceBEq,Nat.reduceAdd,env,aj,cN,l1,l2,hq,hp_self,cut_refl]
end
section
attribute [local congr] aI bR aZ aJ aY aR aK aC aD aS aT
variable{E:bG}(M:cJ cM E)
def p8:List (Sl ag)→Int
 |[]=>0
 |p::ps=>sel (dX p.l == 0) (p8 ps) (dX p.l)
def vQ:List (Sl ag)→Bool
 |[]=>true
 |p::ps=>(match ps with
  |[]=>true
  |q::_=>gW 3 p.l == (gW 2 q.l).reverse)&&vQ ps
theorem I3(p q:Sl ag)(ps:List (Sl ag)):vQ (p::q::ps)=((gW 3 p.l == (gW 2 q.l).reverse)&&vQ (q::ps)):=rfl
def sN(n i:Nat)(x:ag):Bool:=x.car&&(((x.kind == 2)&&decide (0<i))||((x.kind == 3)&&decide (i+1<n)))
def glue1(n i:Nat)(cur l:List ag):List ag:=l.foldl (fun c x=>sel (sN n i x) c (jH c x)) cur
def ur(n:Nat):Nat→List ag→List (Sl ag)→List ag
 |_,cur,[]=>cur
 |i,cur,p::ps=>ur n (i+1) (glue1 n i cur p.l) ps
def gS(cur:List ag):CSt:=⟨[],cur,[],0,false,[]⟩
def szQ(l:List ag):Nat:=(l.map fun x=>x.text.length+1).sum
theorem Ee(x:ag)(l:List ag):szQ (x::l)=x.text.length+1+szQ l:=by simp [szQ]
def szL(ps:List (Sl ag)):Nat:=(ps.map fun p=>szQ p.l).sum
theorem Ef(p:Sl ag)(l:List (Sl ag)):szL (p::l)=szQ p.l+szL l:=by simp [szL]
theorem rY{H0 G:List AObj}(h1:H0.length≤G.length)(h2:∀ m,m<H0.length→G[m]?=H0[m]?):b5 H0 G∧G.take H0.length=H0:=by
 have hk:G.take H0.length=H0:=by
  refine List.ext_getElem? fun i => ?_
  by_cases hi:i<H0.length
  ·rw [List.getElem?_take_of_lt hi,h2 i hi]
  ·rw [List.getElem?_eq_none (by simp;omega),List.getElem?_eq_none (by omega)]
 exact ⟨⟨h1,fun i x hi hx=>.inl (by rw [← h2 i hi];exact hx)⟩,hk⟩
def vR(m:Nat)(cur:List ag):Prop:=cur.length≤m∧∀ x∈cur,x.text.length≤m
theorem vR.put{m:Nat}{cur:List ag}(h:vR m cur)(p:ag):vR (m+(p.text.length+1)) (jH cur p):=
 ⟨by have:=zT cur p;have:=h.1;omega,fun x hx=>by have:=zU h.2 (Nat.le_refl p.text.length) x hx;omega⟩
theorem vR.mono{m n:Nat}{cur:List ag}(h:vR m cur)(hn:m≤n):vR n cur:=⟨Nat.le_trans h.1 hn,fun x hx=>Nat.le_trans (h.2 x hx) hn⟩
theorem vR.glue1{n i:Nat}:∀ (l:List ag) {m:Nat}{cur:List ag},vR m cur→vR (m+szQ l) (glue1 n i cur l)
 |[],m,cur,h=>h
 |x::l,m,cur,h=>by
  rw [Ee,← Nat.add_assoc];show vR _ (Go.Am.glue1 n i (sel (sN n i x) cur (jH cur x)) l);refine vR.glue1 l ?_;cases sN n i x
  ·exact h.put x
  ·exact h.mono (by omega)
theorem gl0(hB:gA E)(hX:vO M){H H0:List AObj}(hc:b5 H0 H){ps:List (Sl ag)}{tg:Tag}(hn:ps.length≤1000000)(hps:∀ p∈ps,p.l.length≤1000000∧nz p.l)(k:List Fra):∀ (n i:Nat) (He:List AObj),i+n=ps.length →
  M.go en H0 (.c lf :: .lp ⟨(some [0,20,21,22]),[],false⟩ lf He :: .blk 0 :: .c (.lv [0])::k) (kv [(0,.slice tg 1 (ps.map dD)),(20,.slice tg 1 (ps.map dD)),(21,.int .i64 ps.length),(22,.int .i64 i)]) H =
   sel (p8 (ps.drop i) == 0) (M.go en H0 k (kv [(0,.slice tg 1 (ps.map dD))]) H) (some (.ret (.tuple [.slice .nil 3 [],.int .u8 (p8 (ps.drop i))]),H.take H0.length))
 |0,i,He,h=>by
  have e:i=ps.length:=by omega
  subst e;rw [List.drop_length,p8,show ((0:Int) == 0)=true from rfl,sel_true];rw [ak M lf.eq_1];simp (maxSteps:=3000000) (maxDischargeDepth:=6) +contextual -implicitDefEqProofs only [amC M,↓amD,Nat.reduceBEq,Nat.reduceAdd,env,aj,cI,Nat.lt_irrefl]
 |n+1,i,He,h=>by
  have hi:i<ps.length:=by omega
  have hx:ps[i]?=some ps[i]:=List.getElem?_eq_getElem hi;have hd:(ps.drop i)=ps[i]::ps.drop (i+1):=List.drop_eq_getElem_cons hi;have hwi:=bt (n:=ps.length) hi (by simp only [aX];omega);have hir:=aA (row:=dD) (tag:=tg) (sz:=1) (k:=.i64) hi;obtain ⟨p1,p2⟩:=hps _ (List.getElem_mem hi);have hck:=fun H=>vt M hB hX (l:=ps[i]) p1 p2 H
  have ih:=fun He=>gl0 hB hX hc (tg:=tg) hn hps k n (i+1) He (by omega)
  simp only [kv_cons,kv_nil] at ih;have hde:=fun e=>vu hc 3 e
  rw [hd,p8];cases c0:dX ps[i].l == 0 with
  |true=>
   rw [sel_true];rw [ak M lf.eq_1];simp (maxSteps:=3000000) (maxDischargeDepth:=6) +contextual -implicitDefEqProofs only [amC M,↓amD,Nat.reduceBEq,Nat.reduceAdd,env,aj,cI,hi,hx,hir,hwi,qPl,hck,c0,ih,Bool.not_true]
  |false=>
   rw [sel_false,c0,sel_false];rw [ak M lf.eq_1];simp (maxSteps:=3000000) (maxDischargeDepth:=6) +contextual -implicitDefEqProofs only [amC M,↓amD,Nat.reduceBEq,Nat.reduceAdd,env,aj,cI,hi,hx,hir,hwi,qPl,hck,c0,hde,Bool.not_false]
theorem gl1(hC:jT E){H0:List AObj}{ps:List (Sl ag)}{tg:Tag}(hn:ps.length≤1000000)(hps:∀ p∈ps,p.l.length≤100000000):∀ (n j:Nat) (G:List AObj),j+1+n=ps.length→H0.length≤G.length→(∀ m,m<H0.length→G[m]?=H0[m]?) →
  ∃ G',(∀ (k:List Fra) (He:List AObj),M.go en H0 (.c lg :: .lp ⟨(some [0,7]),[],false⟩ lg He :: .blk 2 :: .c (.lv [0])::k) (kv [(0,.slice tg 1 (ps.map dD)),(7,.int .i64 ((j+1:Nat):Int))]) G =
   sel (vQ (ps.drop j)) (M.go en H0 k (kv [(0,.slice tg 1 (ps.map dD))]) G') (some (.ret (.tuple [.slice .nil 3 [],.int .u8 10]),H0)))∧H0.length≤G'.length∧∀ m,m<H0.length→G'[m]?=H0[m]?
 |0,j,G,h,hl,hG=>by
  have e:ps.length=j+1:=by omega
  refine ⟨G,fun k He => ?_,hl,hG⟩;have hj:j<ps.length:=by omega
  have ha:vQ (ps.drop j)=true:=by
   rw [List.drop_eq_getElem_cons hj,List.drop_of_length_le (by omega)];rfl
  rw [ha,sel_true];have hlt:¬ (j+1<ps.length):=by omega
  rw [ak M lg.eq_1];simp (maxSteps:=3000000) (maxDischargeDepth:=6) +contextual -implicitDefEqProofs only [amC M,↓amD,Nat.reduceBEq,Nat.reduceAdd,env,aj,cI,hlt,List.length_map]
 |n+1,j,G,h,hl,hG=>by
  have hj:j<ps.length:=by omega
  have hi:j+1<ps.length:=by omega
  have hxj:ps[j]?=some ps[j]:=List.getElem?_eq_getElem hj;have hxi:ps[j+1]?=some ps[j+1]:=List.getElem?_eq_getElem hi;have hrj:=aA (row:=dD) (tag:=tg) (sz:=1) (k:=.i64) hj;have hri:=aA (row:=dD) (tag:=tg) (sz:=1) (k:=.i64) hi;have hwj:IntKind.i64.wrap (((j+1:Nat):Int)-1)=(j:Int):=by rw [bK (by omega) (by omega)];omega
  have hwi:=bt (n:=ps.length) hi (by simp only [aX];omega);have bj:=hps _ (List.getElem_mem hj);have bi:=hps _ (List.getElem_mem hi);obtain ⟨G1,v1,w1,e1,o1,o2,o3,o4,o5,o6⟩:=I2 M hC (l:=ps[j].l) (tg:=ps[j].tag) bj G;obtain ⟨G2,v2,w2,f1,q1,q2,q3,q4,q5,q6⟩:=I2 M hC (l:=ps[j+1].l) (tg:=ps[j+1].tag) bi G1;have cl:∀ (k:Int) (l:List ag),(gW k l).length≤l.length:=fun k l=>by unfold gW;rw [List.length_map];exact List.length_filter_le _ _
  have c3:=cl 3 ps[j].l;have c2:=cl 2 ps[j+1].l;obtain ⟨G3,r1,r2,r3,r4⟩:=QJ M hC q1 (by omega);have ow2:OpV G2 w1 (gW 3 ps[j].l):=o2.stay fun O cs hO=>by rw [q6 O (cg hO)];exact hO
  have lw:∀ O len,w1 = .rslice O 0 len 1 true→O<G1.length:=fun O len e=>by
   rcases o2 with ⟨_,hv⟩ | ⟨O',junk,hv,hO⟩
   ·rw [hv] at e;cases e
   ·rw [hv] at e;cases e;exact cg hO
  have ow3:OpV G3 w1 (gW 3 ps[j].l):=ow2.own fun O y e hO=>by
   rw [r4 O fun O' e' ei=>q4 O' _ _ _ _ e' (by rw [← ei];exact lw O _ e)];exact hO
  have eq:=MF M hC ow3 r2 (by omega)
  have low3:∀ m,m<H0.length→G3[m]?=H0[m]? := fun m hm=>by
   rw [r4 m fun O' e' ei=>q4 O' _ _ _ _ e' (by omega),q6 m (by omega),o6 m (by omega),hG m hm]
  have hle3:H0.length≤G3.length:=by omega
  obtain ⟨hc3,ht3⟩:=rY hle3 low3;have hde:=vu hc3 3 10;rw [ht3] at hde;have hd:ps.drop j=ps[j]::ps[j+1]::ps.drop (j+1+1):=by rw [List.drop_eq_getElem_cons hj,List.drop_eq_getElem_cons hi]
  have ha:vQ (ps.drop j)=((gW 3 ps[j].l == (gW 2 ps[j+1].l).reverse)&&vQ (ps.drop (j+1))):=by
   rw [hd,I3,List.drop_eq_getElem_cons hi]
  rw [ha];cases c0:gW 3 ps[j].l == (gW 2 ps[j+1].l).reverse with
  |false=>
   refine ⟨G3,fun k He => ?_,hle3,low3⟩;rw [Bool.false_and,sel_false];rw [ak M lg.eq_1];simp (maxSteps:=3000000) (maxDischargeDepth:=6) +contextual -implicitDefEqProofs only [amC M,↓amD,Nat.reduceBEq,Nat.reduceAdd,env,aj,cI,hi,hj,hxj,hxi,hrj,hri,hwj,hwi,qPl,List.length_map,e1,f1,r1,eq,c0,bQ,List.getElem?_cons_zero,List.getElem?_cons_succ,hde,Bool.not_false]
  |true=>
   obtain ⟨G4,i1,i2,i3⟩:=gl1 hC (tg:=tg) hn hps n (j+1) G3 (by omega) hle3 low3;refine ⟨G4,fun k He => ?_,i2,i3⟩;simp only [kv_cons,kv_nil] at i1;rw [Bool.true_and];rw [ak M lg.eq_1];simp (maxSteps:=3000000) (maxDischargeDepth:=6) +contextual -implicitDefEqProofs only [amC M,↓amD,Nat.reduceBEq,Nat.reduceAdd,env,aj,cI,hi,hj,hxj,hxi,hrj,hri,hwj,hwi,qPl,List.length_map,e1,f1,r1,eq,c0,bQ,List.getElem?_cons_zero,List.getElem?_cons_succ,i1,Bool.not_true]
end
section
attribute [local congr] aI bR aZ aJ aY aR aK aC aD aS aT
variable{E:bG}(M:cJ cM E)
theorem Lg{n i:Nat}(x:ag):(decide ((0:Int)<(i:Int))=decide (0<i)):=by
 rw [Bool.eq_iff_iff];simp
theorem gl2(hC:jT E){H0:List AObj}{R:Nat→Prop}{c:Nat}{pv:AV}{ps:List (Sl ag)}{tgp:Tag}(hpv:pv = .slice tgp 1 (ps.map dD))(hnp:ps.length≤1000000){i:Nat}(hi0:i<ps.length){l:List ag}{tg:Tag}(hl:l.length≤100000000):∀ (n j m:Nat) (H:List AObj) (cur:List ag),j+n=l.length→jd R c H (gS cur)→vR m cur→m+szQ (l.drop j)≤100000000 →
  ∃ H',(∀ (k:List Fra) (He:List AObj),M.go en H0 (.c cf :: .lp ⟨(some [0,12,13,64,65,66,71,72,73]),[],false⟩ cf He :: .blk 6 :: .c (.lv [0,12,64,65,66])::k) (kv [(0,pv),(12,.ptr c 0),(13,.int .i64 i),(64,pv),(65,.int .i64 ps.length),(66,.int .i64 i),(71,.slice tg 3 (l.map ag.row)),(72,.int .i64 l.length),(73,.int .i64 j)]) H =
   M.go en H0 k (kv [(0,pv),(12,.ptr c 0),(64,pv),(65,.int .i64 ps.length),(66,.int .i64 i)]) H')∧jd R c H' (gS (glue1 ps.length i cur (l.drop j)))∧Frm R H H'
 |0,j,m,H,cur,h,hS,hb,hm=>by
  have e:j=l.length:=by omega
  subst e;refine ⟨H,fun k He => ?_,by rw [List.drop_length];exact hS,Frm.refl R H⟩;rw [ak M cf.eq_1];simp (maxSteps:=3000000) (maxDischargeDepth:=6) +contextual -implicitDefEqProofs only [amC M,↓amD,Nat.reduceBEq,Nat.reduceAdd,env,aj,cI,Nat.lt_irrefl]
 |n+1,j,m,H,cur,h,hS,hb,hm=>by
  have hj:j<l.length:=by omega
  have hx:l[j]?=some l[j]:=List.getElem?_eq_getElem hj;have hd:(l.drop j)=l[j]::l.drop (j+1):=List.drop_eq_getElem_cons hj;have hwj:=bt (n:=l.length) hj (by simp only [aX];omega);have hwi:=bt (n:=ps.length) hi0 (by simp only [aX];omega);have hir:=aA (row:=ag.row) (tag:=tg) (sz:=3) (k:=.i64) hj;have hlp:∀ G,rG G .sl pv=some (.int .i64 ((ps.length:Nat):Int)):=fun G=>by rw [hpv];simp only [rG,List.length_map]
  rw [hd] at hm ⊢;rw [Ee] at hm;have gx:=aL H [AObj.cells l[j].row ah];rw [List.getElem?_cons_zero] at gx;have h1:=hS.app [AObj.cells l[j].row ah];obtain ⟨_,l2⟩:=hS.le;have f1:=Frm.app H [AObj.cells l[j].row ah] l2;have hgi:=Lg (n:=0) (i:=i) l[j];show ∃ H',_∧jd R c H' (gS (glue1 ps.length i (sel (sN ps.length i l[j]) cur (jH cur l[j])) (l.drop (j+1))))∧_
  have skip:sN ps.length i l[j]=true→∀ (k:List Fra) (He:List AObj),M.go en H0 (.c cf :: .lp ⟨(some [0,12,13,64,65,66,71,72,73]),[],false⟩ cf He :: .blk 6 :: .c (.lv [0,12,64,65,66])::k) (kv [(0,pv),(12,.ptr c 0),(13,.int .i64 i),(64,pv),(65,.int .i64 ps.length),(66,.int .i64 i),(71,.slice tg 3 (l.map ag.row)),(72,.int .i64 l.length),(73,.int .i64 j)]) H =
    M.go en H0 (.c cf :: .lp ⟨(some [0,12,13,64,65,66,71,72,73]),[],false⟩ cf (H++[AObj.cells l[j].row ah]) :: .blk 6 :: .c (.lv [0,12,64,65,66])::k) (kv [(0,pv),(12,.ptr c 0),(13,.int .i64 i),(64,pv),(65,.int .i64 ps.length),(66,.int .i64 i),(71,.slice tg 3 (l.map ag.row)),(72,.int .i64 l.length),(73,.int .i64 ((j+1:Nat):Int))]) (H++[AObj.cells l[j].row ah]):=fun hs k He=>by
   unfold sN at hs;rw [Bool.and_eq_true] at hs;obtain ⟨hs1,hs2⟩:=hs;cases k2:l[j].kind == 2 with
   |true=>
    have k3:(l[j].kind == 3)=false:=by rw [eq_of_beq k2];rfl
    rw [k2,k3,Bool.true_and,Bool.false_and,Bool.or_false] at hs2;rw [hs2] at hgi;rw [ak M cf.eq_1];simp (maxSteps:=3000000) (maxDischargeDepth:=6) +contextual -implicitDefEqProofs only [amC M,↓amD,Nat.reduceBEq,Nat.reduceAdd,env,aj,cI,amG,AV.cell,Nat.reduceMul,Nat.reduceLeDiff,hj,hx,hir,hwj,hwi,hlp,aW,gx,hs1,k2,k3,hgi]
   |false=>
    cases k3:l[j].kind == 3 with
    |false=>rw [k2,k3] at hs2;cases hs2
    |true=>
     rw [k2,k3,Bool.true_and,Bool.false_and,Bool.false_or] at hs2;have hlt:i+1<ps.length:=of_decide_eq_true hs2;rw [ak M cf.eq_1];simp (maxSteps:=3000000) (maxDischargeDepth:=6) +contextual -implicitDefEqProofs only [amC M,↓amD,Nat.reduceBEq,Nat.reduceAdd,env,aj,cI,amG,AV.cell,Nat.reduceMul,Nat.reduceLeDiff,hj,hx,hir,hwj,hwi,hlp,aW,gx,hs1,k2,k3,hlt]
  cases hsk:sN ps.length i l[j] with
  |true=>
   rw [sel_true];have sk:=skip hsk;obtain ⟨H2,i1,i2,i3⟩:=gl2 hC (H0:=H0) hpv hnp hi0 (tg:=tg) hl n (j+1) (m+(l[j].text.length+1)) _ cur (by omega) h1 (hb.mono (by omega)) (by omega);exact ⟨H2,fun k He=>by rw [sk k He,i1 k _],i2,f1.trans i3⟩
  |false=>
   rw [sel_false];have hb2:=hb.put l[j];obtain ⟨H1,p1,p2,p3,_⟩:=zR M hC h1 (show (gS cur).done.length≤100000000 from Nat.zero_le _) (show (gS cur).cur.length≤100000000 from by have:=hb.1;show cur.length≤_;omega) (fun x hx=>by have:=hb.2 x hx;omega) (p:=l[j]) (by omega);have p2':jd R c H1 (gS (jH cur l[j])):=p2
   have step:∀ (k:List Fra) (He:List AObj),M.go en H0 (.c cf :: .lp ⟨(some [0,12,13,64,65,66,71,72,73]),[],false⟩ cf He :: .blk 6 :: .c (.lv [0,12,64,65,66])::k) (kv [(0,pv),(12,.ptr c 0),(13,.int .i64 i),(64,pv),(65,.int .i64 ps.length),(66,.int .i64 i),(71,.slice tg 3 (l.map ag.row)),(72,.int .i64 l.length),(73,.int .i64 j)]) H =
    M.go en H0 (.c cf :: .lp ⟨(some [0,12,13,64,65,66,71,72,73]),[],false⟩ cf H1 :: .blk 6 :: .c (.lv [0,12,64,65,66])::k) (kv [(0,pv),(12,.ptr c 0),(13,.int .i64 i),(64,pv),(65,.int .i64 ps.length),(66,.int .i64 i),(71,.slice tg 3 (l.map ag.row)),(72,.int .i64 l.length),(73,.int .i64 ((j+1:Nat):Int))]) H1:=fun k He=>by
    unfold sN at hsk;cases kc:l[j].car with
    |false=>
     rw [ak M cf.eq_1];simp (maxSteps:=3000000) (maxDischargeDepth:=6) +contextual -implicitDefEqProofs only [amC M,↓amD,Nat.reduceBEq,Nat.reduceAdd,env,aj,cI,amG,AV.cell,Nat.reduceMul,Nat.reduceLeDiff,hj,hx,hir,hwj,hwi,hlp,aW,gx,kc,p1]
    |true=>
     rw [kc,Bool.true_and] at hsk;cases k2:l[j].kind == 2 with
     |true=>
      have k3:(l[j].kind == 3)=false:=by rw [eq_of_beq k2];rfl
      rw [k2,k3,Bool.true_and,Bool.false_and,Bool.or_false] at hsk;rw [hsk] at hgi;rw [ak M cf.eq_1];simp (maxSteps:=3000000) (maxDischargeDepth:=6) +contextual -implicitDefEqProofs only [amC M,↓amD,Nat.reduceBEq,Nat.reduceAdd,env,aj,cI,amG,AV.cell,Nat.reduceMul,Nat.reduceLeDiff,hj,hx,hir,hwj,hwi,hlp,aW,gx,kc,k2,k3,hgi,p1]
     |false=>
      rw [k2,Bool.false_and,Bool.false_or] at hsk;cases k3:l[j].kind == 3 with
      |false=>
       rw [ak M cf.eq_1];simp (maxSteps:=3000000) (maxDischargeDepth:=6) +contextual -implicitDefEqProofs only [amC M,↓amD,Nat.reduceBEq,Nat.reduceAdd,env,aj,cI,amG,AV.cell,Nat.reduceMul,Nat.reduceLeDiff,hj,hx,hir,hwj,hwi,hlp,aW,gx,kc,k2,k3,p1]
      |true=>
       rw [k3,Bool.true_and] at hsk;have hlt:¬ (i+1<ps.length):=of_decide_eq_false hsk;rw [ak M cf.eq_1];simp (maxSteps:=3000000) (maxDischargeDepth:=6) +contextual -implicitDefEqProofs only [amC M,↓amD,Nat.reduceBEq,Nat.reduceAdd,env,aj,cI,amG,AV.cell,Nat.reduceMul,Nat.reduceLeDiff,hj,hx,hir,hwj,hwi,hlp,aW,gx,kc,k2,k3,hlt,p1]
   obtain ⟨H2,i1,i2,i3⟩:=gl2 hC (H0:=H0) hpv hnp hi0 (tg:=tg) hl n (j+1) (m+(l[j].text.length+1)) _ _ (by omega) p2' hb2 (by omega);exact ⟨H2,fun k He=>by rw [step k He,i1 k _],i2,(f1.trans p3).trans i3⟩
theorem gl3(hC:jT E){H0:List AObj}{R:Nat→Prop}{c:Nat}{ps:List (Sl ag)}{tgp:Tag}(hnp:ps.length≤1000000)(hps:∀ p∈ps,p.l.length≤100000000):∀ (n i m:Nat) (H:List AObj) (cur:List ag),i+n=ps.length→jd R c H (gS cur)→vR m cur→m+szL (ps.drop i)≤100000000 →
  ∃ H',(∀ (k:List Fra) (He:List AObj),M.go en H0 (.c oc :: .lp ⟨(some [0,12,64,65,66]),[],false⟩ oc He :: .blk 4 :: .c (.lv [12])::k) (kv [(0,.slice tgp 1 (ps.map dD)),(12,.ptr c 0),(64,.slice tgp 1 (ps.map dD)),(65,.int .i64 ps.length),(66,.int .i64 i)]) H=M.go en H0 k (kv [(12,.ptr c 0)]) H')∧jd R c H' (gS (ur ps.length i cur (ps.drop i)))∧Frm R H H'
 |0,i,m,H,cur,h,hS,hb,hm=>by
  have e:i=ps.length:=by omega
  subst e;refine ⟨H,fun k He => ?_,by rw [List.drop_length];exact hS,Frm.refl R H⟩;rw [ak M oc.eq_1];simp (maxSteps:=3000000) (maxDischargeDepth:=6) +contextual -implicitDefEqProofs only [amC M,↓amD,Nat.reduceBEq,Nat.reduceAdd,env,aj,cI,Nat.lt_irrefl]
 |n+1,i,m,H,cur,h,hS,hb,hm=>by
  have hi:i<ps.length:=by omega
  have hx:ps[i]?=some ps[i]:=List.getElem?_eq_getElem hi;have hd:(ps.drop i)=ps[i]::ps.drop (i+1):=List.drop_eq_getElem_cons hi;have hwi:=bt (n:=ps.length) hi (by simp only [aX];omega);have hir:=aA (row:=dD) (tag:=tgp) (sz:=1) (k:=.i64) hi;have bi:=hps _ (List.getElem_mem hi);rw [hd] at hm ⊢;rw [Ef] at hm;obtain ⟨H1,a1,a2,a3⟩:=gl2 M hC (H0:=H0) (pv:=.slice tgp 1 (ps.map dD)) rfl hnp hi (l:=ps[i].l) (tg:=ps[i].tag) bi ps[i].l.length 0 m H cur (by omega) hS hb (by rw [List.drop_zero];omega)
  rw [List.drop_zero] at a2;have hb2:=vR.glue1 (n:=ps.length) (i:=i) ps[i].l hb;obtain ⟨H2,i1,i2,i3⟩:=gl3 hC (H0:=H0) (tgp:=tgp) hnp hps n (i+1) (m+szQ ps[i].l) H1 _ (by omega) a2 hb2 (by omega);refine ⟨H2,fun k He => ?_,i2,a3.trans i3⟩;simp only [kv_cons,kv_nil,Int.ofNat_zero] at a1 i1;rw [ak M oc.eq_1];simp (maxSteps:=3000000) (maxDischargeDepth:=6) +contextual -implicitDefEqProofs only [amC M,↓amD,Nat.reduceBEq,Nat.reduceAdd,env,aj,cI,hi,hx,hir,hwi,qPl,a1,i1,List.length_map]
def zY(ps:List (Sl ag)):AV:=
 sel (decide (ps.length=0)) (.tuple [.slice .nil 3 [],.int .u8 1]) (sel (p8 ps == 0) (sel (vQ ps) (sel (nR (ur ps.length 0 [] ps)) (.tuple [.slice .nil 3 [],.int .u8 3]) (.tuple [.slice (pO (ur ps.length 0 [] ps)) 3 ((ur ps.length 0 [] ps).map ag.row),.int .u8 0])) (.tuple [.slice .nil 3 [],.int .u8 10])) (.tuple [.slice .nil 3 [],.int .u8 (p8 ps)]))
theorem MG(hB:gA E)(hX:vO M)(hC:jT E){ps:List (Sl ag)}{tg:Tag}(hn:ps.length≤1000000)(hps:∀ p∈ps,p.l.length≤1000000∧nz p.l)(hsz:szL ps≤100000000)(H:List AObj) :
  M.run wJ [.slice tg 1 (ps.map dD)] H=some (.ret (zY ps),H):=by
 have deS:=fun e=>vu (cut_refl H) 3 e
 simp only [hp_self] at deS;rw [br M hC.docs_Glue rfl (c:=wN) rfl,wN]
 by_cases h0:ps.length=0
 ·have d0:decide (ps.length=0)=true:=decide_eq_true h0
  have q0:(((ps.length:Nat):Int) == 0)=true:=by rw [h0];rfl
  simp (maxSteps:=3000000) (maxDischargeDepth:=6) +contextual -implicitDefEqProofs only [amC M,↓amD,Nat.reduceBEq,Nat.reduceAdd,env,aj,cI,List.length_map,q0,deS,zY,d0]
 ·have d0:decide (ps.length=0)=false:=decide_eq_false h0
  have q0:(((ps.length:Nat):Int) == 0)=false:=beq_eq_false_iff_ne.2 (by omega);have g0:=fun k He=>gl0 M hB hX (cut_refl H) (tg:=tg) hn hps k ps.length 0 He (by omega)
  simp only [kv_cons,kv_nil,Int.ofNat_zero,List.drop_zero,hp_self] at g0;cases c0:p8 ps == 0 with
  |false=>
   simp only [c0,sel_false] at g0;simp (maxSteps:=3000000) (maxDischargeDepth:=6) +contextual -implicitDefEqProofs only [amC M,↓amD,Nat.reduceBEq,Nat.reduceAdd,env,aj,cI,List.length_map,q0,g0,zY,d0,c0]
  |true=>
   simp only [c0,sel_true] at g0;obtain ⟨G1,g1,l1,w1⟩:=gl1 M hC (H0:=H) (tg:=tg) hn (fun p hp=>by have:=(hps p hp).1;omega) (ps.length-1) 0 H (by omega) (Nat.le_refl _) (fun _ _=>rfl);simp only [kv_cons,kv_nil,(show (((0+1:Nat)):Int)=1 from rfl),List.drop_zero] at g1;cases c1:vQ ps with
   |false=>
    simp only [c1,sel_false] at g1;simp (maxSteps:=3000000) (maxDischargeDepth:=6) +contextual -implicitDefEqProofs only [amC M,↓amD,Nat.reduceBEq,Nat.reduceAdd,env,aj,cI,List.length_map,q0,g0,g1,zY,d0,c0,c1]
   |true=>
    simp only [c1,sel_true] at g1;obtain ⟨G,hG⟩:∃ G,G=G1++[AObj.cells [.slice .nil 3 []] al,AObj.cells [.rslice G1.length 0 1 1 true,.slice .nil 1 [],.int .i64 0,.bool false,.slice .nil 1 []] bo]:=⟨_,rfl⟩
    have w0:jd (fun i=>i<H.length) (G1.length+1) G (gS []):=by
     refine ⟨G1.length,G1.length+2,[],.slice .nil 3 [],.nil,.slice .nil 1 [],⟨by omega,by omega,fun i hi=>by rw [hG];simp;omega,by rw [hG,hp_getk];rfl,by rw [hG,aL];rfl,rfl,fun i w l h=>by simp at h,.inl ⟨rfl,rfl⟩,fun Q o n e r eq=>(by cases eq),fun Q o n e r eq=>(by cases eq),by rw [hG];simp,.inl ⟨rfl,rfl⟩,fun Q o n e r eq=>(by cases eq),.inr (.inr rfl)⟩⟩
    obtain ⟨G3,s1,s2,s3⟩:=gl3 M hC (H0:=H) (tgp:=tg) hn (fun p hp=>by have:=(hps p hp).1;omega) ps.length 0 0 G [] (by omega) w0 ⟨Nat.le_refl _,fun x hx=>(by cases hx)⟩ (by rw [List.drop_zero];omega);rw [List.drop_zero] at s2;obtain ⟨P,q,vs,v,ta,ov,h⟩:=s2;have hvs:vs=[]:=List.length_eq_zero_iff.1 h.len;subst hvs
    have low:∀ m,m<H.length→G3[m]?=H[m]? := fun m hm=>by
     rw [s3.low m hm,hG,List.getElem?_append_left (by omega),w1 m hm]
    have hle:H.length≤G3.length:=by have:=s3.len;rw [hG] at this;simp at this;omega
    obtain ⟨hcut,htk⟩:=rY hle low;generalize hcu:ur ps.length 0 [] ps=cur at h;have hcl:=h.cell;have hpr:=h.par;have hlv:=fun G=>AS (G:=G) h.cr
    have hia:=qz (id:=P) (n:=1) (i:=0) (by omega) .i64;have hld:bn none [v] 0=some v:=rfl;have hdn:(gS cur).done.length+1=1:=rfl;rw [hdn] at hcl;rw [List.nil_append] at hpr;simp only [kv_cons,kv_nil,Int.ofNat_zero] at s1 hia;rw [hG] at s1;have hbig:decide ((512:Int)<(((gS cur).cur.length:Nat):Int))=nR cur:=rfl;have hde:=vu hcut 3 3;rw [htk] at hde;have hfz:=kx hcut (v:=.tuple [v,.int .u8 0]) ⟨6,ph (b6 (K7 h.cr h.pr) (b6 (uM _ _ _ _ _) (dQ _)))⟩
    rw [htk] at hfz;have hcc:(gS cur).cur=cur:=rfl;rw [hcc] at hfz;cases c2:nR cur with
    |true=>
     simp (maxSteps:=3000000) (maxDischargeDepth:=6) +contextual -implicitDefEqProofs only [amC M,↓amD,Nat.reduceBEq,Nat.reduceAdd,env,aj,cI,amG,AV.cell,Nat.reduceMul,Nat.reduceLeDiff,rnc,List.length_map,q0,g0,g1,zY,d0,c0,c1,hcu,s1,hcl,hpr,cl5,hia,hld,hlv,hbig,c2,hde]
    |false=>
     simp (maxSteps:=3000000) (maxDischargeDepth:=6) +contextual -implicitDefEqProofs only [amC M,↓amD,Nat.reduceBEq,Nat.reduceAdd,env,aj,cI,amG,AV.cell,Nat.reduceMul,Nat.reduceLeDiff,rnc,List.length_map,q0,g0,g1,zY,d0,c0,c1,hcu,s1,hcl,hpr,cl5,hia,hld,hlv,hbig,c2,hfz]
end
section
attribute [local congr] aI bR aZ aJ aY aR aK aC aD aS aT
variable{E:bG}(M:cJ cM E)
theorem Lh(n:Nat)(l:List Str):ik n (l.map jJ):=by
 rw [rowsWk_map];exact fun _ _=>⟨wk_str _ _,trivial⟩
theorem SX{l:List Str}(s:Str)(H:List AObj)(y:AObj)(hl:l.length≤100000000) :
  rap false (H++[y,.tok (l.length*1) aH]) aH 1 16 false (.slice (.own (H.length+1)) 1 (l.map jJ)) (.slice .full 1 [[.str s]])=some (.slice (.own (H.length+1)) 1 ((l++[s]).map jJ),H++[y,.tok ((l++[s]).length*1) aH]):=by
 have h:=kR (row:=jJ) (l:=l) (x:=s) (r:=[.str s]) (sz:=1) (bytes:=16) (e:=aH) (H++[y]) [] rfl rfl rfl (by omega) (by omega);simpa using h
theorem ren{H H0:List AObj}{l:List ag}{tg:Tag}(hl:l.length≤100000000)(k:List Fra):∀ (n i:Nat) (a b:List Str) (He:List AObj),i+n=l.length→a.length≤i→b.length≤i →
  M.go gO H0 (.c cU :: .lp ⟨(some [0,4,5,6]),[(4,1,aH),(5,1,aH)],false⟩ cU He :: .blk 0 :: .c (.lv [4,5])::k) (kv [(0,.slice tg 3 (l.map ag.row)),(4,.slice (.own H.length) 1 (a.map jJ)),(5,.slice (.own (H.length+1)) 1 (b.map jJ)),(6,.int .i64 i)]) (H++[.tok (a.length*1) aH,.tok (b.length*1) aH]) =
   M.go gO H0 k (kv [(4,.slice (.own H.length) 1 ((a++gW 3 (l.drop i)).map jJ)),(5,.slice (.own (H.length+1)) 1 ((b++gW 2 (l.drop i)).map jJ))]) (H++[.tok ((a++gW 3 (l.drop i)).length*1) aH,.tok ((b++gW 2 (l.drop i)).length*1) aH])
 |0,i,a,b,He,h,ha,hb=>by
  have e:i=l.length:=by omega
  subst e;rw [List.drop_length,show ∀ k,gW k []=[] from fun _=>rfl,show gW 2 []=[] from rfl,List.append_nil,List.append_nil];rw [ak M cU.eq_1];simp (maxSteps:=3000000) (maxDischargeDepth:=6) +contextual -implicitDefEqProofs only [amC M,↓amD,Nat.reduceBEq,Nat.reduceAdd,env,aj,fk,Nat.lt_irrefl,List.length_map]
 |n+1,i,a,b,He,h,ha,hb=>by
  have hi:i<l.length:=by omega
  have hx:l[i]?=some l[i]:=List.getElem?_eq_getElem hi;have hd:(l.drop i)=l[i]::l.drop (i+1):=List.drop_eq_getElem_cons hi;have hwi:=bt (n:=l.length) hi (by simp only [aX];omega);have hir:=aA (row:=ag.row) (tag:=tg) (sz:=3) (k:=.i64) hi;rw [hd,xE,xE];cases kc:l[i].car with
  |false=>
   have ih:=fun He=>ren (H:=H) (H0:=H0) (tg:=tg) hl k n (i+1) a b He (by omega) (by omega) (by omega)
   simp only [kv_cons,kv_nil] at ih;rw [Bool.false_and,Bool.false_and,sel_false,List.nil_append,List.nil_append];rw [ak M cU.eq_1];simp (maxSteps:=3000000) (maxDischargeDepth:=6) +contextual -implicitDefEqProofs only [amC M,↓amD,Nat.reduceBEq,Nat.reduceAdd,env,aj,fk,hi,hx,hir,hwi,aW,kc,ih,List.length_map]
  |true=>
   rw [Bool.true_and,Bool.true_and];cases k3:l[i].kind == 3 with
   |true=>
    have k2:(l[i].kind == 2)=false:=by rw [eq_of_beq k3];rfl
    have ap:=kR (row:=jJ) (l:=a) (x:=l[i].text) (r:=[.str l[i].text]) (sz:=1) (bytes:=16) (e:=aH) H [.tok (b.length*1) aH] rfl rfl rfl (by omega) (by omega);have ih:=fun He=>ren (H:=H) (H0:=H0) (tg:=tg) hl k n (i+1) (a++[l[i].text]) b He (by omega) (by simp;omega) (by omega)
    simp only [kv_cons,kv_nil] at ih;rw [k2,sel_true,sel_false,List.nil_append,← List.append_assoc];rw [ak M cU.eq_1];simp (maxSteps:=3000000) (maxDischargeDepth:=6) +contextual -implicitDefEqProofs only [amC M,↓amD,Nat.reduceBEq,Nat.reduceAdd,env,aj,fk,amG,AV.cell,Nat.reduceMul,Nat.reduceLeDiff,hi,hx,hir,hwi,aW,kc,k2,k3,ap,ih]
   |false=>
    rw [sel_false,List.nil_append];cases k2:l[i].kind == 2 with
    |true=>
     have ap:=SX (l:=b) l[i].text H (.tok (a.length*1) aH) (by omega);have ih:=fun He=>ren (H:=H) (H0:=H0) (tg:=tg) hl k n (i+1) a (b++[l[i].text]) He (by omega) (by omega) (by simp;omega)
     simp only [kv_cons,kv_nil] at ih;rw [sel_true,← List.append_assoc];rw [ak M cU.eq_1];simp (maxSteps:=3000000) (maxDischargeDepth:=6) +contextual -implicitDefEqProofs only [amC M,↓amD,Nat.reduceBEq,Nat.reduceAdd,env,aj,fk,amG,AV.cell,Nat.reduceMul,Nat.reduceLeDiff,hi,hx,hir,hwi,aW,kc,k2,k3,ap,ih]
    |false=>
     have ih:=fun He=>ren (H:=H) (H0:=H0) (tg:=tg) hl k n (i+1) a b He (by omega) (by omega) (by omega)
     simp only [kv_cons,kv_nil] at ih;rw [sel_false,List.nil_append];rw [ak M cU.eq_1];simp (maxSteps:=3000000) (maxDischargeDepth:=6) +contextual -implicitDefEqProofs only [amC M,↓amD,Nat.reduceBEq,Nat.reduceAdd,env,aj,fk,hi,hx,hir,hwi,aW,kc,k2,k3,ih]
theorem FX(hC:jT E){l:List ag}{tg:Tag}(hl:l.length≤100000000)(H:List AObj):M.run jy [.slice tg 3 (l.map ag.row)] H=some (.ret (.tuple [.slice .any 1 ((gW 3 l).map jJ),.slice .any 1 ((gW 2 l).map jJ)]),H):=by
 rw [br M hC.truchmanref01_ends rfl (c:=mP) rfl,mP];have h1:=fun k He=>ren M (H:=H) (H0:=H) (tg:=tg) hl k l.length 0 [] [] He (by omega) (Nat.le_refl _) (Nat.le_refl _)
 simp only [kv_cons,kv_nil,Int.ofNat_zero,List.drop_zero,List.nil_append,List.length_nil,Nat.zero_mul,List.map_nil] at h1;have hh:=handV_drop (cut_app H [.tok ((gW 3 l).length*1) aH,.tok ((gW 2 l).length*1) aH]) (wk_tuple (xs:=[.slice (.own H.length) 1 ((gW 3 l).map jJ),.slice (.own (H.length+1)) 1 ((gW 2 l).map jJ)]) ⟨wk_any (esz:=1) (tag:=.own H.length) (Lh H.length _),wk_any (esz:=1) (tag:=.own (H.length+1)) (Lh H.length _),trivial⟩)
 simp only [anyV_tuple,anyV_slice,hp_take] at hh;simp (maxSteps:=3000000) (maxDischargeDepth:=6) +contextual -implicitDefEqProofs only [amC M,↓amD,Nat.reduceBEq,Nat.reduceAdd,env,aj,fk,h1,hh]
end
section
attribute [local congr] aI bR aZ aJ aY aR aK aC aD aS aT
variable{E:bG}(M:cJ cM E)
theorem rg0(hB:gA E){H H0:List AObj}(hc:b5 H0 H){ps:List (Sl ag)}{tg:Tag}(hn:ps.length≤1000000)(hps:∀ p∈ps,p.l.length≤1000000∧nz p.l)(k:List Fra):∀ (n i:Nat) (He:List AObj),i+n=ps.length →
  M.go bA H0 (.c eF :: .lp ⟨(some [0,4]),[],false⟩ eF He :: .blk 0 :: .c (.lv [0])::k) (kv [(0,.slice tg 1 (ps.map dD)),(4,.int .i64 i)]) H =
   sel (p8 (ps.drop i) == 0) (M.go bA H0 k (kv [(0,.slice tg 1 (ps.map dD))]) H) (some (.ret (.tuple [.slice .nil 3 [],.int .u8 (p8 (ps.drop i))]),H.take H0.length))
 |0,i,He,h=>by
  have e:i=ps.length:=by omega
  subst e;rw [List.drop_length,p8,show ((0:Int) == 0)=true from rfl,sel_true];rw [ak M eF.eq_1];simp (maxSteps:=3000000) (maxDischargeDepth:=6) +contextual -implicitDefEqProofs only [amC M,↓amD,Nat.reduceBEq,Nat.reduceAdd,env,aj,aO,Nat.lt_irrefl,List.length_map]
 |n+1,i,He,h=>by
  have hi:i<ps.length:=by omega
  have hx:ps[i]?=some ps[i]:=List.getElem?_eq_getElem hi;have hd:(ps.drop i)=ps[i]::ps.drop (i+1):=List.drop_eq_getElem_cons hi;have hwi:=bt (n:=ps.length) hi (by simp only [aX];omega);have hir:=aA (row:=dD) (tag:=tg) (sz:=1) (k:=.i64) hi;obtain ⟨p1,p2⟩:=hps _ (List.getElem_mem hi);have hck:=fun H=>ny M hB (l:=ps[i]) p1 p2 H
  have ih:=fun He=>rg0 hB hc (tg:=tg) hn hps k n (i+1) He (by omega)
  simp only [kv_cons,kv_nil] at ih;have hde:=fun e=>vu hc 3 e
  rw [hd,p8];cases c0:dX ps[i].l == 0 with
  |true=>
   rw [sel_true];rw [ak M eF.eq_1];simp (maxSteps:=3000000) (maxDischargeDepth:=6) +contextual -implicitDefEqProofs only [amC M,↓amD,Nat.reduceBEq,Nat.reduceAdd,env,aj,aO,hi,hx,hir,hwi,qPl,hck,c0,ih,Bool.not_true,List.length_map]
  |false=>
   rw [sel_false,c0,sel_false];rw [ak M eF.eq_1];simp (maxSteps:=3000000) (maxDischargeDepth:=6) +contextual -implicitDefEqProofs only [amC M,↓amD,Nat.reduceBEq,Nat.reduceAdd,env,aj,aO,hi,hx,hir,hwi,qPl,hck,c0,hde,Bool.not_false,List.length_map]
theorem rg1{H H0:List AObj}(hc:b5 H0 H){pv:AV}{v6:AV}{a b:List Str}(hab:a.length=b.length)(hl:b.length≤100000000)(k:List Fra):∀ (n j:Nat) (He:List AObj),j+n=b.length →
  M.go bA H0 (.c eG :: .lp ⟨(some [0,6,7,10,11,12]),[],false⟩ eG He :: .blk 4 :: .c (.lv [0,6])::k) (kv [(0,pv),(6,v6),(7,.slice .any 1 (a.map jJ)),(10,.slice .any 1 (b.map jJ)),(11,.int .i64 b.length),(12,.int .i64 j)]) H =
   sel (a.drop j == b.reverse.drop j) (M.go bA H0 k (kv [(0,pv),(6,v6)]) H) (some (.ret (.tuple [.slice .nil 3 [],.int .u8 10]),H.take H0.length))
 |0,j,He,h=>by
  have e:j=b.length:=by omega
  subst e;rw [List.drop_of_length_le (by omega),List.drop_of_length_le (by simp),show (([]:List Str) == [])=true from rfl,sel_true];rw [ak M eG.eq_1];simp (maxSteps:=3000000) (maxDischargeDepth:=6) +contextual -implicitDefEqProofs only [amC M,↓amD,Nat.reduceBEq,Nat.reduceAdd,env,aj,aO,Nat.lt_irrefl]
 |n+1,j,He,h=>by
  have hj:j<b.length:=by omega
  have hja:j<a.length:=by omega
  have hjr:j<b.reverse.length:=by simpa using hj
  have hb:b.length-1-j<b.length:=by omega
  have xa:a[j]?=some a[j]:=List.getElem?_eq_getElem hja;have xb:b[b.length-1-j]?=some b[b.length-1-j]:=List.getElem?_eq_getElem hb;have hra:=aA (row:=jJ) (tag:=.any) (sz:=1) (k:=.i64) hja;have hrb:=aA (row:=jJ) (tag:=.any) (sz:=1) (k:=.i64) hb;have hw1:IntKind.i64.wrap ((b.length:Int)-1)=((b.length-1:Nat):Int):=by rw [bK (by omega) (by omega)];omega
  have hw2:IntKind.i64.wrap (((b.length-1:Nat):Int)-(j:Int))=((b.length-1-j:Nat):Int):=by rw [bK (by omega) (by omega)];omega
  have hwj:=bt (n:=b.length) hj (by simp only [aX];omega);have ih:=fun He=>rg1 hc (pv:=pv) (v6:=v6) hab hl k n (j+1) He (by omega)
  simp only [kv_cons,kv_nil] at ih;have hde:=vu hc 3 10;have er:b.reverse[j]=b[b.length-1-j]:=List.getElem_reverse _;rw [List.drop_eq_getElem_cons hja,List.drop_eq_getElem_cons hjr,List.cons_beq_cons,er];cases he:a[j] == b[b.length-1-j] with
  |true=>
   rw [Bool.true_and];rw [ak M eG.eq_1];simp (maxSteps:=3000000) (maxDischargeDepth:=6) +contextual -implicitDefEqProofs only [amC M,↓amD,Nat.reduceBEq,Nat.reduceAdd,env,aj,aO,hj,hja,hb,xa,xb,hra,hrb,hw1,hw2,hwj,SK,he,ih,Bool.not_true]
  |false=>
   rw [Bool.false_and,sel_false];rw [ak M eG.eq_1];simp (maxSteps:=3000000) (maxDischargeDepth:=6) +contextual -implicitDefEqProofs only [amC M,↓amD,Nat.reduceBEq,Nat.reduceAdd,env,aj,aO,hj,hja,hb,xa,xb,hra,hrb,hw1,hw2,hwj,SK,he,hde,Bool.not_false]
theorem rg2(hC:jT E){H H0:List AObj}(hc:b5 H0 H){ps:List (Sl ag)}{tg:Tag}(hn:ps.length≤1000000)(hps:∀ p∈ps,p.l.length≤100000000)(k:List Fra):∀ (n j:Nat) (He:List AObj),j+1+n=ps.length →
  M.go bA H0 (.c dv :: .lp ⟨(some [0,6]),[],false⟩ dv He :: .blk 2 :: .c (.lv [0])::k) (kv [(0,.slice tg 1 (ps.map dD)),(6,.int .i64 ((j+1:Nat):Int))]) H =
   sel (vQ (ps.drop j)) (M.go bA H0 k (kv [(0,.slice tg 1 (ps.map dD))]) H) (some (.ret (.tuple [.slice .nil 3 [],.int .u8 10]),H.take H0.length))
 |0,j,He,h=>by
  have e:ps.length=j+1:=by omega
  have hj:j<ps.length:=by omega
  have ha:vQ (ps.drop j)=true:=by
   rw [List.drop_eq_getElem_cons hj,List.drop_of_length_le (by omega)];rfl
  rw [ha,sel_true];have hlt:¬ (j+1<ps.length):=by omega
  rw [ak M dv.eq_1];simp (maxSteps:=3000000) (maxDischargeDepth:=6) +contextual -implicitDefEqProofs only [amC M,↓amD,Nat.reduceBEq,Nat.reduceAdd,env,aj,aO,hlt,List.length_map]
 |n+1,j,He,h=>by
  have hj:j<ps.length:=by omega
  have hi:j+1<ps.length:=by omega
  have hxj:ps[j]?=some ps[j]:=List.getElem?_eq_getElem hj;have hxi:ps[j+1]?=some ps[j+1]:=List.getElem?_eq_getElem hi;have hrj:=aA (row:=dD) (tag:=tg) (sz:=1) (k:=.i64) hj;have hri:=aA (row:=dD) (tag:=tg) (sz:=1) (k:=.i64) hi;have hwj:IntKind.i64.wrap (((j+1:Nat):Int)-1)=(j:Int):=by rw [bK (by omega) (by omega)];omega
  have hwi:=bt (n:=ps.length) hi (by simp only [aX];omega);have bj:=hps _ (List.getElem_mem hj);have bi:=hps _ (List.getElem_mem hi);have e1:=fun H=>FX M hC (l:=ps[j].l) (tg:=ps[j].tag) bj H
  have f1:=fun H=>FX M hC (l:=ps[j+1].l) (tg:=ps[j+1].tag) bi H
  have cl:∀ (k:Int) (l:List ag),(gW k l).length≤l.length:=fun k l=>by unfold gW;rw [List.length_map];exact List.length_filter_le _ _
  have c2:=cl 2 ps[j+1].l;have hde:=vu hc 3 10;have hd:ps.drop j=ps[j]::ps[j+1]::ps.drop (j+1+1):=by rw [List.drop_eq_getElem_cons hj,List.drop_eq_getElem_cons hi]
  have ha:vQ (ps.drop j)=((gW 3 ps[j].l == (gW 2 ps[j+1].l).reverse)&&vQ (ps.drop (j+1))):=by
   rw [hd,I3,List.drop_eq_getElem_cons hi]
  have ih:=fun He=>rg2 hC hc (tg:=tg) hn hps k n (j+1) He (by omega)
  simp only [kv_cons,kv_nil] at ih;rw [ha]
  by_cases hab:(gW 3 ps[j].l).length=(gW 2 ps[j+1].l).length
  ·have hq:((((gW 3 ps[j].l).length:Nat):Int) == (((gW 2 ps[j+1].l).length:Nat):Int))=true:=by rw [hab];simp
   have hq':((gW 3 ps[j].l).length == (gW 2 ps[j+1].l).length)=true:=by rw [hab];simp
   have r1:=fun k He=>rg1 M hc (pv:=.slice tg 1 (ps.map dD)) (v6:=.int .i64 ((j+1:Nat):Int)) hab (by omega) k (gW 2 ps[j+1].l).length 0 He (by omega)
   simp only [kv_cons,kv_nil,Int.ofNat_zero,List.drop_zero] at r1;cases c0:gW 3 ps[j].l == (gW 2 ps[j+1].l).reverse with
   |false=>
    simp only [c0,sel_false] at r1;rw [Bool.false_and,sel_false];rw [ak M dv.eq_1];simp (maxSteps:=3000000) (maxDischargeDepth:=6) +contextual -implicitDefEqProofs only [amC M,↓amD,Nat.reduceBEq,Nat.reduceAdd,env,aj,aO,hi,hj,hxj,hxi,hrj,hri,hwj,hwi,qPl,List.length_map,e1,f1,hq,hq',r1,bQ,List.getElem?_cons_zero,List.getElem?_cons_succ,Bool.not_true]
   |true=>
    simp only [c0,sel_true] at r1;rw [Bool.true_and];rw [ak M dv.eq_1];simp (maxSteps:=3000000) (maxDischargeDepth:=6) +contextual -implicitDefEqProofs only [amC M,↓amD,Nat.reduceBEq,Nat.reduceAdd,env,aj,aO,hi,hj,hxj,hxi,hrj,hri,hwj,hwi,qPl,List.length_map,e1,f1,hq,hq',r1,ih,bQ,List.getElem?_cons_zero,List.getElem?_cons_succ,Bool.not_true]
  ·have hq:((((gW 3 ps[j].l).length:Nat):Int) == (((gW 2 ps[j+1].l).length:Nat):Int))=false:=beq_eq_false_iff_ne.2 (by omega)
   have hq':((gW 3 ps[j].l).length == (gW 2 ps[j+1].l).length)=false:=beq_eq_false_iff_ne.2 hab;have c0:(gW 3 ps[j].l == (gW 2 ps[j+1].l).reverse)=false:=beq_eq_false_iff_ne.2 fun e=>hab (by rw [e,List.length_reverse])
   rw [c0,Bool.false_and,sel_false];rw [ak M dv.eq_1];simp (maxSteps:=3000000) (maxDischargeDepth:=6) +contextual -implicitDefEqProofs only [amC M,↓amD,Nat.reduceBEq,Nat.reduceAdd,env,aj,aO,hi,hj,hxj,hxi,hrj,hri,hwj,hwi,qPl,List.length_map,e1,f1,hq,hq',hde,bQ,List.getElem?_cons_zero,List.getElem?_cons_succ,Bool.not_false]
theorem rg3(hC:jT E){H0:List AObj}{ps:List (Sl ag)}{tgp:Tag}(hnp:ps.length≤1000000){i:Nat}(hi0:i<ps.length)(hpl:ps[i].l.length≤100000000):∀ (n j m:Nat) (H:List AObj) (v:AV) (cur:List ag),j+n=ps[i].l.length→PcV H v cur→free (fun q=>q<H0.length) v→H0.length≤H.length→(∀ q,q<H0.length→H[q]?=H0[q]?)→vR m cur→m+szQ (ps[i].l.drop j)≤100000000 →
  ∃ H' v',(∀ (k:List Fra) (He:List AObj),M.go bA H0 (.c bw :: .lp ⟨(some [0,13,14,15]),[],false⟩ bw He :: .blk 8 :: .c (.lv [0,13,14])::k) (kv [(0,.slice tgp 1 (ps.map dD)),(13,v),(14,.int .i64 i),(15,.int .i64 j)]) H=M.go bA H0 k (kv [(0,.slice tgp 1 (ps.map dD)),(13,v'),(14,.int .i64 i)]) H')∧PcV H' v' (glue1 ps.length i cur (ps[i].l.drop j))∧free (fun q=>q<H0.length) v'∧H0.length≤H'.length∧(∀ q,q<H0.length→H'[q]?=H0[q]?)
 |0,j,m,H,v,cur,h,hv,hf,hle,hlow,hb,hm=>by
  have e:j=ps[i].l.length:=by omega
  have hx:ps[i]?=some ps[i]:=List.getElem?_eq_getElem hi0;have hri:=aA (row:=dD) (tag:=tgp) (sz:=1) (k:=.i64) hi0;have hlt:¬ j<ps[i].l.length:=by omega
  refine ⟨H,v,fun k He => ?_,by rw [List.drop_of_length_le (by omega)];exact hv,hf,hle,hlow⟩;rw [ak M bw.eq_1];simp (maxSteps:=3000000) (maxDischargeDepth:=6) +contextual -implicitDefEqProofs only [amC M,↓amD,Nat.reduceBEq,Nat.reduceAdd,env,aj,aO,hi0,hx,hri,qPl,List.length_map,hlt]
 |n+1,j,m,H,v,cur,h,hv,hf,hle,hlow,hb,hm=>by
  have hj:j<ps[i].l.length:=by omega
  have hxi:ps[i]?=some ps[i]:=List.getElem?_eq_getElem hi0;have hri:=aA (row:=dD) (tag:=tgp) (sz:=1) (k:=.i64) hi0;have hd:=List.drop_eq_getElem_cons hj;have hx:=List.getElem?_eq_getElem hj;have hwj:=bt (n:=ps[i].l.length) hj (by simp only [aX];omega);have hir:=aA (row:=ag.row) (tag:=ps[i].tag) (sz:=3) (k:=.i64) hj;have hwl:IntKind.i64.wrap ((ps.length:Int)-1)=((ps.length-1:Nat):Int):=by rw [bK (by omega) (by omega)];omega
  rw [hd] at hm ⊢;rw [Ee] at hm;generalize hpc:ps[i].l[j]=pc at *
  have gx:=aL H [AObj.cells pc.row ah];rw [List.getElem?_cons_zero] at gx;have h1:PcV (H++[AObj.cells pc.row ah]) v cur:=hv.stay fun Q cs _ hQ=>bD hQ
  have hgi:=Lg (n:=0) (i:=i) pc;show ∃ H' v',_∧PcV H' v' (glue1 ps.length i (sel (sN ps.length i pc) cur (jH cur pc)) (ps[i].l.drop (j+1)))∧_;have le1:H0.length≤(H++[AObj.cells pc.row ah]).length:=by simp;omega
  have low1:∀ q,q<H0.length→(H++[AObj.cells pc.row ah])[q]?=H0[q]? := fun q hq=>by rw [List.getElem?_append_left (by omega),hlow q hq]
  obtain ⟨w,G,p1,p2,p3,p4,p5,p6⟩:=K8 M hC h1 (by have:=hb.1;omega) (fun x hx=>by have:=hb.2 x hx;omega) (p:=pc) (by omega)
  have step:∃ G1 v1,(∀ (k:List Fra) (He:List AObj),M.go bA H0 (.c bw :: .lp ⟨(some [0,13,14,15]),[],false⟩ bw He :: .blk 8 :: .c (.lv [0,13,14])::k) (kv [(0,.slice tgp 1 (ps.map dD)),(13,v),(14,.int .i64 i),(15,.int .i64 j)]) H =
    M.go bA H0 (.c bw :: .lp ⟨(some [0,13,14,15]),[],false⟩ bw G1 :: .blk 8 :: .c (.lv [0,13,14])::k) (kv [(0,.slice tgp 1 (ps.map dD)),(13,v1),(14,.int .i64 i),(15,.int .i64 ((j+1:Nat):Int))]) G1)∧PcV G1 v1 (sel (sN ps.length i pc) cur (jH cur pc))∧free (fun q=>q<H0.length) v1∧H0.length≤G1.length∧(∀ q,q<H0.length→G1[q]?=H0[q]?):=by
   have low2:∀ q,q<H0.length→G[q]?=H0[q]? := fun q hq=>by
    have hq1:q<(H++[AObj.cells pc.row ah]).length:=by omega
    rw [← low1 q hq,List.getElem?_eq_getElem hq1];exact p6 q _ (List.getElem?_eq_getElem hq1) fun Q e ei=>hf Q _ _ _ _ e (by omega)
   have fw:free (fun q=>q<H0.length) w:=fun Q o n e r eq hlt=>by
    rcases p4 Q o n e r eq with h | h
    ·exact hf Q o n e r (by rw [← h,eq]) hlt
    ·omega
   cases hsk:sN ps.length i pc with
   |true=>
    rw [sel_true];unfold sN at hsk;rw [Bool.and_eq_true] at hsk;obtain ⟨hs1,hs2⟩:=hsk;refine ⟨_,v,fun k He => ?_,h1,hf,le1,low1⟩;cases k2:pc.kind == 2 with
    |true=>
     have k3:(pc.kind == 3)=false:=by rw [eq_of_beq k2];rfl
     rw [k2,k3,Bool.true_and,Bool.false_and,Bool.or_false] at hs2;rw [hs2] at hgi;rw [ak M bw.eq_1];simp (maxSteps:=3000000) (maxDischargeDepth:=6) +contextual -implicitDefEqProofs only [amC M,↓amD,Nat.reduceBEq,Nat.reduceAdd,env,aj,aO,amG,AV.cell,Nat.reduceMul,Nat.reduceLeDiff,hi0,hxi,hri,hj,hx,hpc,hir,hwj,hwl,qPl,List.length_map,aW,gx,hs1,k2,k3,hgi,Bool.not_true]
    |false=>
     cases k3:pc.kind == 3 with
     |false=>rw [k2,k3] at hs2;cases hs2
     |true=>
      rw [k2,k3,Bool.true_and,Bool.false_and,Bool.false_or] at hs2;have hlt:i<ps.length-1:=by have:=of_decide_eq_true hs2;omega
      rw [ak M bw.eq_1];simp (maxSteps:=3000000) (maxDischargeDepth:=6) +contextual -implicitDefEqProofs only [amC M,↓amD,Nat.reduceBEq,Nat.reduceAdd,env,aj,aO,amG,AV.cell,Nat.reduceMul,Nat.reduceLeDiff,hi0,hxi,hri,hj,hx,hpc,hir,hwj,hwl,qPl,List.length_map,aW,gx,hs1,k2,k3,hlt,Bool.not_true]
   |false=>
    rw [sel_false];unfold sN at hsk;refine ⟨G,w,fun k He => ?_,p2,fw,by omega,low2⟩;cases kc:pc.car with
    |false=>
     rw [ak M bw.eq_1];simp (maxSteps:=3000000) (maxDischargeDepth:=6) +contextual -implicitDefEqProofs only [amC M,↓amD,Nat.reduceBEq,Nat.reduceAdd,env,aj,aO,amG,AV.cell,Nat.reduceMul,Nat.reduceLeDiff,hi0,hxi,hri,hj,hx,hpc,hir,hwj,hwl,qPl,List.length_map,aW,gx,kc,p1,Bool.not_false]
    |true=>
     rw [kc,Bool.true_and] at hsk;cases k2:pc.kind == 2 with
     |true=>
      have k3:(pc.kind == 3)=false:=by rw [eq_of_beq k2];rfl
      rw [k2,k3,Bool.true_and,Bool.false_and,Bool.or_false] at hsk;rw [hsk] at hgi;rw [ak M bw.eq_1];simp (maxSteps:=3000000) (maxDischargeDepth:=6) +contextual -implicitDefEqProofs only [amC M,↓amD,Nat.reduceBEq,Nat.reduceAdd,env,aj,aO,amG,AV.cell,Nat.reduceMul,Nat.reduceLeDiff,hi0,hxi,hri,hj,hx,hpc,hir,hwj,hwl,qPl,List.length_map,aW,gx,kc,k2,k3,hgi,p1,Bool.not_false]
     |false=>
      rw [k2,Bool.false_and,Bool.false_or] at hsk;cases k3:pc.kind == 3 with
      |false=>
       rw [ak M bw.eq_1];simp (maxSteps:=3000000) (maxDischargeDepth:=6) +contextual -implicitDefEqProofs only [amC M,↓amD,Nat.reduceBEq,Nat.reduceAdd,env,aj,aO,amG,AV.cell,Nat.reduceMul,Nat.reduceLeDiff,hi0,hxi,hri,hj,hx,hpc,hir,hwj,hwl,qPl,List.length_map,aW,gx,kc,k2,k3,p1,Bool.not_false]
      |true=>
       rw [k3,Bool.true_and] at hsk;have hlt:¬ (i<ps.length-1):=by have:=of_decide_eq_false hsk;omega
       rw [ak M bw.eq_1];simp (maxSteps:=3000000) (maxDischargeDepth:=6) +contextual -implicitDefEqProofs only [amC M,↓amD,Nat.reduceBEq,Nat.reduceAdd,env,aj,aO,amG,AV.cell,Nat.reduceMul,Nat.reduceLeDiff,hi0,hxi,hri,hj,hx,hpc,hir,hwj,hwl,qPl,List.length_map,aW,gx,kc,k2,k3,hlt,p1,Bool.not_false]
  obtain ⟨G1,v1,o1,o2,o3,o4,o5⟩:=step
  have hb2:vR (m+(pc.text.length+1)) (sel (sN ps.length i pc) cur (jH cur pc)):=by
   cases sN ps.length i pc
   ·exact hb.put pc
   ·exact hb.mono (by omega)
  obtain ⟨H2,v2,i1,i2,i3,i4,i5⟩:=rg3 hC (H0:=H0) (tgp:=tgp) hnp hi0 hpl n (j+1) (m+(pc.text.length+1)) G1 v1 _ (by omega) o2 o3 o4 o5 hb2 (by omega);exact ⟨H2,v2,fun k He=>by rw [o1 k He,i1 k G1],i2,i3,i4,i5⟩
theorem rg4(hC:jT E){H0:List AObj}{ps:List (Sl ag)}{tgp:Tag}(hnp:ps.length≤1000000)(hps:∀ p∈ps,p.l.length≤100000000):∀ (n i m:Nat) (H:List AObj) (v:AV) (cur:List ag),i+n=ps.length→PcV H v cur→free (fun q=>q<H0.length) v→H0.length≤H.length→(∀ q,q<H0.length→H[q]?=H0[q]?)→vR m cur→m+szL (ps.drop i)≤100000000 →
  ∃ H' v',(∀ (k:List Fra) (He:List AObj),M.go bA H0 (.c fK :: .lp ⟨(some [0,13,14]),[],false⟩ fK He :: .blk 6 :: .c (.lv [13])::k) (kv [(0,.slice tgp 1 (ps.map dD)),(13,v),(14,.int .i64 i)]) H=M.go bA H0 k (kv [(13,v')]) H')∧PcV H' v' (ur ps.length i cur (ps.drop i))∧free (fun q=>q<H0.length) v'∧H0.length≤H'.length∧(∀ q,q<H0.length→H'[q]?=H0[q]?)
 |0,i,m,H,v,cur,h,hv,hf,hle,hlow,hb,hm=>by
  have e:i=ps.length:=by omega
  subst e;refine ⟨H,v,fun k He => ?_,by rw [List.drop_length];exact hv,hf,hle,hlow⟩;rw [ak M fK.eq_1];simp (maxSteps:=3000000) (maxDischargeDepth:=6) +contextual -implicitDefEqProofs only [amC M,↓amD,Nat.reduceBEq,Nat.reduceAdd,env,aj,aO,Nat.lt_irrefl,List.length_map]
 |n+1,i,m,H,v,cur,h,hv,hf,hle,hlow,hb,hm=>by
  have hi:i<ps.length:=by omega
  have hd:(ps.drop i)=ps[i]::ps.drop (i+1):=List.drop_eq_getElem_cons hi;have hwi:=bt (n:=ps.length) hi (by simp only [aX];omega);have bi:=hps _ (List.getElem_mem hi);rw [hd] at hm ⊢;rw [Ef] at hm;obtain ⟨H1,v1,a1,a2,a3,a4,a5⟩:=rg3 M hC (H0:=H0) (tgp:=tgp) hnp hi bi ps[i].l.length 0 m H v cur (by omega) hv hf hle hlow hb (by rw [List.drop_zero];omega);rw [List.drop_zero] at a2;have hb2:=vR.glue1 (n:=ps.length) (i:=i) ps[i].l hb
  obtain ⟨H2,v2,i1,i2,i3,i4,i5⟩:=rg4 hC (H0:=H0) (tgp:=tgp) hnp hps n (i+1) (m+szQ ps[i].l) H1 v1 _ (by omega) a2 a3 a4 a5 hb2 (by omega);refine ⟨H2,v2,fun k He => ?_,i2,i3,i4,i5⟩;simp only [kv_cons,kv_nil,Int.ofNat_zero] at a1 i1;rw [ak M fK.eq_1];simp (maxSteps:=3000000) (maxDischargeDepth:=6) +contextual -implicitDefEqProofs only [amC M,↓amD,Nat.reduceBEq,Nat.reduceAdd,env,aj,aO,hi,hwi,a1,i1,List.length_map]
theorem MH(hB:gA E)(hC:jT E){ps:List (Sl ag)}{tg:Tag}(hn:ps.length≤1000000)(hps:∀ p∈ps,p.l.length≤1000000∧nz p.l)(hsz:szL ps≤100000000)(H:List AObj) :
  M.run mj [.slice tg 1 (ps.map dD)] H=some (.ret (zY ps),H):=by
 have deS:=fun e=>vu (cut_refl H) 3 e
 simp only [hp_self] at deS;rw [br M hC.truchmanref01_Glue rfl (c:=mK) rfl,mK]
 by_cases h0:ps.length=0
 ·have d0:decide (ps.length=0)=true:=decide_eq_true h0
  have q0:(((ps.length:Nat):Int) == 0)=true:=by rw [h0];rfl
  simp (maxSteps:=3000000) (maxDischargeDepth:=6) +contextual -implicitDefEqProofs only [amC M,↓amD,Nat.reduceBEq,Nat.reduceAdd,env,aj,aO,List.length_map,q0,deS,zY,d0]
 ·have d0:decide (ps.length=0)=false:=decide_eq_false h0
  have q0:(((ps.length:Nat):Int) == 0)=false:=beq_eq_false_iff_ne.2 (by omega);have g0:=fun k He=>rg0 M hB (cut_refl H) (tg:=tg) hn hps k ps.length 0 He (by omega)
  simp only [kv_cons,kv_nil,Int.ofNat_zero,List.drop_zero,hp_self] at g0;cases c0:p8 ps == 0 with
  |false=>
   simp only [c0,sel_false] at g0;simp (maxSteps:=3000000) (maxDischargeDepth:=6) +contextual -implicitDefEqProofs only [amC M,↓amD,Nat.reduceBEq,Nat.reduceAdd,env,aj,aO,List.length_map,q0,g0,zY,d0,c0]
  |true=>
   simp only [c0,sel_true] at g0;have g1:=fun k He=>rg2 M hC (cut_refl H) (tg:=tg) hn (fun p hp=>by have:=(hps p hp).1;omega) k (ps.length-1) 0 He (by omega)
   simp only [kv_cons,kv_nil,(show (((0+1:Nat)):Int)=1 from rfl),List.drop_zero,hp_self] at g1;cases c1:vQ ps with
   |false=>
    simp only [c1,sel_false] at g1;simp (maxSteps:=3000000) (maxDischargeDepth:=6) +contextual -implicitDefEqProofs only [amC M,↓amD,Nat.reduceBEq,Nat.reduceAdd,env,aj,aO,List.length_map,q0,g0,g1,zY,d0,c0,c1]
   |true=>
    simp only [c1,sel_true] at g1;obtain ⟨G3,v,s1,s2,s3,s4,s5⟩:=rg4 M hC (H0:=H) (tgp:=tg) hn (fun p hp=>by have:=(hps p hp).1;omega) ps.length 0 0 H (.slice .nil 3 []) [] (by omega) (.inl ⟨rfl,rfl⟩) (fun Q o n e r eq=>(by cases eq)) (Nat.le_refl _) (fun _ _=>rfl) ⟨Nat.le_refl _,fun x hx=>(by cases hx)⟩ (by rw [List.drop_zero];omega);rw [List.drop_zero] at s2;obtain ⟨hcut,htk⟩:=rY s4 s5;generalize hcu:ur ps.length 0 [] ps=cur at s2
    have hlv:=fun G=>AS (G:=G) s2
    simp only [kv_cons,kv_nil,Int.ofNat_zero] at s1;have hbig:decide ((512:Int)<((cur.length:Nat):Int))=nR cur:=rfl;have hde:=vu hcut 3 3;rw [htk] at hde;have hfz:=kx hcut (v:=.tuple [v,.int .u8 0]) ⟨6,ph (b6 (K7 s2 s3) (b6 (uM _ _ _ _ _) (dQ _)))⟩;rw [htk] at hfz;cases c2:nR cur with
    |true=>
     simp (maxSteps:=3000000) (maxDischargeDepth:=6) +contextual -implicitDefEqProofs only [amC M,↓amD,Nat.reduceBEq,Nat.reduceAdd,env,aj,aO,List.length_map,q0,g0,g1,zY,d0,c0,c1,hcu,s1,hlv,hbig,c2,hde]
    |false=>
     simp (maxSteps:=3000000) (maxDischargeDepth:=6) +contextual -implicitDefEqProofs only [amC M,↓amD,Nat.reduceBEq,Nat.reduceAdd,env,aj,aO,List.length_map,q0,g0,g1,zY,d0,c0,c1,hcu,s1,hlv,hbig,c2,hfz]
end
section
attribute [local congr] aI bR aZ aJ aY aR aK aC aD aS aT
variable{E:bG}(M:cJ cM E)
theorem SY:(∀ p:List ag,bn none (plR p) 0=some (.slice (pO p) 3 (p.map ag.row))):=fun _=>rfl
end
section
attribute [local congr] aI bR aZ aJ aY aR aK aC aD aS aT
variable{E:bG}(M:cJ cM E)
structure qO (E:bG):Prop where
 truchmanlaw01_vast:E.fn mb=some gG
 truchmanlaw01_many:E.fn mg=some gH
 slices_IndexFunc_api_Piece_api_Piece_1:E.fn dM=some bh
 slices_ContainsFunc_api_Piece_api_Piece_1:E.fn cj=some dh
 docs_whole_1:E.fn sn=some sw
 docs_whole:E.fn rL=some uU
 docs_raw_1:E.fn uO=some u0
 docs_raw:E.fn yn=some yt
 docs_Check:E.fn rK=some pz
 docs_Segments:E.fn qU=some iv
 truchmanref01_Whole:E.fn jg=some gd
 truchmanref01_bare:E.fn mz=some gU
 truchmanref01_inBlock:E.fn j6=some kf
 truchmanref01_Check:E.fn jf=some fZ
 truchmanref01_Segments:E.fn jK=some cW
 truchmanref01_SameSegments:E.fn im=some dA
 slices_Clone_api_Piece_api_Piece:E.fn eT=some eX
 docs_Restore:E.fn sj=some cS
 truchmanref01_Restore:E.fn jY=some bk
 truchmanref01_Same:E.fn mh=some gI
 truchmanlaw01_DocsSegments:E.fn il=some iu
def vsN(m:Nat)(l:List aF):Nat:=l.foldl (fun m b=>m+b.pieces.l.length+(oE b.pieces.l).length) m
def vsB(l:List aF):Bool:=l.any fun b=>yb [b.pieces]
def I4(l:List aF):Bool:=sel (vsB (l.take 300)) true (decide (3500<vsN l.length (l.take 300)))
theorem vst(hB:gA E)(hU:fT E){bl:List aF}{tg:Tag}(hbl:bl.length≤aX)(hok:∀ b∈bl,b.pieces.ok 0 (ag.ok 0)){H0 H:List AObj}(hc:b5 H0 H){p:Nat}(hp:H[p]?=some (.cells [.slice tg 2 (bl.map aF.row)] ae))(k:List Fra):∀ (n i m:Nat) (He:List AObj),i+n=(bl.take 300).length→m≤aX+i*10000 →
  M.go gG H0 (.c dt :: .lp ⟨(some [1,3,4]),[],false⟩ dt He :: .blk 0 :: .c (.lv [3])::k) (kv [(1,.ptr p 0),(3,.int .i64 m),(4,.int .i64 i)]) H =
   sel (vsB ((bl.take 300).drop i)) (some (.ret (.bool true),H.take H0.length)) (M.go gG H0 k (kv [(3,.int .i64 (vsN m ((bl.take 300).drop i):Nat))]) H)
 |0,i,m,He,h,hm=>by
  rw [List.drop_of_length_le (by omega),show vsB []=false from rfl,sel_false,show vsN m []=m from rfl];rw [List.length_take] at h;have l1:∀ x:AV,bn none [x] 0=some x:=fun _=>rfl
  by_cases hi:i<bl.length
  ·have d3:decide ((i:Int)<300)=false:=decide_eq_false (by omega)
   rw [ak M dt.eq_1];simp (maxSteps:=3000000) (maxDischargeDepth:=6) +contextual -implicitDefEqProofs only [amC M,↓amD,Nat.reduceBEq,Nat.reduceAdd,env,aj,fg,hp,l1,List.length_map,hi,d3]
  ·rw [ak M dt.eq_1]
   simp (maxSteps:=3000000) (maxDischargeDepth:=6) +contextual -implicitDefEqProofs only [amC M,↓amD,Nat.reduceBEq,Nat.reduceAdd,env,aj,fg,hp,l1,List.length_map,hi]
 |n+1,i,m,He,h,hm=>by
  have hit:i<(bl.take 300).length:=by omega
  have hi:i<bl.length:=by rw [List.length_take] at hit;omega
  have h3:i<300:=by rw [List.length_take] at hit;omega
  have hx:bl[i]?=some bl[i]:=List.getElem?_eq_getElem hi;have hd:((bl.take 300).drop i)=bl[i]::(bl.take 300).drop (i+1):=by rw [List.drop_eq_getElem_cons hit,List.getElem_take]
  have d3:decide ((i:Int)<300)=true:=decide_eq_true (by omega);have l1:∀ x:AV,bn none [x] 0=some x:=fun _=>rfl
  have hwi:=bt (n:=bl.length) hi hbl;have hir:=aA (row:=aF.row) (tag:=tg) (sz:=2) (k:=.i64) hi;have hk:=hok _ (List.getElem_mem hi);have hlg:=fun H=>FP M hB hk H
  rw [hd,show vsB (bl[i]::(bl.take 300).drop (i+1))=(yb [bl[i].pieces]||vsB ((bl.take 300).drop (i+1))) from rfl];cases c0:yb [bl[i].pieces] with
  |true=>
   rw [Bool.true_or,sel_true];rw [ak M dt.eq_1];simp (maxSteps:=3000000) (maxDischargeDepth:=6) +contextual -implicitDefEqProofs only [amC M,↓amD,Nat.reduceBEq,Nat.reduceAdd,env,aj,fg,amG,AV.cell,Nat.reduceMul,Nat.reduceLeDiff,hp,l1,List.length_map,hi,hx,d3,hir,ct,ec,hlg,c0,hc]
  |false=>
   have hlo:=AQ c0;have hpl:=D4 bl[i].pieces.l;have hpr:=fun H=>Mt M hU (l:=bl[i].pieces.l) (tg:=bl[i].pieces.tag) hk.len (by omega) H
   have hw1:IntKind.i64.wrap ((m:Int)+(bl[i].pieces.l.length:Int))=((m+bl[i].pieces.l.length:Nat):Int):=by rw [bK (by omega) (by simp only [aX] at hm;omega)];omega
   have hw2:IntKind.i64.wrap (((m+bl[i].pieces.l.length:Nat):Int)+((oE bl[i].pieces.l).length:Int))=((m+bl[i].pieces.l.length+(oE bl[i].pieces.l).length:Nat):Int):=by rw [bK (by omega) (by simp only [aX] at hm;omega)];omega
   have ih:=fun He=>vst hB hU hbl hok hc hp k n (i+1) (m+bl[i].pieces.l.length+(oE bl[i].pieces.l).length) He (by omega) (by omega)
   simp only [kv_cons,kv_nil] at ih;rw [Bool.false_or,show vsN m (bl[i]::(bl.take 300).drop (i+1))=vsN (m+bl[i].pieces.l.length+(oE bl[i].pieces.l).length) ((bl.take 300).drop (i+1)) from rfl];rw [ak M dt.eq_1];simp (maxSteps:=3000000) (maxDischargeDepth:=6) +contextual -implicitDefEqProofs only [amC M,↓amD,Nat.reduceBEq,Nat.reduceAdd,env,aj,fg,amG,AV.cell,Nat.reduceMul,Nat.reduceLeDiff,hp,l1,List.length_map,hi,hx,d3,hir,ct,ec,hlg,c0,hpr,hw1,hw2,hwi,ih]
theorem OL(hB:gA E)(hU:fT E)(hS:qO E){d:Docu}(hd:d.ok 0)(H:List AObj):M.run mb [.agg d.row] H=some (.ret (.bool (I4 d.blocks.l)),H):=by
 have gx:=aL H [AObj.cells d.row ae];rw [List.getElem?_cons_zero] at gx;have h1:=fun k He=>vst M hB hU hd.blocks.len (fun b hb=>(hd.blocks.all b hb).pieces) (cut_app H [AObj.cells d.row ae]) gx k (d.blocks.l.take 300).length 0 d.blocks.l.length He (by omega) (by have:=hd.blocks.len;omega)
 simp only [kv_cons,kv_nil,Int.ofNat_zero,List.drop_zero,hp_take] at h1;have l1:∀ x:AV,bn none [x] 0=some x:=fun _=>rfl
 have h2:decide ((3500:Int)<(vsN d.blocks.l.length (d.blocks.l.take 300):Int))=decide (3500<vsN d.blocks.l.length (d.blocks.l.take 300)):=by rw [Bool.eq_iff_iff];simp;omega
 rw [br M hS.truchmanlaw01_vast rfl (c:=mF) rfl,mF];unfold I4;cases c:vsB (d.blocks.l.take 300) with
 |true=>
  simp only [c,sel_true] at h1;simp (maxSteps:=3000000) (maxDischargeDepth:=6) +contextual -implicitDefEqProofs only [amC M,↓amD,Nat.reduceBEq,Nat.reduceAdd,env,aj,fg,amG,AV.cell,Nat.reduceMul,Nat.reduceLeDiff,gx,iR,List.length_map,h1]
 |false=>
  simp only [c,sel_false] at h1;simp (maxSteps:=3000000) (maxDischargeDepth:=6) +contextual -implicitDefEqProofs only [amC M,↓amD,Nat.reduceBEq,Nat.reduceAdd,env,aj,fg,amG,AV.cell,Nat.reduceMul,Nat.reduceLeDiff,gx,iR,List.length_map,h1,h2,hp_take,cut_app]
def zZ:Nat→List bq→Bool
 |_,[]=>false
 |n,s::l=>sel (decide (3000<n+1+s.pieces.l.length)||yb [s.pieces]) true (zZ (n+1+s.pieces.l.length) l)
theorem mny(hB:gA E){sl:List bq}{tg:Tag}(hsl:sl.length≤aX)(hok:∀ b∈sl,b.pieces.ok 0 (ag.ok 0)){H0 H:List AObj}(hc:b5 H0 H)(k:List Fra):∀ (n i m:Nat) (He:List AObj),i+n=sl.length→m≤3000 →
  M.go gH H0 (.c du :: .lp ⟨(some [0,3,4]),[],false⟩ du He :: .blk 0 :: .c (.lv [])::k) (kv [(0,.slice tg 2 (sl.map bq.row)),(3,.int .i64 m),(4,.int .i64 i)]) H =
   sel (zZ m (sl.drop i)) (some (.ret (.bool true),H.take H0.length)) (M.go gH H0 k (kv []) H)
 |0,i,m,He,h,hm=>by
  have e:i=sl.length:=by omega
  subst e;rw [List.drop_length,zZ,sel_false];rw [ak M du.eq_1];simp (maxSteps:=3000000) (maxDischargeDepth:=6) +contextual -implicitDefEqProofs only [amC M,↓amD,Nat.reduceBEq,Nat.reduceAdd,env,aj,fh,List.length_map,Nat.lt_irrefl]
 |n+1,i,m,He,h,hm=>by
  have hi:i<sl.length:=by omega
  have hx:sl[i]?=some sl[i]:=List.getElem?_eq_getElem hi;have hd:(sl.drop i)=sl[i]::sl.drop (i+1):=List.drop_eq_getElem_cons hi;have hwi:=bt (n:=sl.length) hi hsl;have hir:=aA (row:=bq.row) (tag:=tg) (sz:=2) (k:=.i64) hi;have hk:=hok _ (List.getElem_mem hi);have hkl:=hk.len;have hlg:=fun H=>FP M hB hk H
  have hw1:IntKind.i64.wrap ((m:Int)+1)=((m+1:Nat):Int):=by rw [bK (by omega) (by omega)];omega
  have hw2:IntKind.i64.wrap (((m+1:Nat):Int)+(sl[i].pieces.l.length:Int))=((m+1+sl[i].pieces.l.length:Nat):Int):=by rw [bK (by omega) (by simp only [aX] at hkl;omega)];omega
  have hdd:decide ((3000:Int)<((m+1+sl[i].pieces.l.length:Nat):Int))=decide (3000<m+1+sl[i].pieces.l.length):=by rw [Bool.eq_iff_iff];simp;omega
  rw [hd,zZ];cases c1:decide (3000<m+1+sl[i].pieces.l.length) with
  |true=>
   rw [c1] at hdd;rw [Bool.true_or,sel_true,sel_true];rw [ak M du.eq_1];simp (maxSteps:=3000000) (maxDischargeDepth:=6) +contextual -implicitDefEqProofs only [amC M,↓amD,Nat.reduceBEq,Nat.reduceAdd,env,aj,fh,amG,AV.cell,Nat.reduceMul,Nat.reduceLeDiff,List.length_map,hi,hx,hir,ks,hw1,hw2,hdd,hc]
  |false=>
   rw [c1] at hdd;rw [Bool.false_or];cases c2:yb [sl[i].pieces] with
   |true=>
    rw [sel_true,sel_true];rw [ak M du.eq_1];simp (maxSteps:=3000000) (maxDischargeDepth:=6) +contextual -implicitDefEqProofs only [amC M,↓amD,Nat.reduceBEq,Nat.reduceAdd,env,aj,fh,amG,AV.cell,Nat.reduceMul,Nat.reduceLeDiff,List.length_map,hi,hx,hir,ks,ec,hlg,c2,hw1,hw2,hdd,hc]
   |false=>
    have hle:=of_decide_eq_false c1;have ih:=fun He=>mny hB hsl hok hc (tg:=tg) k n (i+1) (m+1+sl[i].pieces.l.length) He (by omega) (by omega)
    simp only [kv_cons,kv_nil] at ih;rw [sel_false];rw [ak M du.eq_1];simp (maxSteps:=3000000) (maxDischargeDepth:=6) +contextual -implicitDefEqProofs only [amC M,↓amD,Nat.reduceBEq,Nat.reduceAdd,env,aj,fh,amG,AV.cell,Nat.reduceMul,Nat.reduceLeDiff,List.length_map,hi,hx,hir,ks,ec,hlg,c2,hw1,hw2,hdd,hwi,ih]
theorem OM(hB:gA E)(hS:qO E){s:Sl bq}(hs:s.ok 0 (bq.ok 0))(H:List AObj):M.run mg [.slice s.tag 2 (s.l.map bq.row)] H=some (.ret (.bool (zZ 0 s.l)),H):=by
 have h1:=fun k He=>mny M hB hs.len (fun b hb=>(hs.all b hb).pieces) (tg:=s.tag) (cut_refl H) k s.l.length 0 0 He (by omega) (by omega)
 simp only [kv_cons,kv_nil,Int.ofNat_zero,List.drop_zero,hp_self] at h1;rw [br M hS.truchmanlaw01_many rfl (c:=mG) rfl,mG];cases c:zZ 0 s.l with
 |true=>
  simp only [c,sel_true] at h1;simp (maxSteps:=3000000) (maxDischargeDepth:=6) +contextual -implicitDefEqProofs only [amC M,↓amD,Nat.reduceBEq,Nat.reduceAdd,env,aj,fh,h1]
 |false=>
  simp only [c,sel_false] at h1;simp (maxSteps:=3000000) (maxDischargeDepth:=6) +contextual -implicitDefEqProofs only [amC M,↓amD,Nat.reduceBEq,Nat.reduceAdd,env,aj,fh,h1,hp_self,cut_refl]
end
section
attribute [local congr] aI bR aZ aJ aY aR aK aC aD aS aT
variable{E:bG}(M:cJ cM E)
theorem ixp(hS:qO E){g:FuncId}{q:ag→Bool}(hg:∀ (x:ag) H,M.run g [.agg x.row] H=some (.ret (.bool (q x)),H)){G H0:List AObj}(hc:b5 H0 G){l:List ag}{tg:Tag}(hb:l.length≤aX):∀ (n i:Nat),i+n=l.length →
  sel ((l.drop i).any q) (∃ j:Nat,∀ (k:List Fra) (He:List AObj),M.go bh H0 (.c aE :: .lp ⟨(some [0,1,7,8]),[],false⟩ aE He :: .blk 0 :: .c (.lv [])::k) (kv [(0,.slice tg 3 (l.map ag.row)),(1,.fn (.func g) [] []),(7,.int .i64 l.length),(8,.int .i64 i)]) G=some (.ret (.int .i64 j),G.take H0.length))
   (∀ (k:List Fra) (He:List AObj),M.go bh H0 (.c aE :: .lp ⟨(some [0,1,7,8]),[],false⟩ aE He :: .blk 0 :: .c (.lv [])::k) (kv [(0,.slice tg 3 (l.map ag.row)),(1,.fn (.func g) [] []),(7,.int .i64 l.length),(8,.int .i64 i)]) G=M.go bh H0 k .leaf G)
 |0,i,h=>by
  have e:i=l.length:=by omega
  subst e;rw [List.drop_length,List.any_nil,sel_false];intro k He;rw [ak M aE.eq_1];simp (maxSteps:=3000000) (maxDischargeDepth:=6) +contextual -implicitDefEqProofs only [amC M,↓amD,Nat.reduceBEq,Nat.reduceAdd,env,aj,bW,Nat.lt_irrefl]
 |n+1,i,h=>by
  have hi:i<l.length:=by omega
  have hx:l[i]?=some l[i]:=List.getElem?_eq_getElem hi;have hd:(l.drop i)=l[i]::l.drop (i+1):=List.drop_eq_getElem_cons hi;have hf:=hg l[i];have hia:=aA (row:=ag.row) (tag:=tg) (sz:=3) (k:=.i64) hi;have hwi:=bt (n:=l.length) hi hb;rw [hd,List.any_cons];cases hbg:q l[i] with
  |true=>
   rw [Bool.true_or,sel_true];refine ⟨i,fun k He => ?_⟩;rw [ak M aE.eq_1];simp (maxSteps:=3000000) (maxDischargeDepth:=6) +contextual -implicitDefEqProofs only [amC M,↓amD,Nat.reduceBEq,Nat.reduceAdd,env,aj,bW,hi,hx,hia,aW,hf,hbg,hc]
  |false=>
   have ih:=ixp hS hg hc (tg:=tg) hb n (i+1) (by omega);rw [Bool.false_or]
   have step:∀ (k:List Fra) (He:List AObj),M.go bh H0 (.c aE :: .lp ⟨(some [0,1,7,8]),[],false⟩ aE He :: .blk 0 :: .c (.lv [])::k) (kv [(0,.slice tg 3 (l.map ag.row)),(1,.fn (.func g) [] []),(7,.int .i64 l.length),(8,.int .i64 i)]) G=M.go bh H0 (.c aE :: .lp ⟨(some [0,1,7,8]),[],false⟩ aE G :: .blk 0 :: .c (.lv [])::k) (kv [(0,.slice tg 3 (l.map ag.row)),(1,.fn (.func g) [] []),(7,.int .i64 l.length),(8,.int .i64 ((i+1:Nat):Int))]) G:=fun k He=>by
    rw [ak M aE.eq_1];simp (maxSteps:=3000000) (maxDischargeDepth:=6) +contextual -implicitDefEqProofs only [amC M,↓amD,Nat.reduceBEq,Nat.reduceAdd,env,aj,bW,hi,hx,hia,aW,hf,hbg,hwi]
   cases ha:(l.drop (i+1)).any q with
   |true=>
    rw [ha,sel_true] at ih;rw [sel_true];obtain ⟨j,ih⟩:=ih;exact ⟨j,fun k He=>by rw [step k He,ih k G]⟩
   |false=>
    rw [ha,sel_false] at ih;rw [sel_false];exact fun k He=>by rw [step k He,ih k G]
theorem Li(hS:qO E){g:FuncId}{q:ag→Bool}(hg:∀ (x:ag) H,M.run g [.agg x.row] H=some (.ret (.bool (q x)),H)){l:List ag}{tg:Tag}(hb:l.length≤aX)(G:List AObj) :
  M.run cj [.slice tg 3 (l.map ag.row),.fn (.func g) [] []] G=some (.ret (.bool (l.any q)),G):=by
 have h:=ixp M hS hg (cut_refl G) (tg:=tg) hb l.length 0 (by omega);rw [List.drop_zero] at h
 have hi:∃ z:Int,decide ((0:Int)≤z)=l.any q∧M.run dM [.slice tg 3 (l.map ag.row),.fn (.func g) [] []] G=some (.ret (.int .i64 z),G):=by
  cases ha:l.any q with
  |true=>
   rw [ha,sel_true] at h;obtain ⟨j,h⟩:=h;simp only [kv_cons,kv_nil,Int.ofNat_zero] at h;refine ⟨(j:Int),decide_eq_true (by omega), ?_⟩;rw [br M hS.slices_IndexFunc_api_Piece_api_Piece_1 rfl (c:=bV) rfl,bV];simp (maxSteps:=3000000) (maxDischargeDepth:=6) +contextual -implicitDefEqProofs only [amC M,↓amD,Nat.reduceBEq,Nat.reduceAdd,env,aj,bW,List.length_map,h,hp_self]
  |false=>
   rw [ha,sel_false] at h;simp only [kv_cons,kv_nil,Int.ofNat_zero] at h;refine ⟨-1,rfl, ?_⟩;rw [br M hS.slices_IndexFunc_api_Piece_api_Piece_1 rfl (c:=bV) rfl,bV];simp (maxSteps:=3000000) (maxDischargeDepth:=6) +contextual -implicitDefEqProofs only [amC M,↓amD,Nat.reduceBEq,Nat.reduceAdd,env,aj,bW,List.length_map,h,hp_self,cut_refl]
 obtain ⟨z,z1,z2⟩:=hi;rw [br M hS.slices_ContainsFunc_api_Piece_api_Piece_1 rfl (c:=dg) rfl,dg];simp (maxSteps:=3000000) (maxDischargeDepth:=6) +contextual -implicitDefEqProofs only [amC M,↓amD,Nat.reduceBEq,Nat.reduceAdd,env,aj,kj,z2,z1]
theorem Ka(hS:qO E)(x:ag)(H:List AObj):M.run sn [.agg x.row] H=some (.ret (.bool x.car),H):=by
 have gx:=aL H [AObj.cells x.row ah];rw [List.getElem?_cons_zero] at gx;rw [br M hS.docs_whole_1 rfl (c:=sv) rfl,sv];simp (maxSteps:=3000000) (maxDischargeDepth:=6) +contextual -implicitDefEqProofs only [amC M,↓amD,Nat.reduceBEq,Nat.reduceAdd,env,aj,Do,amG,AV.cell,Nat.reduceMul,Nat.reduceLeDiff,gx,aW,hp_take,cut_app]
theorem ON(hS:qO E)(x:ag)(H:List AObj):M.run uO [.agg x.row] H=some (.ret (.bool (!(x.kind == 1))),H):=by
 have gx:=aL H [AObj.cells x.row ah];rw [List.getElem?_cons_zero] at gx;rw [br M hS.docs_raw_1 rfl (c:=uZ) rfl,uZ];simp (maxSteps:=3000000) (maxDischargeDepth:=6) +contextual -implicitDefEqProofs only [amC M,↓amD,Nat.reduceBEq,Nat.reduceAdd,env,aj,GI,amG,AV.cell,Nat.reduceMul,Nat.reduceLeDiff,gx,aW,hp_take,cut_app]
def nf(l:List ag):Bool := !(l.any (·.car))
def uu(l:List ag):Bool := !(l.any fun x => !(x.kind == 1))
theorem FY(hS:qO E){l:List ag}{tg:Tag}(hb:l.length≤aX)(H:List AObj):M.run rL [.slice tg 3 (l.map ag.row)] H=some (.ret (.bool (nf l)),H):=by
 have h1:=fun H=>Li M hS (q:=fun x=>x.car) (fun x H=>Ka M hS x H) (tg:=tg) hb H
 rw [br M hS.docs_whole rfl (c:=uT) rfl,uT];simp (maxSteps:=3000000) (maxDischargeDepth:=6) +contextual -implicitDefEqProofs only [amC M,↓amD,Nat.reduceBEq,Nat.reduceAdd,env,aj,GF,h1,nf]
theorem QK(hS:qO E){b:aF}(hb:b.pieces.l.length≤aX)(H:List AObj):M.run yn [.agg b.row] H=some (.ret (.bool (!(b.kind == 6)||uu b.pieces.l)),H):=by
 have gx:=aL H [AObj.cells b.row aM];rw [List.getElem?_cons_zero] at gx;have h1:=fun H=>Li M hS (q:=fun x => !(x.kind == 1)) (fun x H=>ON M hS x H) (l:=b.pieces.l) (tg:=b.pieces.tag) hb H
 rw [br M hS.docs_raw rfl (c:=yr) rfl,yr];cases c:b.kind == 6 with
 |true=>simp (maxSteps:=3000000) (maxDischargeDepth:=6) +contextual -implicitDefEqProofs only [amC M,↓amD,Nat.reduceBEq,Nat.reduceAdd,env,aj,Dn,amG,AV.cell,Nat.reduceMul,Nat.reduceLeDiff,gx,ct,c,h1,uu,hp_take,cut_app,Bool.not_true,Bool.false_or]
 |false=>simp (maxSteps:=3000000) (maxDischargeDepth:=6) +contextual -implicitDefEqProofs only [amC M,↓amD,Nat.reduceBEq,Nat.reduceAdd,env,aj,Dn,amG,AV.cell,Nat.reduceMul,Nat.reduceLeDiff,gx,ct,c,hp_take,cut_app,Bool.not_false,Bool.true_or]
def Eg(b:aF):Int:=sel (decide (b.kind<1)||decide (6<b.kind)) 1 (sel (dX b.pieces.l == 0) (sel (nf b.pieces.l) (sel (!(b.kind == 6)||uu b.pieces.l) 0 1) 8) (dX b.pieces.l))
def rC:List aF→Int
 |[]=>0
 |b::l=>sel (Eg b == 0) (rC l) (Eg b)
def ki(l:List aF):Int:=sel (decide ((256:Int)<(l.length:Int))) 3 (rC l)
theorem dck(hB:gA E)(hX:vO M)(hS:qO E){bl:Sl aF}{m0:Nat}(hok:bl.ok m0 (aF.ok m0))(hsz:∀ b∈bl.l,b.pieces.l.length≤1000000∧nz b.pieces.l){H0 H:List AObj}(hc:b5 H0 H)(hm:m0≤H.length)(k:List Fra):∀ (n i:Nat),i+n=bl.l.length →
  M.go pz H0 (.c eP :: .lp ⟨(some [11,12,13]),[],true⟩ eP H :: .blk 0 :: .c (.lv [])::k) (kv [(11,.slice bl.tag 2 (bl.l.map aF.row)),(12,.int .i64 bl.l.length),(13,.int .i64 i)]) H =
   sel (rC (bl.l.drop i) == 0) (M.go pz H0 k (kv []) H) (some (.ret (.int .u8 (rC (bl.l.drop i))),H.take H0.length))
 |0,i,h=>by
  have e:i=bl.l.length:=by omega
  subst e;rw [List.drop_length,rC,show ((0:Int) == 0)=true from rfl,sel_true];rw [ak M eP.eq_1];simp (maxSteps:=3000000) (maxDischargeDepth:=6) +contextual -implicitDefEqProofs only [amC M,↓amD,Nat.reduceBEq,Nat.reduceAdd,env,aj,gz,Nat.lt_irrefl]
 |n+1,i,h=>by
  have hi:i<bl.l.length:=by omega
  have hx:bl.l[i]?=some bl.l[i]:=List.getElem?_eq_getElem hi;have hd:(bl.l.drop i)=bl.l[i]::bl.l.drop (i+1):=List.drop_eq_getElem_cons hi;have hwi:=bt (n:=bl.l.length) hi hok.len;have hir:=aA (row:=aF.row) (tag:=bl.tag) (sz:=2) (k:=.i64) hi;obtain ⟨z1,z2⟩:=hsz _ (List.getElem_mem hi);have w1:Wk H.length (.slice bl.tag 2 (bl.l.map aF.row)) (.slice bl.tag 2 (bl.l.map aF.row)):=(hok.mono hm (fun _ h=>h.mono hm)).wk (fun _ h=>h.wk)
  have ih:=dck hB hX hS hok hsz hc hm k n (i+1) (by omega);simp only [kv_cons,kv_nil] at ih;have gx:=aL H [AObj.cells bl.l[i].row aM];rw [List.getElem?_cons_zero] at gx;have h1:=fun H=>vt M hB hX (l:=bl.l[i].pieces) z1 z2 H
  have h2:=fun H=>FY M hS (l:=bl.l[i].pieces.l) (tg:=bl.l[i].pieces.tag) (by simp only [aX];omega) H
  have h3:=fun H=>QK M hS (b:=bl.l[i]) (by simp only [aX];omega) H
  have hct:∀ X,b5 H0 (H++X):=fun X=>⟨by have:=hc.1;simp;omega,fun i x hi hx=>hc.2 i x hi (by rwa [List.getElem?_append_left (by have:=hc.1;omega)] at hx)⟩
  have htk:∀ X,(H++X).take H0.length=H.take H0.length:=fun X=>List.take_append_of_le_length hc.1
  rw [hd,rC];generalize hbb:bl.l[i]=b at *
  unfold Eg;cases c1:decide (b.kind<1) with
  |true=>
   rw [Bool.true_or,sel_true,show ((1:Int) == 0)=false from rfl,sel_false,show ((1:Int) == 0)=false from rfl,sel_false];rw [ak M eP.eq_1];simp (maxSteps:=3000000) (maxDischargeDepth:=6) +contextual -implicitDefEqProofs only [amC M,↓amD,Nat.reduceBEq,Nat.reduceAdd,env,aj,gz,amG,AV.cell,Nat.reduceMul,Nat.reduceLeDiff,hi,hx,hbb,hir,ct,gx,c1,hct,htk]
  |false=>
  cases c2:decide (6<b.kind) with
  |true=>
   rw [Bool.false_or,sel_true,show ((1:Int) == 0)=false from rfl,sel_false,show ((1:Int) == 0)=false from rfl,sel_false];rw [ak M eP.eq_1];simp (maxSteps:=3000000) (maxDischargeDepth:=6) +contextual -implicitDefEqProofs only [amC M,↓amD,Nat.reduceBEq,Nat.reduceAdd,env,aj,gz,amG,AV.cell,Nat.reduceMul,Nat.reduceLeDiff,hi,hx,hbb,hir,ct,gx,c1,c2,hct,htk]
  |false=>
  rw [Bool.false_or,sel_false];cases c3:dX b.pieces.l == 0 with
  |false=>
   rw [sel_false,c3,sel_false,c3,sel_false];rw [ak M eP.eq_1];simp (maxSteps:=3000000) (maxDischargeDepth:=6) +contextual -implicitDefEqProofs only [amC M,↓amD,Nat.reduceBEq,Nat.reduceAdd,env,aj,gz,amG,AV.cell,Nat.reduceMul,Nat.reduceLeDiff,hi,hx,hbb,hir,ct,gx,c1,c2,h1,c3,hct,htk,Bool.not_false]
  |true=>
  rw [sel_true];cases c4:nf b.pieces.l with
  |false=>
   rw [sel_false,show ((8:Int) == 0)=false from rfl,sel_false,show ((8:Int) == 0)=false from rfl,sel_false];rw [ak M eP.eq_1];simp (maxSteps:=3000000) (maxDischargeDepth:=6) +contextual -implicitDefEqProofs only [amC M,↓amD,Nat.reduceBEq,Nat.reduceAdd,env,aj,gz,amG,AV.cell,Nat.reduceMul,Nat.reduceLeDiff,hi,hx,hbb,hir,ct,gx,c1,c2,h1,c3,h2,c4,hct,htk,Bool.not_false,Bool.not_true]
  |true=>
  rw [sel_true];cases c5:(!(b.kind == 6)||uu b.pieces.l) with
  |false=>
   rw [sel_false,show ((1:Int) == 0)=false from rfl,sel_false,show ((1:Int) == 0)=false from rfl,sel_false];rw [ak M eP.eq_1];simp (maxSteps:=3000000) (maxDischargeDepth:=6) +contextual -implicitDefEqProofs only [amC M,↓amD,Nat.reduceBEq,Nat.reduceAdd,env,aj,gz,amG,AV.cell,Nat.reduceMul,Nat.reduceLeDiff,hi,hx,hbb,hir,ct,gx,c1,c2,h1,c3,h2,c4,h3,c5,hct,htk,Bool.not_false,Bool.not_true]
  |true=>
   rw [sel_true,show ((0:Int) == 0)=true from rfl,sel_true];rw [ak M eP.eq_1];simp (maxSteps:=3000000) (maxDischargeDepth:=6) +contextual -implicitDefEqProofs only [amC M,↓amD,Nat.reduceBEq,Nat.reduceAdd,env,aj,gz,amG,AV.cell,Nat.reduceMul,Nat.reduceLeDiff,hi,hx,hbb,hir,ct,gx,c1,c2,h1,c3,h2,c4,h3,c5,hct,hwi,ih,w1,cut_app,hp_take,Bool.not_false,Bool.not_true]
theorem Eh(hB:gA E)(hX:vO M)(hS:qO E){d:Docu}{m0:Nat}(hd:d.ok m0)(hsz:d.blocks.l.length≤256→∀ b∈d.blocks.l,b.pieces.l.length≤1000000∧nz b.pieces.l)(H:List AObj)(hm:m0≤H.length:=by exact Nat.zero_le _) :
  M.run rK [.agg d.row] H=some (.ret (.int .u8 (ki d.blocks.l)),H):=by
 have gx:=aL H [AObj.cells d.row ae];rw [List.getElem?_cons_zero] at gx;rw [br M hS.docs_Check rfl (c:=uS) rfl,uS];unfold ki;cases c0:decide ((256:Int)<(d.blocks.l.length:Int)) with
 |true=>simp (maxSteps:=3000000) (maxDischargeDepth:=6) +contextual -implicitDefEqProofs only [amC M,↓amD,Nat.reduceBEq,Nat.reduceAdd,env,aj,gz,amG,AV.cell,Nat.reduceMul,Nat.reduceLeDiff,gx,iR,List.length_map,c0,hp_take,cut_app]
 |false=>
  have h1:=fun k=>dck M hB hX hS hd.blocks (hsz (by have:=of_decide_eq_false c0;omega)) (cut_app H [AObj.cells d.row ae]) (by simp;omega) k d.blocks.l.length 0 (by omega)
  simp only [kv_cons,kv_nil,Int.ofNat_zero,List.drop_zero,hp_take] at h1;cases c1:rC d.blocks.l == 0 with
  |false=>
   simp only [c1,sel_false] at h1;simp (maxSteps:=3000000) (maxDischargeDepth:=6) +contextual -implicitDefEqProofs only [amC M,↓amD,Nat.reduceBEq,Nat.reduceAdd,env,aj,gz,amG,AV.cell,Nat.reduceMul,Nat.reduceLeDiff,gx,iR,List.length_map,c0,h1]
  |true=>
   simp only [c1,sel_true] at h1;have e1:rC d.blocks.l=0:=by simpa using c1
   simp (maxSteps:=3000000) (maxDischargeDepth:=6) +contextual -implicitDefEqProofs only [amC M,↓amD,Nat.reduceBEq,Nat.reduceAdd,env,aj,gz,amG,AV.cell,Nat.reduceMul,Nat.reduceLeDiff,gx,iR,List.length_map,c0,h1,e1,hp_take,cut_app]
end
section
attribute [local congr] aI bR aZ aJ aY aR aK aC aD aS aT
variable{E:bG}(M:cJ cM E)
theorem rwh{l:List ag}{tg:Tag}(hl:l.length≤aX){H H0:List AObj}(hc:b5 H0 H)(k:List Fra):∀ (n i:Nat) (He:List AObj),i+n=l.length →
  M.go gd H0 (.c ea :: .lp ⟨(some [0,3]),[],false⟩ ea He :: .blk 0 :: .c (.lv [])::k) (kv [(0,.slice tg 3 (l.map ag.row)),(3,.int .i64 i)]) H=sel (nf (l.drop i)) (M.go gd H0 k (kv []) H) (some (.ret (.bool false),H.take H0.length))
 |0,i,He,h=>by
  have e:i=l.length:=by omega
  subst e;rw [List.drop_length,show nf []=true from rfl,sel_true];rw [ak M ea.eq_1];simp (maxSteps:=3000000) (maxDischargeDepth:=6) +contextual -implicitDefEqProofs only [amC M,↓amD,Nat.reduceBEq,Nat.reduceAdd,env,aj,gh,Nat.lt_irrefl,List.length_map]
 |n+1,i,He,h=>by
  have hi:i<l.length:=by omega
  have hx:l[i]?=some l[i]:=List.getElem?_eq_getElem hi;have hd:(l.drop i)=l[i]::l.drop (i+1):=List.drop_eq_getElem_cons hi;have hwi:=bt (n:=l.length) hi hl;have hir:=aA (row:=ag.row) (tag:=tg) (sz:=3) (k:=.i64) hi;have ih:=fun He=>rwh hl hc (tg:=tg) k n (i+1) He (by omega)
  simp only [kv_cons,kv_nil] at ih;rw [hd,show nf (l[i]::l.drop (i+1))=(!l[i].car&&nf (l.drop (i+1))) by unfold nf;rw [List.any_cons,Bool.not_or]];cases c:l[i].car with
  |true=>
   rw [Bool.not_true,Bool.false_and,sel_false];rw [ak M ea.eq_1];simp (maxSteps:=3000000) (maxDischargeDepth:=6) +contextual -implicitDefEqProofs only [amC M,↓amD,Nat.reduceBEq,Nat.reduceAdd,env,aj,gh,List.length_map,hi,hx,hir,aW,c,hc]
  |false=>
   rw [Bool.not_false,Bool.true_and];rw [ak M ea.eq_1];simp (maxSteps:=3000000) (maxDischargeDepth:=6) +contextual -implicitDefEqProofs only [amC M,↓amD,Nat.reduceBEq,Nat.reduceAdd,env,aj,gh,List.length_map,hi,hx,hir,aW,c,hwi,ih]
theorem Ei(hS:qO E){l:List ag}{tg:Tag}(hl:l.length≤aX)(H:List AObj):M.run jg [.slice tg 3 (l.map ag.row)] H=some (.ret (.bool (nf l)),H):=by
 have h1:=fun k He=>rwh M (tg:=tg) hl (cut_refl H) k l.length 0 He (by omega)
 simp only [kv_cons,kv_nil,Int.ofNat_zero,List.drop_zero,hp_self] at h1;rw [br M hS.truchmanref01_Whole rfl (c:=lJ) rfl,lJ];cases c:nf l with
 |true=>
  simp only [c,sel_true] at h1;simp (maxSteps:=3000000) (maxDischargeDepth:=6) +contextual -implicitDefEqProofs only [amC M,↓amD,Nat.reduceBEq,Nat.reduceAdd,env,aj,gh,h1,hp_self,cut_refl]
 |false=>
  simp only [c,sel_false] at h1;simp (maxSteps:=3000000) (maxDischargeDepth:=6) +contextual -implicitDefEqProofs only [amC M,↓amD,Nat.reduceBEq,Nat.reduceAdd,env,aj,gh,h1]
theorem rba{l:List ag}{tg:Tag}(hl:l.length≤aX){H H0:List AObj}(hc:b5 H0 H)(k:List Fra):∀ (n i:Nat) (He:List AObj),i+n=l.length →
  M.go gU H0 (.c eI :: .lp ⟨(some [0,3]),[],false⟩ eI He :: .blk 0 :: .c (.lv [])::k) (kv [(0,.slice tg 3 (l.map ag.row)),(3,.int .i64 i)]) H=sel (uu (l.drop i)) (M.go gU H0 k (kv []) H) (some (.ret (.bool false),H.take H0.length))
 |0,i,He,h=>by
  have e:i=l.length:=by omega
  subst e;rw [List.drop_length,show uu []=true from rfl,sel_true];rw [ak M eI.eq_1];simp (maxSteps:=3000000) (maxDischargeDepth:=6) +contextual -implicitDefEqProofs only [amC M,↓amD,Nat.reduceBEq,Nat.reduceAdd,env,aj,gV,Nat.lt_irrefl,List.length_map]
 |n+1,i,He,h=>by
  have hi:i<l.length:=by omega
  have hx:l[i]?=some l[i]:=List.getElem?_eq_getElem hi;have hd:(l.drop i)=l[i]::l.drop (i+1):=List.drop_eq_getElem_cons hi;have hwi:=bt (n:=l.length) hi hl;have hir:=aA (row:=ag.row) (tag:=tg) (sz:=3) (k:=.i64) hi;have ih:=fun He=>rba hl hc (tg:=tg) k n (i+1) He (by omega)
  simp only [kv_cons,kv_nil] at ih;rw [hd,show uu (l[i]::l.drop (i+1))=((l[i].kind == 1)&&uu (l.drop (i+1))) by unfold uu;rw [List.any_cons,Bool.not_or,Bool.not_not]];cases c:l[i].kind == 1 with
  |false=>
   rw [Bool.false_and,sel_false];rw [ak M eI.eq_1];simp (maxSteps:=3000000) (maxDischargeDepth:=6) +contextual -implicitDefEqProofs only [amC M,↓amD,Nat.reduceBEq,Nat.reduceAdd,env,aj,gV,List.length_map,hi,hx,hir,aW,c,hc,Bool.not_false]
  |true=>
   rw [Bool.true_and];rw [ak M eI.eq_1];simp (maxSteps:=3000000) (maxDischargeDepth:=6) +contextual -implicitDefEqProofs only [amC M,↓amD,Nat.reduceBEq,Nat.reduceAdd,env,aj,gV,List.length_map,hi,hx,hir,aW,c,hwi,ih,Bool.not_true]
theorem OO(hS:qO E){l:List ag}{tg:Tag}(hl:l.length≤aX)(H:List AObj):M.run mz [.slice tg 3 (l.map ag.row)] H=some (.ret (.bool (uu l)),H):=by
 have h1:=fun k He=>rba M (tg:=tg) hl (cut_refl H) k l.length 0 He (by omega)
 simp only [kv_cons,kv_nil,Int.ofNat_zero,List.drop_zero,hp_self] at h1;rw [br M hS.truchmanref01_bare rfl (c:=mR) rfl,mR];cases c:uu l with
 |true=>
  simp only [c,sel_true] at h1;simp (maxSteps:=3000000) (maxDischargeDepth:=6) +contextual -implicitDefEqProofs only [amC M,↓amD,Nat.reduceBEq,Nat.reduceAdd,env,aj,gV,h1,hp_self,cut_refl]
 |false=>
  simp only [c,sel_false] at h1;simp (maxSteps:=3000000) (maxDischargeDepth:=6) +contextual -implicitDefEqProofs only [amC M,↓amD,Nat.reduceBEq,Nat.reduceAdd,env,aj,gV,h1]
def inB(k:Int)(l:List ag):Int:=sel (nf l) (sel (!(k == 6)||uu l) 0 1) 8
theorem I5(hS:qO E){l:List ag}{tg:Tag}{kd:Int}(hl:l.length≤aX)(H:List AObj):M.run j6 [.int .u8 kd,.slice tg 3 (l.map ag.row)] H=some (.ret (.int .u8 (inB kd l)),H):=by
 have h1:=fun H=>Ei M hS (tg:=tg) hl H
 have h2:=fun H=>OO M hS (tg:=tg) hl H
 rw [br M hS.truchmanref01_inBlock rfl (c:=ke) rfl,ke];unfold inB;cases c1:nf l with
 |false=>
  rw [sel_false];simp (maxSteps:=3000000) (maxDischargeDepth:=6) +contextual -implicitDefEqProofs only [amC M,↓amD,Nat.reduceBEq,Nat.reduceAdd,env,aj,ie,h1,c1,Bool.not_false]
 |true=>
  rw [sel_true];cases c2:kd == 6 with
  |false=>
   rw [Bool.not_false,Bool.true_or,sel_true];simp (maxSteps:=3000000) (maxDischargeDepth:=6) +contextual -implicitDefEqProofs only [amC M,↓amD,Nat.reduceBEq,Nat.reduceAdd,env,aj,ie,h1,c1,c2,Bool.not_true]
  |true=>
   rw [Bool.not_true,Bool.false_or];cases c3:uu l with
   |true=>
    rw [sel_true];simp (maxSteps:=3000000) (maxDischargeDepth:=6) +contextual -implicitDefEqProofs only [amC M,↓amD,Nat.reduceBEq,Nat.reduceAdd,env,aj,ie,h1,c1,c2,h2,c3,Bool.not_true]
   |false=>
    rw [sel_false];simp (maxSteps:=3000000) (maxDischargeDepth:=6) +contextual -implicitDefEqProofs only [amC M,↓amD,Nat.reduceBEq,Nat.reduceAdd,env,aj,ie,h1,c1,c2,h2,c3,Bool.not_true,Bool.not_false]
theorem OP(b:aF):Eg b=sel (decide (b.kind<1)||decide (6<b.kind)) 1 (sel (dX b.pieces.l == 0) (inB b.kind b.pieces.l) (dX b.pieces.l)):=rfl
theorem rck(hB:gA E)(hS:qO E){bl:Sl aF}{m0:Nat}(hok:bl.ok m0 (aF.ok m0))(hsz:∀ b∈bl.l,b.pieces.l.length≤1000000∧nz b.pieces.l){H0 H:List AObj}(hc:b5 H0 H){p:Nat}(hp:H[p]?=some (.cells [.slice bl.tag 2 (bl.l.map aF.row)] ae))(k:List Fra):∀ (n i:Nat),i+n=bl.l.length →
  M.go fZ H0 (.c ca :: .lp ⟨(some [1,3]),[],true⟩ ca H :: .blk 0 :: .c (.lv [])::k) (kv [(1,.ptr p 0),(3,.int .i64 i)]) H =
   sel (rC (bl.l.drop i) == 0) (M.go fZ H0 k (kv []) H) (some (.ret (.int .u8 (rC (bl.l.drop i))),H.take H0.length))
 |0,i,h=>by
  have e:¬ i<bl.l.length:=by omega
  have l1:∀ x:AV,bn none [x] 0=some x:=fun _=>rfl
  rw [List.drop_of_length_le (by omega),rC,show ((0:Int) == 0)=true from rfl,sel_true];rw [ak M ca.eq_1];simp (maxSteps:=3000000) (maxDischargeDepth:=6) +contextual -implicitDefEqProofs only [amC M,↓amD,Nat.reduceBEq,Nat.reduceAdd,env,aj,cF,hp,l1,e,List.length_map]
 |n+1,i,h=>by
  have hi:i<bl.l.length:=by omega
  have hx:bl.l[i]?=some bl.l[i]:=List.getElem?_eq_getElem hi;have hd:(bl.l.drop i)=bl.l[i]::bl.l.drop (i+1):=List.drop_eq_getElem_cons hi;have hwi:=bt (n:=bl.l.length) hi hok.len;have hir:=aA (row:=aF.row) (tag:=bl.tag) (sz:=2) (k:=.i64) hi;have l1:∀ x:AV,bn none [x] 0=some x:=fun _=>rfl
  have hp1:∀ X,(H++X)[p]?=_:=fun X=>bD hp
  have hpl:=cg hp;obtain ⟨z1,z2⟩:=hsz _ (List.getElem_mem hi);have w1:Wk H.length (.ptr p 0) (.ptr p 0):=wk_ptr hpl;have ih:=rck hB hS hok hsz hc hp k n (i+1) (by omega);simp only [kv_cons,kv_nil] at ih;have gx:=aL H [AObj.cells bl.l[i].row aM];rw [List.getElem?_cons_zero] at gx;have h1:=fun H=>ny M hB (l:=bl.l[i].pieces) z1 z2 H
  have h2:=fun H=>I5 M hS (l:=bl.l[i].pieces.l) (tg:=bl.l[i].pieces.tag) (kd:=bl.l[i].kind) (by simp only [aX];omega) H
  have hct:∀ X,b5 H0 (H++X):=fun X=>⟨by have:=hc.1;simp;omega,fun i x hi hx=>hc.2 i x hi (by rwa [List.getElem?_append_left (by have:=hc.1;omega)] at hx)⟩
  have htk:∀ X,(H++X).take H0.length=H.take H0.length:=fun X=>List.take_append_of_le_length hc.1
  rw [hd,rC];generalize hbb:bl.l[i]=b at *
  rw [OP];cases c1:decide (b.kind<1) with
  |true=>
   rw [Bool.true_or,sel_true,show ((1:Int) == 0)=false from rfl,sel_false,show ((1:Int) == 0)=false from rfl,sel_false];rw [ak M ca.eq_1];simp (maxSteps:=3000000) (maxDischargeDepth:=6) +contextual -implicitDefEqProofs only [amC M,↓amD,Nat.reduceBEq,Nat.reduceAdd,env,aj,cF,amG,AV.cell,Nat.reduceMul,Nat.reduceLeDiff,hp,hp1,l1,List.length_map,hi,hx,hbb,hir,ct,gx,c1,hct,htk]
  |false=>
  cases c2:decide (6<b.kind) with
  |true=>
   rw [Bool.false_or,sel_true,show ((1:Int) == 0)=false from rfl,sel_false,show ((1:Int) == 0)=false from rfl,sel_false];rw [ak M ca.eq_1];simp (maxSteps:=3000000) (maxDischargeDepth:=6) +contextual -implicitDefEqProofs only [amC M,↓amD,Nat.reduceBEq,Nat.reduceAdd,env,aj,cF,amG,AV.cell,Nat.reduceMul,Nat.reduceLeDiff,hp,hp1,l1,List.length_map,hi,hx,hbb,hir,ct,gx,c1,c2,hct,htk]
  |false=>
  rw [Bool.false_or,sel_false];cases c3:dX b.pieces.l == 0 with
  |false=>
   rw [sel_false,c3,sel_false,c3,sel_false];rw [ak M ca.eq_1];simp (maxSteps:=3000000) (maxDischargeDepth:=6) +contextual -implicitDefEqProofs only [amC M,↓amD,Nat.reduceBEq,Nat.reduceAdd,env,aj,cF,amG,AV.cell,Nat.reduceMul,Nat.reduceLeDiff,hp,hp1,l1,List.length_map,hi,hx,hbb,hir,ct,gx,c1,c2,h1,c3,hct,htk,Bool.not_false]
  |true=>
  rw [sel_true];cases c4:inB b.kind b.pieces.l == 0 with
  |false=>
   rw [sel_false,c4,sel_false];rw [ak M ca.eq_1];simp (maxSteps:=3000000) (maxDischargeDepth:=6) +contextual -implicitDefEqProofs only [amC M,↓amD,Nat.reduceBEq,Nat.reduceAdd,env,aj,cF,amG,AV.cell,Nat.reduceMul,Nat.reduceLeDiff,hp,hp1,l1,List.length_map,hi,hx,hbb,hir,ct,gx,c1,c2,h1,c3,h2,c4,hct,htk,Bool.not_false]
  |true=>
   rw [sel_true];rw [ak M ca.eq_1];simp (maxSteps:=3000000) (maxDischargeDepth:=6) +contextual -implicitDefEqProofs only [amC M,↓amD,Nat.reduceBEq,Nat.reduceAdd,env,aj,cF,amG,AV.cell,Nat.reduceMul,Nat.reduceLeDiff,hp,hp1,l1,List.length_map,hi,hx,hbb,hir,ct,gx,c1,c2,h1,c3,h2,c4,hwi,ih,w1,cut_app,hp_take,Bool.not_true]
theorem Ej(hB:gA E)(hS:qO E){d:Docu}{m0:Nat}(hd:d.ok m0)(hsz:d.blocks.l.length≤256→∀ b∈d.blocks.l,b.pieces.l.length≤1000000∧nz b.pieces.l)(H:List AObj) :
  M.run jf [.agg d.row] H=some (.ret (.int .u8 (ki d.blocks.l)),H):=by
 have gx:=aL H [AObj.cells d.row ae];rw [List.getElem?_cons_zero] at gx;rw [br M hS.truchmanref01_Check rfl (c:=lI) rfl,lI];unfold ki;cases c0:decide ((256:Int)<(d.blocks.l.length:Int)) with
 |true=>simp (maxSteps:=3000000) (maxDischargeDepth:=6) +contextual -implicitDefEqProofs only [amC M,↓amD,Nat.reduceBEq,Nat.reduceAdd,env,aj,cF,amG,AV.cell,Nat.reduceMul,Nat.reduceLeDiff,gx,iR,List.length_map,c0,hp_take,cut_app]
 |false=>
  have h1:=fun k=>rck M hB hS hd.blocks (hsz (by have:=of_decide_eq_false c0;omega)) (cut_app H [AObj.cells d.row ae]) gx k d.blocks.l.length 0 (by omega)
  simp only [kv_cons,kv_nil,Int.ofNat_zero,List.drop_zero,hp_take] at h1;cases c1:rC d.blocks.l == 0 with
  |false=>
   simp only [c1,sel_false] at h1;simp (maxSteps:=3000000) (maxDischargeDepth:=6) +contextual -implicitDefEqProofs only [amC M,↓amD,Nat.reduceBEq,Nat.reduceAdd,env,aj,cF,amG,AV.cell,Nat.reduceMul,Nat.reduceLeDiff,gx,iR,List.length_map,c0,h1]
  |true=>
   simp only [c1,sel_true] at h1;have e1:rC d.blocks.l=0:=by simpa using c1
   simp (maxSteps:=3000000) (maxDischargeDepth:=6) +contextual -implicitDefEqProofs only [amC M,↓amD,Nat.reduceBEq,Nat.reduceAdd,env,aj,cF,amG,AV.cell,Nat.reduceMul,Nat.reduceLeDiff,gx,iR,List.length_map,c0,h1,e1,hp_take,cut_app]
end
section
attribute [local congr] aI bR aZ aJ aY aR aK aC aD aS aT
variable{E:bG}(M:cJ cM E)
def mkS(n:Nat)(p:List ag):bq:=⟨(n:Int),⟨pO p,p⟩⟩
theorem Lj(n:Nat)(p:List ag):(mkS n p).row=[.int .i64 (n:Int),.slice (pO p) 3 (p.map ag.row)]:=rfl
def jr(rs:List Brk)(b:aF):List (List ag):=vP b.pieces.l (sK rs b.pieces.l)
def oG(rs:List Brk)(l:List aF):Bool:=l.any fun b => !(b.kind == 6)&&(jr rs b).any nR
def vm(rs:List Brk):Nat→List aF→List bq
 |_,[]=>[]
 |n,b::l=>sel (b.kind == 6) [] ((jr rs b).map (mkS n))++vm rs (n+1) l
theorem ng(p:List ag):AV.strip (.slice (pO p) 3 (p.map ag.row)) = .slice (pO p) 3 (p.map ag.row):=by
 rw [ec];cases p<;>rfl
theorem FZ:∀ {l:List aF},rC l=0→∀ b∈l,dX b.pieces.l=0
 |x::l,h,b,hb=>by
  rw [rC] at h;cases c:Eg x == 0 with
  |false=>
   rw [c,sel_false] at h;rw [h] at c;cases c
  |true=>
   rw [c,sel_true] at h;rcases List.mem_cons.1 hb with rfl | hb
   ·have e:Eg b=0:=by simpa using c
    unfold Eg at e;cases c1:(decide (b.kind<1)||decide (6<b.kind)) with
    |true=>rw [c1,sel_true] at e;cases e
    |false=>
     rw [c1,sel_false] at e;cases c2:dX b.pieces.l == 0 with
     |true=>simpa using c2
     |false=>rw [c2,sel_false] at e;exact e
   ·exact FZ h b hb
theorem G5(u:List Un)(rs:List Brk):∀ (n a:Nat) (N:Int) (p:Option Int),1≤a→(a:Int)+n=N→(∀ q,p=some q→q<a)→okA N p (xR u rs n a)=true
 |0,a,N,p,_,_,_=>by rw [xR,okA.eq_def]
 |n+1,a,N,p,ha,hN,hp=>by
  rw [xR];cases tJ u a rs with
  |false=>
   rw [sel_false,List.nil_append];exact G5 u rs n (a+1) N p (by omega) (by omega) fun q e=>by have:=hp q e;omega
  |true=>
   have ih:=G5 u rs n (a+1) N (some (a:Int)) (by omega) (by omega) fun q e=>by cases e;omega
   have d1:decide ((a:Int)<1)=false:=decide_eq_false (by omega);have d2:decide (N-1<(a:Int))=false:=decide_eq_false (by omega);rw [sel_true,List.singleton_append,Ea,d1,d2,ih];cases p with
   |none=>rfl
   |some q=>
    have d3:decide ((a:Int)≤q)=false:=decide_eq_false (by have:=hp q rfl;omega);simp [d3]
theorem I6(rs:List Brk)(l:List ag):okA ((unL l).length:Int) none (sK rs l)=true:=by
 unfold sK
 by_cases h:(unL l).length=0
 ·rw [h];rfl
 ·exact G5 _ _ _ _ _ _ (Nat.le_refl _) (by omega) fun q e=>by cases e
theorem OQ(n:Nat)(l:List bq)(h:∀ s∈l,∃ k p,s=mkS k p):ik n (l.map bq.row):=by
 rw [rowsWk_map];intro s hs;obtain ⟨k,p,rfl⟩:=h s hs;exact ⟨wk_int _ _ _,wk_slice (by cases p<;>trivial) (JZ n p),trivial⟩
theorem G6(rs:List Brk):∀ (l:List aF) (n:Nat),∀ s∈vm rs n l,∃ k p,s=mkS k p
 |[],n,s,h=>by cases h
 |b::l,n,s,h=>by
  rw [vm] at h;rcases List.mem_append.1 h with h | h
  ·cases c:b.kind == 6 with
   |true=>rw [c,sel_true] at h;cases h
   |false=>
    rw [c,sel_false] at h;obtain ⟨p,_,rfl⟩:=List.mem_map.1 h;exact ⟨n,p,rfl⟩
  ·exact G6 rs l (n+1) s h
theorem dsi{H H0:List AObj}{v7 v30 v31 v32:AV}{nb:Nat}{pl:List (List ag)}{tg:Tag}(hpl:pl.length≤100000000){X:List AObj}(k:List Fra):∀ (n j:Nat) (o:List bq) (He:List AObj),j+n=pl.length→o.length+n≤1000000000 →
  M.go iv H0 (.c jA :: .lp ⟨(some [7,9,10,30,31,32,52,53,54]),[(9,2,aP)],false⟩ jA He :: .blk 2 :: .c (.lv [7,9,30,31,32])::k) (kv [(7,v7),(9,.slice (.own H.length) 2 (o.map bq.row)),(10,.int .i64 nb),(30,v30),(31,v31),(32,v32),(52,.slice tg 1 (pl.map plR)),(53,.int .i64 pl.length),(54,.int .i64 j)]) (H++(.tok (o.length*2) aP::X)) =
   M.go iv H0 k (kv [(7,v7),(9,.slice (.own H.length) 2 ((o++(pl.drop j).map (mkS nb)).map bq.row)),(30,v30),(31,v31),(32,v32)]) (H++(.tok ((o++(pl.drop j).map (mkS nb)).length*2) aP::X))
 |0,j,o,He,h,ho=>by
  have e:j=pl.length:=by omega
  subst e;rw [List.drop_length,List.map_nil,List.append_nil];rw [ak M jA.eq_1];simp (maxSteps:=3000000) (maxDischargeDepth:=6) +contextual -implicitDefEqProofs only [amC M,↓amD,Nat.reduceBEq,Nat.reduceAdd,env,aj,ey,Nat.lt_irrefl]
 |n+1,j,o,He,h,ho=>by
  have hj:j<pl.length:=by omega
  have hx:pl[j]?=some pl[j]:=List.getElem?_eq_getElem hj;have hd:(pl.drop j)=pl[j]::pl.drop (j+1):=List.drop_eq_getElem_cons hj;have hwj:=bt (n:=pl.length) hj (by simp only [aX];omega);have hir:=aA (row:=plR) (tag:=tg) (sz:=1) (k:=.i64) hj;have ap:=fun L=>kR (row:=bq.row) (l:=o) (x:=mkS nb pl[j]) (r:=[.int .i64 (nb:Int),.slice (pO pl[j]) 3 (pl[j].map ag.row)]) (sz:=2) (bytes:=32) (e:=aP) H L rfl rfl (by rw [List.map_cons,List.map_cons,ng,Lj];rfl) (by omega) (by omega)
  have ih:=fun He=>dsi (H:=H) (H0:=H0) (v7:=v7) (v30:=v30) (v31:=v31) (v32:=v32) (nb:=nb) (tg:=tg) hpl (X:=X) k n (j+1) (o++[mkS nb pl[j]]) He (by omega) (by simp;omega)
  simp only [kv_cons,kv_nil] at ih;rw [hd,List.map_cons,show o++mkS nb pl[j]::(pl.drop (j+1)).map (mkS nb)=o++[mkS nb pl[j]]++(pl.drop (j+1)).map (mkS nb) by simp];rw [ak M jA.eq_1];simp (maxSteps:=3000000) (maxDischargeDepth:=6) +contextual -implicitDefEqProofs only [amC M,↓amD,Nat.reduceBEq,Nat.reduceAdd,env,aj,ey,amG,AV.cell,Nat.reduceMul,Nat.reduceLeDiff,hj,hx,hwj,hir,SY,ng,ap,ih]
theorem yO{rs:List Brk}{b:aF}(h:b.pieces.l.length+jG b.pieces.l≤2600):(jr rs b).length≤20000:=by
 have b0:CBm 0 ⟨[],[],sK rs b.pieces.l,0,false,[]⟩:=⟨Nat.le_refl _,fun s hs=>(by cases hs),Nat.le_refl _,Nat.le_refl _,fun x hx=>(by cases hx),Nat.le_refl _⟩
 have hb:=(GZ b.pieces.l b0).done;rw [Cd] at hb;unfold jr vP IT;rw [List.length_append,List.length_singleton];omega
theorem dso(hB:gA E)(hU:fT E)(hN:J4 E)(hC:jT E){rs:List Brk}(hr0:rs.length≤aX)(hr:∀ r∈rs,r.bef.length≤1000000∧r.aft.length≤1000000){bl:Sl aF}{m0:Nat}(hok:bl.ok m0 (aF.ok m0))(hlen:bl.l.length≤256)(hsz:∀ b∈bl.l,b.pieces.l.length+jG b.pieces.l≤2600)(hck:∀ b∈bl.l,dX b.pieces.l=0){H H0:List AObj}(hc:b5 H0 H)(hm:m0≤H.length)(k:List Fra):∀ (n i:Nat) (o:List bq),i+n=bl.l.length→o.length≤i*20000→(∀ s∈o,∃ k p,s=mkS k p) →
  M.go iv H0 (.c fG :: .lp ⟨(some [7,9,30,31,32]),[(9,2,aP)],true⟩ fG (H++[.tok (o.length*2) aP]) :: .blk 0 :: .c (.lv [9])::k) (kv [(7,.slice .any 3 (rs.map fq)),(9,.slice (.own H.length) 2 (o.map bq.row)),(30,.slice bl.tag 2 (bl.l.map aF.row)),(31,.int .i64 bl.l.length),(32,.int .i64 i)]) (H++[.tok (o.length*2) aP]) =
   sel (oG rs (bl.l.drop i)) (some (.ret (.tuple [.slice .any 2 [],.int .u8 3]),H.take H0.length)) (M.go iv H0 k (kv [(9,.slice (.own H.length) 2 ((o++vm rs i (bl.l.drop i)).map bq.row))]) (H++[.tok ((o++vm rs i (bl.l.drop i)).length*2) aP]))
 |0,i,o,h,ho,hmk=>by
  have e:i=bl.l.length:=by omega
  subst e;rw [List.drop_length,show oG rs []=false from rfl,sel_false,vm,List.append_nil];rw [ak M fG.eq_1];simp (maxSteps:=3000000) (maxDischargeDepth:=6) +contextual -implicitDefEqProofs only [amC M,↓amD,Nat.reduceBEq,Nat.reduceAdd,env,aj,ey,Nat.lt_irrefl]
 |n+1,i,o,h,ho,hmk=>by
  have hi:i<bl.l.length:=by omega
  have hx:bl.l[i]?=some bl.l[i]:=List.getElem?_eq_getElem hi;have hd:(bl.l.drop i)=bl.l[i]::bl.l.drop (i+1):=List.drop_eq_getElem_cons hi;have hwi:=bt (n:=bl.l.length) hi hok.len;have hir:=aA (row:=aF.row) (tag:=bl.tag) (sz:=2) (k:=.i64) hi;have z:=hsz _ (List.getElem_mem hi);have ck:=hck _ (List.getElem_mem hi);have hcl:=yO (rs:=rs) z;have w1:Wk (H.length+1) (.slice bl.tag 2 (bl.l.map aF.row)) (.slice bl.tag 2 (bl.l.map aF.row)):=(hok.mono (m:=H.length+1) (by omega) (fun _ h=>h.mono (by omega))).wk (fun _ h=>h.wk)
  have w2:Wk (H.length+1) (.slice .any 3 (rs.map fq)) (.slice .any 3 (rs.map fq)):=wk_slice trivial (D3 _ _);have w3:∀ o:List bq,(∀ s∈o,∃ k p,s=mkS k p)→Wk (H.length+1) (.slice (.own H.length) 2 (o.map bq.row)) (.slice (.own H.length) 2 (o.map bq.row)):=fun o ho=>wk_slice (by simp [x9]) (OQ _ _ ho)
  have gk:∀ L:List AObj,(H++L)[H.length+1]?=L[1]? := fun L=>hp_getk H L 1
  have sk:∀ (L:List AObj) (x:AObj),(H++L).set (H.length+1) x=H++L.set 1 x:=fun L x=>hp_setk H L 1 x
  have hct:∀ X,b5 H0 (H++X):=fun X=>⟨by have:=hc.1;simp;omega,fun i x hi hx=>hc.2 i x hi (by rwa [List.getElem?_append_left (by have:=hc.1;omega)] at hx)⟩
  have htk:∀ X,(H++X).take H0.length=H.take H0.length:=fun X=>List.take_append_of_le_length hc.1
  have hul:=Cc bl.l[i].pieces.l;have hp1:=fun H=>J6 M hB hU hN hr0 hr (l:=bl.l[i].pieces) (by omega) (by omega) H
  have hp2:=fun H=>QE M hC (l:=bl.l[i].pieces.l) (tg:=bl.l[i].pieces.tag) (ta:=.any) (pos:=sK rs bl.l[i].pieces.l) (by simp only [aX];omega) (fun x hx=>by have:=qM hx;simp only [aX];omega) (.inl rfl) (D9 ck) (by rw [Cd];omega) H
  unfold Sc at hp2;rw [hd,vm,show oG rs (bl.l[i]::bl.l.drop (i+1))=((!(bl.l[i].kind == 6)&&(jr rs bl.l[i]).any nR)||oG rs (bl.l.drop (i+1))) from rfl];generalize hbb:bl.l[i]=b at *
  cases c1:b.kind == 6 with
  |true=>
   have ih:=dso hB hU hN hC hr0 hr hok hlen hsz hck hc hm k n (i+1) o (by omega) (by omega) hmk;simp only [kv_cons,kv_nil] at ih;rw [Bool.not_true,Bool.false_and,Bool.false_or,sel_true,List.nil_append];have w3':=w3 o hmk;rw [ak M fG.eq_1];simp (maxSteps:=3000000) (maxDischargeDepth:=6) +contextual -implicitDefEqProofs only [amC M,↓amD,Nat.reduceBEq,Nat.reduceAdd,env,aj,ey,amG,AV.cell,Nat.reduceMul,Nat.reduceLeDiff,hi,hx,hbb,hir,hwi,ct,gk,sk,List.getElem?_cons_succ,List.getElem?_cons_zero,List.set_cons_succ,List.set_cons_zero,c1,ih,w1,w2,w3',vk,sH]
  |false=>
  rw [Bool.not_false,Bool.true_and,sel_false];cases c2:(jr rs b).any nR with
  |true=>
   rw [Bool.true_or,sel_true];have c2':(vP b.pieces.l (sK rs b.pieces.l)).any nR=true:=c2;rw [ak M fG.eq_1];simp (maxSteps:=3000000) (maxDischargeDepth:=6) +contextual -implicitDefEqProofs only [amC M,↓amD,Nat.reduceBEq,Nat.reduceAdd,env,aj,ey,amG,AV.cell,Nat.reduceMul,Nat.reduceLeDiff,hi,hx,hbb,hir,hwi,ct,gk,sk,List.getElem?_cons_succ,List.getElem?_cons_zero,List.set_cons_succ,List.set_cons_zero,c1,hp1,hp2,c2',bQ,Bool.not_true,Bool.not_false,hct,htk,dK,wk_tuple]
  |false=>
   have c2':(vP b.pieces.l (sK rs b.pieces.l)).any nR=false:=c2;rw [Bool.false_or]
   have hmk2:∀ s∈o++(jr rs b).map (mkS i),∃ k p,s=mkS k p:=fun s hs=>by
    rcases List.mem_append.1 hs with hs | hs
    ·exact hmk s hs
    ·obtain ⟨p,_,rfl⟩:=List.mem_map.1 hs;exact ⟨i,p,rfl⟩
   have ih:=dso hB hU hN hC hr0 hr hok hlen hsz hck hc hm k n (i+1) (o++(jr rs b).map (mkS i)) (by omega) (by rw [List.length_append,List.length_map];omega) hmk2;have h0:=fun X k He=>dsi M (H:=H) (H0:=H0) (v7:=.slice .any 3 (rs.map fq)) (v30:=.slice bl.tag 2 (bl.l.map aF.row)) (v31:=.int .i64 bl.l.length) (v32:=.int .i64 i) (nb:=i) (pl:=jr rs b) (tg:=.any) (by omega) (X:=X) k (jr rs b).length 0 o He (by omega) (by omega)
   simp only [kv_cons,kv_nil,Int.ofNat_zero,List.drop_zero] at ih h0;rw [← List.append_assoc];have w3':=w3 _ hmk2;generalize hoo:o++(jr rs b).map (mkS i)=oo at ih h0 w3' ⊢;have hcc:vP b.pieces.l (sK rs b.pieces.l)=jr rs b:=rfl;rw [ak M fG.eq_1];simp (maxSteps:=3000000) (maxDischargeDepth:=6) +contextual -implicitDefEqProofs only [amC M,↓amD,Nat.reduceBEq,Nat.reduceAdd,env,aj,ey,amG,AV.cell,Nat.reduceMul,Nat.reduceLeDiff,hi,hx,hbb,hir,hwi,ct,gk,sk,List.getElem?_cons_succ,List.getElem?_cons_zero,List.set_cons_succ,List.set_cons_zero,c1,hp1,hp2,c2,c2',hcc,bQ,Bool.not_true,Bool.not_false,List.length_map,h0,ih,w1,w2,w3',vk,sH]
def MI(rs:List Brk)(l:List aF):AV:=
 sel (ki l == 0) (sel (kh rs == 0) (sel (oG rs l) (.tuple [.slice .any 2 [],.int .u8 3]) (.tuple [.slice .any 2 ((vm rs 0 l).map bq.row),.int .u8 0])) (.tuple [.slice .any 2 [],.int .u8 (kh rs)])) (.tuple [.slice .any 2 [],.int .u8 (ki l)])
theorem z6{l:List aF}(h:(ki l == 0)=true):l.length≤256∧∀ b∈l,dX b.pieces.l=0:=by
 have h0:ki l=0:=by simpa using h
 unfold ki at h0;cases c:decide ((256:Int)<(l.length:Int)) with
 |true=>rw [c,sel_true] at h0;cases h0
 |false=>
  rw [c,sel_false] at h0;exact ⟨by have:=of_decide_eq_false c;omega,FZ h0⟩
theorem E9(hB:gA E)(hX:vO M)(hU:fT E)(hN:J4 E)(hC:jT E)(hS:qO E){rs:Sl Brk}(hrs:rs.ok 0 (Brk.ok 0))(hr0:rs.l.length≤1000)(hr:rs.l.length≤64→∀ r∈rs.l,r.bef.length≤1000000∧r.aft.length≤1000000){d:Docu}(hd:d.ok 0)(hsz:d.blocks.l.length≤256→∀ b∈d.blocks.l,b.pieces.l.length+jG b.pieces.l≤2600)(H:List AObj) :
  M.run qU [.agg d.row,.slice rs.tag 3 (rs.l.map Brk.row)] H=some (.ret (MI rs.l d.blocks.l),H):=by
 have gx:=aL H [AObj.cells d.row ae];rw [List.getElem?_cons_zero] at gx
 have k1:=fun H=>Eh M hB hX hS hd (fun h b hb=>by
  have z:=hsz h b hb;exact ⟨by omega,fun x hx=>by have:=qM hx;omega⟩) H
 have k2:=fun H=>GS M hB hX hU hrs hr0 hr H
 unfold Oo at k2;rw [br M hS.docs_Segments rfl (c:=qZ) rfl,qZ];unfold MI;cases c0:ki d.blocks.l == 0 with
 |false=>simp (maxSteps:=3000000) (maxDischargeDepth:=6) +contextual -implicitDefEqProofs only [amC M,↓amD,Nat.reduceBEq,Nat.reduceAdd,env,aj,ey,amG,AV.cell,Nat.reduceMul,Nat.reduceLeDiff,gx,iR,k1,c0,Bool.not_false,hp_take,cut_app,dK,wk_tuple]
 |true=>
 cases c1:kh rs.l == 0 with
 |false=>
  simp only [c1,sel_false] at k2;simp (maxSteps:=3000000) (maxDischargeDepth:=6) +contextual -implicitDefEqProofs only [amC M,↓amD,Nat.reduceBEq,Nat.reduceAdd,env,aj,ey,amG,AV.cell,Nat.reduceMul,Nat.reduceLeDiff,gx,iR,k1,c0,Bool.not_true,Bool.not_false,k2,c1,bQ,List.getElem?_cons_zero,List.getElem?_cons_succ,hp_take,cut_app,dK,wk_tuple]
 |true=>
  simp only [c1,sel_true] at k2;obtain ⟨b1,b2⟩:=z6 c0;have h1:=fun k=>dso M hB hU hN hC (rs:=rs.l) (by simp only [aX];omega) (hr (D0 c1)) hd.blocks b1 (hsz b1) b2 (cut_app H [AObj.cells d.row ae]) (Nat.zero_le _) k d.blocks.l.length 0 [] (by omega) (Nat.zero_le _) (fun s hs=>(by cases hs))
  simp only [kv_cons,kv_nil,Int.ofNat_zero,List.drop_zero,hp_take,List.nil_append,List.length_nil,Nat.zero_mul,List.map_nil,List.length_append,List.length_cons,List.append_assoc,List.cons_append,Nat.zero_add] at h1;cases c2:oG rs.l d.blocks.l with
  |true=>
   simp only [c2,sel_true] at h1;simp (maxSteps:=3000000) (maxDischargeDepth:=6) +contextual -implicitDefEqProofs only [amC M,↓amD,Nat.reduceBEq,Nat.reduceAdd,env,aj,ey,amG,AV.cell,Nat.reduceMul,Nat.reduceLeDiff,gx,iR,k1,c0,Bool.not_true,k2,bQ,List.getElem?_cons_zero,List.getElem?_cons_succ,(show ((0:Int) == 0)=true from rfl),List.length_map,h1]
  |false=>
   simp only [c2,sel_false] at h1;have hh:=handV_drop (cut_app H [.cells d.row ae,.tok ((vm rs.l 0 d.blocks.l).length*2) aP]) (wk_tuple (xs:=[.slice (.own (H.length+1)) 2 ((vm rs.l 0 d.blocks.l).map bq.row),.int .u8 0]) ⟨wk_any (esz:=2) (tag:=.own (H.length+1)) (OQ H.length _ (G6 _ _ _)),wk_int _ _ 0,trivial⟩);simp only [anyV_tuple,hp_take] at hh;simp (maxSteps:=3000000) (maxDischargeDepth:=6) +contextual -implicitDefEqProofs only [amC M,↓amD,Nat.reduceBEq,Nat.reduceAdd,env,aj,ey,amG,AV.cell,Nat.reduceMul,Nat.reduceLeDiff,gx,iR,k1,c0,Bool.not_true,k2,bQ,List.getElem?_cons_zero,List.getElem?_cons_succ,(show ((0:Int) == 0)=true from rfl),List.length_map,h1,hh]
end
section
attribute [local congr] aI bR aZ aJ aY aR aK aC aD aS aT
variable{E:bG}(M:cJ cM E)
theorem MJ{rs:List Brk}{b:aF}(hck:dX b.pieces.l=0):Ec b.pieces.l (sK rs b.pieces.l)=sel ((jr rs b).any nR) (.tuple [.slice .nil 1 [],.int .u8 3]) (.tuple [.slice .any 1 ((jr rs b).map plR),.int .u8 0]):=by
 unfold Ec jr;rw [hck,I6,← OI (I6 rs b.pieces.l)];rfl
theorem Lk(u:List Un)(rs:List Brk):∀ n a,(xR u rs n a).length≤n
 |0,a=>Nat.le_refl _
 |n+1,a=>by
  have:=Lk u rs n (a+1);rw [xR,List.length_append];cases tJ u a rs
  ·rw [sel_false,List.length_nil];omega
  ·rw [sel_true,List.length_singleton];omega
theorem rsi{H H0:List AObj}{v1 v2 v8:AV}{nb:Nat}(hv8:v8 = .int .i64 nb){pl:List (List ag)}{tg:Tag}(hpl:pl.length≤100000000){X:List AObj}(k:List Fra):∀ (n j:Nat) (o:List bq) (He:List AObj),j+n=pl.length→o.length+n≤1000000000 →
  M.go cW H0 (.c eo :: .lp ⟨(some [1,2,7,8,11,13]),[(7,2,aP)],false⟩ eo He :: .blk 2 :: .c (.lv [1,2,7,8])::k) (kv [(1,v1),(2,v2),(7,.slice (.own H.length) 2 (o.map bq.row)),(8,v8),(11,.slice tg 1 (pl.map plR)),(13,.int .i64 j)]) (H++(.tok (o.length*2) aP::X)) =
   M.go cW H0 k (kv [(1,v1),(2,v2),(7,.slice (.own H.length) 2 ((o++(pl.drop j).map (mkS nb)).map bq.row)),(8,v8)]) (H++(.tok ((o++(pl.drop j).map (mkS nb)).length*2) aP::X))
 |0,j,o,He,h,ho=>by
  have e:j=pl.length:=by omega
  subst e;rw [List.drop_length,List.map_nil,List.append_nil];rw [ak M eo.eq_1];simp (maxSteps:=3000000) (maxDischargeDepth:=6) +contextual -implicitDefEqProofs only [amC M,↓amD,Nat.reduceBEq,Nat.reduceAdd,env,aj,bP,Nat.lt_irrefl,List.length_map]
 |n+1,j,o,He,h,ho=>by
  have hj:j<pl.length:=by omega
  have hx:pl[j]?=some pl[j]:=List.getElem?_eq_getElem hj;have hd:(pl.drop j)=pl[j]::pl.drop (j+1):=List.drop_eq_getElem_cons hj;have hwj:=bt (n:=pl.length) hj (by simp only [aX];omega);have hir:=aA (row:=plR) (tag:=tg) (sz:=1) (k:=.i64) hj;have ap:=fun L=>kR (row:=bq.row) (l:=o) (x:=mkS nb pl[j]) (r:=[.int .i64 (nb:Int),.slice (pO pl[j]) 3 (pl[j].map ag.row)]) (sz:=2) (bytes:=32) (e:=aP) H L rfl rfl (by rw [List.map_cons,List.map_cons,ng,Lj];rfl) (by omega) (by omega)
  have ih:=fun He=>rsi (H:=H) (H0:=H0) (v1:=v1) (v2:=v2) hv8 (tg:=tg) hpl (X:=X) k n (j+1) (o++[mkS nb pl[j]]) He (by omega) (by simp;omega)
  subst hv8;simp only [kv_cons,kv_nil] at ih;rw [hd,List.map_cons,show o++mkS nb pl[j]::(pl.drop (j+1)).map (mkS nb)=o++[mkS nb pl[j]]++(pl.drop (j+1)).map (mkS nb) by simp];rw [ak M eo.eq_1];simp (maxSteps:=3000000) (maxDischargeDepth:=6) +contextual -implicitDefEqProofs only [amC M,↓amD,Nat.reduceBEq,Nat.reduceAdd,env,aj,bP,amG,AV.cell,Nat.reduceMul,Nat.reduceLeDiff,hj,hx,hwj,hir,SY,List.length_map,ng,ap,ih]
theorem rso(hB:gA E)(hU:fT E)(hC:jT E){rs:Sl Brk}(hrs:rs.ok 0 (Brk.ok 0))(hr0:rs.l.length≤1000)(hr:rs.l.length≤64→∀ r∈rs.l,r.bef.length≤1000000∧r.aft.length≤1000000)(hcb:(kh rs.l == 0)=true){bl:Sl aF}{m0:Nat}(hok:bl.ok m0 (aF.ok m0))(hlen:bl.l.length≤256)(hsz:∀ b∈bl.l,b.pieces.l.length+jG b.pieces.l≤2600)(hck:∀ b∈bl.l,dX b.pieces.l=0){H H0:List AObj}(hc:b5 H0 H){p:Nat}(hp:H[p]?=some (.cells [.slice bl.tag 2 (bl.l.map aF.row)] ae))(k:List Fra):∀ (n i:Nat) (o:List bq) (He:List AObj),i+n=bl.l.length→o.length≤i*20000 →
  M.go cW H0 (.c cD :: .lp ⟨(some [1,2,7,8]),[(7,2,aP)],false⟩ cD He :: .blk 0 :: .c (.lv [7])::k) (kv [(1,.slice rs.tag 3 (rs.l.map Brk.row)),(2,.ptr p 0),(7,.slice (.own H.length) 2 (o.map bq.row)),(8,.int .i64 i)]) (H++[.tok (o.length*2) aP]) =
   sel (oG rs.l (bl.l.drop i)) (some (.ret (.tuple [.slice .any 2 [],.int .u8 3]),H.take H0.length)) (M.go cW H0 k (kv [(7,.slice (.own H.length) 2 ((o++vm rs.l i (bl.l.drop i)).map bq.row))]) (H++[.tok ((o++vm rs.l i (bl.l.drop i)).length*2) aP]))
 |0,i,o,He,h,ho=>by
  have e:¬ i<bl.l.length:=by omega
  have l1:∀ x:AV,bn none [x] 0=some x:=fun _=>rfl
  have hp1:∀ X,(H++X)[p]?=_:=fun X=>bD hp
  rw [List.drop_of_length_le (by omega),show oG rs.l []=false from rfl,sel_false,vm,List.append_nil];rw [ak M cD.eq_1];simp (maxSteps:=3000000) (maxDischargeDepth:=6) +contextual -implicitDefEqProofs only [amC M,↓amD,Nat.reduceBEq,Nat.reduceAdd,env,aj,bP,hp1,l1,List.length_map,e]
 |n+1,i,o,He,h,ho=>by
  have hi:i<bl.l.length:=by omega
  have hx:bl.l[i]?=some bl.l[i]:=List.getElem?_eq_getElem hi;have hd:(bl.l.drop i)=bl.l[i]::bl.l.drop (i+1):=List.drop_eq_getElem_cons hi;have hwi:=bt (n:=bl.l.length) hi hok.len;have hir:=aA (row:=aF.row) (tag:=bl.tag) (sz:=2) (k:=.i64) hi;have z:=hsz _ (List.getElem_mem hi);have ck:=hck _ (List.getElem_mem hi);have hcl:=yO (rs:=rs.l) z;have l1:∀ x:AV,bn none [x] 0=some x:=fun _=>rfl
  have hp1:∀ X,(H++X)[p]?=_:=fun X=>bD hp
  have hct:∀ X,b5 H0 (H++X):=fun X=>⟨by have:=hc.1;simp;omega,fun i x hi hx=>hc.2 i x hi (by rwa [List.getElem?_append_left (by have:=hc.1;omega)] at hx)⟩
  have htk:∀ X,(H++X).take H0.length=H.take H0.length:=fun X=>List.take_append_of_le_length hc.1
  have hul:=Cc bl.l[i].pieces.l
  have hpn:(sK rs.l bl.l[i].pieces.l).length≤2600:=by
   have:=Lk (unL bl.l[i].pieces.l) rs.l ((unL bl.l[i].pieces.l).length-1) 1;unfold sK;omega
  have hb1:=fun H=>IA M hB hU hrs hr0 hr (l:=bl.l[i].pieces) (by omega) (fun x hx=>by have:=qM hx;omega) (by omega) H
  have hb2:=fun H=>OG M hB hU hC (l:=bl.l[i].pieces) (pos:=sK rs.l bl.l[i].pieces.l) (ta:=.any) (by omega) (by omega) H
  rw [MJ ck] at hb2;unfold zO at hb1;simp only [hcb,ck,sel_true,(show ((0:Int) == 0)=true from rfl)] at hb1;rw [hd,vm,show oG rs.l (bl.l[i]::bl.l.drop (i+1))=((!(bl.l[i].kind == 6)&&(jr rs.l bl.l[i]).any nR)||oG rs.l (bl.l.drop (i+1))) from rfl];generalize hbb:bl.l[i]=b at *
  cases c1:b.kind == 6 with
  |true=>
   have ih:=fun He=>rso hB hU hC hrs hr0 hr hcb hok hlen hsz hck hc hp k n (i+1) o He (by omega) (by omega)
   simp only [kv_cons,kv_nil] at ih;rw [Bool.not_true,Bool.false_and,Bool.false_or,sel_true,List.nil_append];rw [ak M cD.eq_1];simp (maxSteps:=3000000) (maxDischargeDepth:=6) +contextual -implicitDefEqProofs only [amC M,↓amD,Nat.reduceBEq,Nat.reduceAdd,env,aj,bP,amG,AV.cell,Nat.reduceMul,Nat.reduceLeDiff,hp1,l1,List.length_map,hi,hx,hbb,hir,hwi,ct,c1,ih]
  |false=>
  rw [Bool.not_false,Bool.true_and,sel_false];cases c2:(jr rs.l b).any nR with
  |true=>
   simp only [c2,sel_true] at hb2;rw [Bool.true_or,sel_true];rw [ak M cD.eq_1];simp (maxSteps:=3000000) (maxDischargeDepth:=6) +contextual -implicitDefEqProofs only [amC M,↓amD,Nat.reduceBEq,Nat.reduceAdd,env,aj,bP,amG,AV.cell,Nat.reduceMul,Nat.reduceLeDiff,hp1,l1,List.length_map,hi,hx,hbb,hir,hwi,ct,c1,hb1,hb2,bQ,List.getElem?_cons_zero,List.getElem?_cons_succ,(show ((3:Int) == 0)=false from rfl),Bool.not_false,hct,htk,dK,wk_tuple]
  |false=>
   simp only [c2,sel_false] at hb2;rw [Bool.false_or];have ih:=fun He=>rso hB hU hC hrs hr0 hr hcb hok hlen hsz hck hc hp k n (i+1) (o++(jr rs.l b).map (mkS i)) He (by omega) (by rw [List.length_append,List.length_map];omega)
   have h0:=fun X k He=>rsi M (H:=H) (H0:=H0) (v1:=.slice rs.tag 3 (rs.l.map Brk.row)) (v2:=.ptr p 0) (v8:=.int .i64 i) (nb:=i) rfl (pl:=jr rs.l b) (tg:=.any) (by omega) (X:=X) k (jr rs.l b).length 0 o He (by omega) (by omega)
   simp only [kv_cons,kv_nil,Int.ofNat_zero,List.drop_zero] at ih h0;rw [← List.append_assoc];generalize hoo:o++(jr rs.l b).map (mkS i)=oo at ih h0 ⊢;rw [ak M cD.eq_1];simp (maxSteps:=3000000) (maxDischargeDepth:=6) +contextual -implicitDefEqProofs only [amC M,↓amD,Nat.reduceBEq,Nat.reduceAdd,env,aj,bP,amG,AV.cell,Nat.reduceMul,Nat.reduceLeDiff,hp1,l1,List.length_map,hi,hx,hbb,hir,hwi,ct,c1,hb1,hb2,bQ,List.getElem?_cons_zero,List.getElem?_cons_succ,(show ((0:Int) == 0)=true from rfl),h0,ih]
theorem Fa(hB:gA E)(hU:fT E)(hC:jT E)(hS:qO E){rs:Sl Brk}(hrs:rs.ok 0 (Brk.ok 0))(hr0:rs.l.length≤1000)(hr:rs.l.length≤64→∀ r∈rs.l,r.bef.length≤1000000∧r.aft.length≤1000000){d:Docu}(hd:d.ok 0)(hsz:d.blocks.l.length≤256→∀ b∈d.blocks.l,b.pieces.l.length+jG b.pieces.l≤2600)(H:List AObj) :
  M.run jK [.agg d.row,.slice rs.tag 3 (rs.l.map Brk.row)] H=some (.ret (MI rs.l d.blocks.l),H):=by
 have gx:=aL H [AObj.cells d.row ae];rw [List.getElem?_cons_zero] at gx
 have k1:=fun H=>Ej M hB hS hd (fun h b hb=>by
  have z:=hsz h b hb;exact ⟨by omega,fun x hx=>by have:=qM hx;omega⟩) H
 have k2:=fun H=>uo M hB hU hrs hr0 hr H
 rw [br M hS.truchmanref01_Segments rfl (c:=jN) rfl,jN];unfold MI;cases c0:ki d.blocks.l == 0 with
 |false=>simp (maxSteps:=3000000) (maxDischargeDepth:=6) +contextual -implicitDefEqProofs only [amC M,↓amD,Nat.reduceBEq,Nat.reduceAdd,env,aj,bP,amG,AV.cell,Nat.reduceMul,Nat.reduceLeDiff,gx,iR,k1,c0,Bool.not_false,hp_take,cut_app,dK,wk_tuple]
 |true=>
 cases c1:kh rs.l == 0 with
 |false=>simp (maxSteps:=3000000) (maxDischargeDepth:=6) +contextual -implicitDefEqProofs only [amC M,↓amD,Nat.reduceBEq,Nat.reduceAdd,env,aj,bP,amG,AV.cell,Nat.reduceMul,Nat.reduceLeDiff,gx,iR,k1,c0,Bool.not_true,Bool.not_false,k2,c1,hp_take,cut_app,dK,wk_tuple]
 |true=>
  obtain ⟨b1,b2⟩:=z6 c0;have h1:=fun k He=>rso M hB hU hC hrs hr0 hr c1 hd.blocks b1 (hsz b1) b2 (cut_app H [AObj.cells d.row ae]) gx k d.blocks.l.length 0 [] He (by omega) (Nat.zero_le _)
  simp only [kv_cons,kv_nil,Int.ofNat_zero,List.drop_zero,hp_take,List.nil_append,List.length_nil,Nat.zero_mul,List.map_nil,List.length_append,List.length_cons,List.append_assoc,List.cons_append,Nat.zero_add] at h1;cases c2:oG rs.l d.blocks.l with
  |true=>
   simp only [c2,sel_true] at h1;simp (maxSteps:=3000000) (maxDischargeDepth:=6) +contextual -implicitDefEqProofs only [amC M,↓amD,Nat.reduceBEq,Nat.reduceAdd,env,aj,bP,amG,AV.cell,Nat.reduceMul,Nat.reduceLeDiff,gx,iR,k1,c0,c1,Bool.not_true,k2,h1]
  |false=>
   simp only [c2,sel_false] at h1;have hh:=handV_drop (cut_app H [.cells d.row ae,.tok ((vm rs.l 0 d.blocks.l).length*2) aP]) (wk_tuple (xs:=[.slice (.own (H.length+1)) 2 ((vm rs.l 0 d.blocks.l).map bq.row),.int .u8 0]) ⟨wk_any (esz:=2) (tag:=.own (H.length+1)) (OQ H.length _ (G6 _ _ _)),wk_int _ _ 0,trivial⟩);simp only [anyV_tuple,hp_take] at hh;simp (maxSteps:=3000000) (maxDischargeDepth:=6) +contextual -implicitDefEqProofs only [amC M,↓amD,Nat.reduceBEq,Nat.reduceAdd,env,aj,bP,amG,AV.cell,Nat.reduceMul,Nat.reduceLeDiff,gx,iR,k1,c0,c1,Bool.not_true,k2,h1,hh]
end
section
attribute [local congr] aI bR aZ aJ aY aR aK aC aD aS aT
variable{E:bG}(M:cJ cM E)
theorem ssl(hB:gA E){l:List bq}(hl:l.length≤aX)(hp:∀ s∈l,s.pieces.l.length≤aX){ta tb:Tag}{H H0:List AObj}(k:List Fra):∀ (n i:Nat) (He:List AObj),i+n=l.length →
  M.go dA H0 (.c da :: .lp ⟨(some [0,1,5]),[],false⟩ da He :: .blk 0 :: .c (.lv [])::k) (kv [(0,.slice ta 2 (l.map bq.row)),(1,.slice tb 2 (l.map bq.row)),(5,.int .i64 i)]) H=M.go dA H0 k (kv []) H
 |0,i,He,h=>by
  have e:i=l.length:=by omega
  subst e;rw [ak M da.eq_1];simp (maxSteps:=3000000) (maxDischargeDepth:=6) +contextual -implicitDefEqProofs only [amC M,↓amD,Nat.reduceBEq,Nat.reduceAdd,env,aj,iy,Nat.lt_irrefl,List.length_map]
 |n+1,i,He,h=>by
  have hi:i<l.length:=by omega
  have hx:l[i]?=some l[i]:=List.getElem?_eq_getElem hi;have hwi:=bt (n:=l.length) hi hl;have ira:=aA (row:=bq.row) (tag:=ta) (sz:=2) (k:=.i64) hi;have irb:=aA (row:=bq.row) (tag:=tb) (sz:=2) (k:=.i64) hi;have hs:=fun H=>xm M hB (l:=l[i].pieces.l) (ta:=l[i].pieces.tag) (tb:=l[i].pieces.tag) (hp _ (List.getElem_mem hi)) H
  have ih:=fun He=>ssl hB hl hp (ta:=ta) (tb:=tb) (H:=H) (H0:=H0) k n (i+1) He (by omega)
  simp only [kv_cons,kv_nil] at ih;rw [ak M da.eq_1];simp (maxSteps:=3000000) (maxDischargeDepth:=6) +contextual -implicitDefEqProofs only [amC M,↓amD,Nat.reduceBEq,Nat.reduceAdd,env,aj,iy,hi,hx,hwi,ira,irb,ks,hs,ih,beq_self_eq_true,Bool.not_true,List.length_map]
theorem AY(hB:gA E)(hS:qO E){l:List bq}(hl:l.length≤aX)(hp:∀ s∈l,s.pieces.l.length≤aX){ta tb:Tag}(H:List AObj):M.run im [.slice ta 2 (l.map bq.row),.slice tb 2 (l.map bq.row)] H=some (.ret (.bool true),H):=by
 have h1:=fun k He=>ssl M hB hl hp (ta:=ta) (tb:=tb) (H:=H) (H0:=H) k l.length 0 He (by omega)
 simp only [kv_cons,kv_nil,Int.ofNat_zero] at h1;rw [br M hS.truchmanref01_SameSegments rfl (c:=iw) rfl,iw];simp (maxSteps:=3000000) (maxDischargeDepth:=6) +contextual -implicitDefEqProofs only [amC M,↓amD,Nat.reduceBEq,Nat.reduceAdd,env,aj,iy,List.length_map,beq_self_eq_true,Bool.not_true,h1,hp_self,cut_refl]
def I7(a b:List aF):Prop:=a.length=b.length∧∀ (i:Nat) (x y:aF),a[i]?=some x→b[i]?=some y→x.kind=y.kind∧x.pieces.l=y.pieces.l∧x.pieces.l.length≤aX
theorem sml(hB:gA E){a b:List aF}(hab:I7 a b)(hl:a.length≤aX){ta tb:Tag}{p q:Nat}{H H0:List AObj}(hp:H[p]?=some (.cells [.slice ta 2 (a.map aF.row)] ae))(hq:H[q]?=some (.cells [.slice tb 2 (b.map aF.row)] ae))(k:List Fra):∀ (n i:Nat) (He:List AObj),i+n=a.length →
  M.go gI H0 (.c fH :: .lp ⟨(some [2,3,5]),[],false⟩ fH He :: .blk 0 :: .c (.lv [])::k) (kv [(2,.ptr p 0),(3,.ptr q 0),(5,.int .i64 i)]) H=M.go gI H0 k (kv []) H
 |0,i,He,h=>by
  have e:¬ i<a.length:=by omega
  have l1:∀ x:AV,bn none [x] 0=some x:=fun _=>rfl
  rw [ak M fH.eq_1];simp (maxSteps:=3000000) (maxDischargeDepth:=6) +contextual -implicitDefEqProofs only [amC M,↓amD,Nat.reduceBEq,Nat.reduceAdd,env,aj,mI,hp,l1,e,List.length_map]
 |n+1,i,He,h=>by
  have hi:i<a.length:=by omega
  have hib:i<b.length:=by rw [← hab.1];exact hi
  have l1:∀ x:AV,bn none [x] 0=some x:=fun _=>rfl
  have hx:a[i]?=some a[i]:=List.getElem?_eq_getElem hi;have hy:b[i]?=some b[i]:=List.getElem?_eq_getElem hib;obtain ⟨e1,e2,e3⟩:=hab.2 i _ _ hx hy;have hwi:=bt (n:=a.length) hi hl;have ira:=aA (row:=aF.row) (tag:=ta) (sz:=2) (k:=.i64) hi;have irb:=aA (row:=aF.row) (tag:=tb) (sz:=2) (k:=.i64) hib;have hs:=fun H=>xm M hB (l:=a[i].pieces.l) (ta:=a[i].pieces.tag) (tb:=b[i].pieces.tag) e3 H
  rw [show List.map ag.row a[i].pieces.l=List.map ag.row b[i].pieces.l by rw [e2]] at hs;have hkd:(a[i].kind == b[i].kind)=true:=by rw [e1];simp
  have hrow:List.map ag.row a[i].pieces.l=List.map ag.row b[i].pieces.l:=by rw [e2]
  have ih:=fun He=>sml hB hab hl hp hq (H0:=H0) k n (i+1) He (by omega)
  simp only [kv_cons,kv_nil] at ih;rw [ak M fH.eq_1];simp (maxSteps:=3000000) (maxDischargeDepth:=6) +contextual -implicitDefEqProofs only [amC M,↓amD,Nat.reduceBEq,Nat.reduceAdd,env,aj,mI,hp,hq,l1,hi,hib,hx,hy,hwi,ira,irb,ct,hkd,hrow,hs,ih,Bool.not_true,List.length_map]
theorem OR(hB:gA E)(hS:qO E){a b:Docu}(hab:I7 a.blocks.l b.blocks.l)(hl:a.blocks.l.length≤aX)(H:List AObj):M.run mh [.agg a.row,.agg b.row] H=some (.ret (.bool true),H):=by
 have g0:∀ X,(H++AObj.cells a.row ae::X)[H.length]?=some (AObj.cells a.row ae):=fun X=>by rw [aL];rfl
 have g1:(H++[AObj.cells a.row ae,AObj.cells b.row ae])[H.length+1]?=some (AObj.cells b.row ae):=by rw [hp_getk];rfl
 have h1:=fun k He=>sml M hB hab hl (ta:=a.blocks.tag) (tb:=b.blocks.tag) (H:=H++[AObj.cells a.row ae,AObj.cells b.row ae]) (H0:=H) (p:=H.length) (q:=H.length+1) (g0 _) g1 k a.blocks.l.length 0 He (by omega)
 simp only [kv_cons,kv_nil,Int.ofNat_zero] at h1;have hq:(a.blocks.l.length == b.blocks.l.length)=true:=by rw [hab.1];simp
 have hq2:(((a.blocks.l.length:Nat):Int) == ((b.blocks.l.length:Nat):Int))=true:=by rw [hab.1];simp
 rw [br M hS.truchmanref01_Same rfl (c:=mH) rfl,mH];simp (maxSteps:=3000000) (maxDischargeDepth:=6) +contextual -implicitDefEqProofs only [amC M,↓amD,Nat.reduceBEq,Nat.reduceAdd,env,aj,mI,amG,AV.cell,Nat.reduceMul,Nat.reduceLeDiff,g0,g1,iR,List.length_map,hq,hq2,Bool.not_true,h1,hp_take,cut_app]
end
section
attribute [local congr] aI bR aZ aJ aY aR aK aC aD aS aT
variable{E:bG}(M:cJ cM E)
def I8(bl:List aF)(k:Int):Bool:=match bl[k.toNat]? with
 |some b=>b.kind == 6
 |none=>false
def xV(bl:List aF)(prev:Option Int)(s:bq):Bool:=
 decide (s.block<0)||(decide ((bl.length:Int)≤s.block)||(I8 bl s.block||(match prev with
  |none=>false
  |some q=>decide (s.block<q))))
def z7(bl:List aF):Option Int→List bq→Bool
 |_,[]=>false
 |prev,s::t=>xV bl prev s||z7 bl (some s.block) t
def vS(l:List bq)(i:Nat):Option Int:=match i with
 |0=>none
 |i+1=>(l[i]?).map (·.block)
theorem QL{H0 H:List AObj}(hc:b5 H0 H){r:Nat}(hr:H0.length≤r)(x:AObj):b5 H0 (H.set r x)∧(H.set r x).take H0.length=H.take H0.length:=by
 refine ⟨⟨by have:=hc.1;simpa using this,fun i y hi hy=>hc.2 i y hi (by rwa [List.getElem?_set_ne (by omega)] at hy)⟩, ?_⟩;refine List.ext_getElem? fun i => ?_
 by_cases hi:i<H0.length
 ·rw [List.getElem?_take_of_lt hi,List.getElem?_take_of_lt hi,List.getElem?_set_ne (by omega)]
 ·rw [List.getElem?_eq_none (by simp;omega),List.getElem?_eq_none (by simp;omega)]
theorem Br{H0 H:List AObj}(hc:b5 H0 H)(e:Int):pZ cM .deep H0 H (.tuple [.agg [.slice .nil 2 []],.int .u8 e])=some (.tuple [.agg [.slice .nil 2 []],.int .u8 e],H.take H0.length):=by
 rw [kx hc ⟨6,ph (b6 (NL (b6 (rJ (t:=.nil) (dQ _)) (dQ _))) (b6 (uM _ _ _ _ _) (dQ _)))⟩];rfl
theorem rr0{sl:List bq}{ts tg:Tag}(hsl:sl.length≤1000000){bl:List aF}(hbl:bl.length≤1000000){H0 H:List AObj}(hc:b5 H0 H){p r:Nat}(hr0:H0.length≤r)(hp:H[p]?=some (.cells [.slice tg 2 (bl.map aF.row)] ae))(hr:H[r]?=some (.cells [.slice .nil 2 []] ae))(k:List Fra):∀ (n i:Nat) (He:List AObj),i+n=sl.length →
  M.go bk H0 (.c bL :: .lp ⟨(some [1,2,4,7]),[],false⟩ bL He :: .blk 0 :: .c (.lv [1,2,4])::k) (kv [(1,.slice ts 2 (sl.map bq.row)),(2,.ptr p 0),(4,.ptr r 0),(7,.int .i64 i)]) H =
   sel (z7 bl (vS sl i) (sl.drop i)) (some (.ret (.tuple [.agg [.slice .nil 2 []],.int .u8 1]),H.take H0.length)) (M.go bk H0 k (kv [(1,.slice ts 2 (sl.map bq.row)),(2,.ptr p 0),(4,.ptr r 0)]) H)
 |0,i,He,h=>by
  have e:i=sl.length:=by omega
  subst e;rw [List.drop_length,z7,sel_false];rw [ak M bL.eq_1];simp (maxSteps:=3000000) (maxDischargeDepth:=6) +contextual -implicitDefEqProofs only [amC M,↓amD,Nat.reduceBEq,Nat.reduceAdd,env,aj,aq,Nat.lt_irrefl,List.length_map]
 |n+1,i,He,h=>by
  have hi:i<sl.length:=by omega
  have hx:sl[i]?=some sl[i]:=List.getElem?_eq_getElem hi;have hd:(sl.drop i)=sl[i]::sl.drop (i+1):=List.drop_eq_getElem_cons hi;have hwi:=bt (n:=sl.length) hi (by simp only [aX];omega);have hir:=aA (row:=bq.row) (tag:=ts) (sz:=2) (k:=.i64) hi;have l1:∀ x:AV,bn none [x] 0=some x:=fun _=>rfl
  have ih:=fun He=>rr0 hsl hbl hc hr0 hp hr (ts:=ts) k n (i+1) He (by omega)
  rw [show vS sl (i+1)=some sl[i].block by simp [vS,hx]] at ih;simp only [kv_cons,kv_nil] at ih;obtain ⟨hcs,hts⟩:=QL hc hr0 (.cells [.slice .nil 2 []] ae);have hrs:(H.set r (.cells [.slice .nil 2 []] ae))[r]?=some (.cells [.slice .nil 2 []] ae):=List.getElem?_set_self (cg hr);have hst:=stO_cells (sz:=1) (H:=H) (id:=r) (off:=0) (cs:=[.slice .nil 2 []]) (T:=ae) (old:=[.slice .nil 2 []]) rfl (by simp) rfl
  have hss:bf [AV.slice .nil 2 []] 0 [.slice .nil 2 []]=[.slice .nil 2 []]:=rfl;rw [hss] at hst
  have hself:H.set r (.cells [.slice .nil 2 []] ae)=H:=by
   refine List.ext_getElem? fun j => ?_
   by_cases hj:j=r
   ·subst hj;rw [hrs,hr]
   ·rw [List.getElem?_set_ne (fun e=>hj e.symm)]
  rw [hself] at hst;have hh:=Br hc 1;rw [hd,z7];unfold xV;generalize hss2:sl[i]=s at *
  cases c1:decide (s.block<0) with
  |true=>
   rw [Bool.true_or,Bool.true_or,sel_true];rw [ak M bL.eq_1];simp (maxSteps:=3000000) (maxDischargeDepth:=6) +contextual -implicitDefEqProofs only [amC M,↓amD,Nat.reduceBEq,Nat.reduceAdd,env,aj,aq,amG,AV.cell,Nat.reduceMul,Nat.reduceLeDiff,hi,hx,hss2,hir,ks,hp,hr,l1,c1,hst,hss,hself,List.length_map,hh]
  |false=>
  rw [Bool.false_or];cases c2:decide ((bl.length:Int)≤s.block) with
  |true=>
   rw [Bool.true_or,Bool.true_or,sel_true];rw [ak M bL.eq_1];simp (maxSteps:=3000000) (maxDischargeDepth:=6) +contextual -implicitDefEqProofs only [amC M,↓amD,Nat.reduceBEq,Nat.reduceAdd,env,aj,aq,amG,AV.cell,Nat.reduceMul,Nat.reduceLeDiff,hi,hx,hss2,hir,ks,hp,hr,l1,c1,c2,hst,hss,hself,List.length_map,hh]
  |false=>
  rw [Bool.false_or];have z1:=of_decide_eq_false c1;have z2:=of_decide_eq_false c2;obtain ⟨q,hq⟩:∃ q:Nat,s.block=(q:Int):=⟨s.block.toNat,by omega⟩
  have hqb:q<bl.length:=by omega
  have hxq:bl[q]?=some bl[q]:=List.getElem?_eq_getElem hqb;have hirq:=aA (row:=aF.row) (tag:=tg) (sz:=2) (k:=.i64) hqb;have hkd:I8 bl s.block=(bl[q].kind == 6):=by unfold I8;rw [hq,Int.toNat_natCast,hxq]
  rw [hkd];rw [hq] at c1 c2 ih ⊢;have d5:decide (bl.length≤q)=false:=decide_eq_false (by omega);have l3:∀ x:bq,x.block=(q:Int)→bn none (bq.row x) 0=some (.int .i64 (q:Int)):=fun x e=>by rw [← e];rfl
  have l4:=l3 s hq;cases c3:bl[q].kind == 6 with
  |true=>
   rw [Bool.true_or,Bool.true_or,sel_true];rw [ak M bL.eq_1];simp (maxSteps:=3000000) (maxDischargeDepth:=6) +contextual -implicitDefEqProofs only [amC M,↓amD,Nat.reduceBEq,Nat.reduceAdd,env,aj,aq,amG,AV.cell,Nat.reduceMul,Nat.reduceLeDiff,hi,hx,hss2,hir,l4,ks,hq,ct,hp,hr,l1,c1,c2,d5,hxq,hirq,hqb,c3,hst,hss,hself,List.length_map,hh]
  |false=>
  rw [Bool.false_or];cases i with
  |zero=>
   have d3:decide ((0:Int)<((0:Nat):Int))=false:=rfl;simp only [vS,Bool.false_or];rw [ak M bL.eq_1];simp (maxSteps:=3000000) (maxDischargeDepth:=6) +contextual -implicitDefEqProofs only [amC M,↓amD,Nat.reduceBEq,Nat.reduceAdd,env,aj,aq,amG,AV.cell,Nat.reduceMul,Nat.reduceLeDiff,hi,hx,hss2,hir,l4,ks,hq,ct,hp,hr,l1,c1,c2,d5,hxq,hirq,hqb,c3,d3,hwi,ih,List.length_map]
  |succ i=>
   have hi0:i<sl.length:=by omega
   have hx0:sl[i]?=some sl[i]:=List.getElem?_eq_getElem hi0;have hir0:=aA (row:=bq.row) (tag:=ts) (sz:=2) (k:=.i64) hi0;have d3:decide ((0:Int)<((i+1:Nat):Int))=true:=decide_eq_true (by omega);have hw3:IntKind.i64.wrap (((i+1:Nat):Int)-1)=(i:Int):=by rw [bK (by omega) (by omega)];omega
   simp only [vS,hx0,Option.map_some];cases c4:decide ((q:Int)<sl[i].block) with
   |true=>
    rw [Bool.true_or,sel_true];rw [ak M bL.eq_1];simp (maxSteps:=3000000) (maxDischargeDepth:=6) +contextual -implicitDefEqProofs only [amC M,↓amD,Nat.reduceBEq,Nat.reduceAdd,env,aj,aq,amG,AV.cell,Nat.reduceMul,Nat.reduceLeDiff,hi,hx,hss2,hir,l4,hx0,hir0,ks,hq,ct,hp,hr,l1,c1,c2,d5,hxq,hirq,hqb,c3,d3,hw3,c4,hst,hss,hself,List.length_map,hh]
   |false=>
    rw [Bool.false_or];rw [ak M bL.eq_1];simp (maxSteps:=3000000) (maxDischargeDepth:=6) +contextual -implicitDefEqProofs only [amC M,↓amD,Nat.reduceBEq,Nat.reduceAdd,env,aj,aq,amG,AV.cell,Nat.reduceMul,Nat.reduceLeDiff,hi,hx,hss2,hir,l4,hx0,hir0,ks,hq,ct,hp,hr,l1,c1,c2,d5,hxq,hirq,hqb,c3,d3,hw3,c4,hwi,ih,List.length_map]
end
section
attribute [local congr] aI bR aZ aJ aY aR aK aC aD aS aT
variable{E:bG}(M:cJ cM E)
def ofB(k:Int)(l:List bq):Bool:=l.any fun s=>s.block == k
def yd(sl:List bq):Nat→List aF→Bool
 |_,[]=>false
 |i,b::t => !((b.kind == 6)||ofB (i:Int) sl)||yd sl (i+1) t
theorem rr1{sl:List bq}{ts:Tag}(hsl:sl.length≤1000000){H0 H:List AObj}{v2 v4:AV}{q:Int}(k:List Fra):∀ (n j:Nat) (b:Bool) (He:List AObj),j+n=sl.length →
  M.go bk H0 (.c cL :: .lp ⟨(some [1,2,4,9,10,11]),[],false⟩ cL He :: .blk 4 :: .c (.lv [1,2,4,9,10])::k) (kv [(1,.slice ts 2 (sl.map bq.row)),(2,v2),(4,v4),(9,.int .i64 q),(10,.bool b),(11,.int .i64 j)]) H =
   M.go bk H0 k (kv [(1,.slice ts 2 (sl.map bq.row)),(2,v2),(4,v4),(9,.int .i64 q),(10,.bool (b||ofB q (sl.drop j)))]) H
 |0,j,b,He,h=>by
  have e:j=sl.length:=by omega
  subst e;rw [List.drop_length,show ofB q []=false from rfl,Bool.or_false];rw [ak M cL.eq_1];simp (maxSteps:=3000000) (maxDischargeDepth:=6) +contextual -implicitDefEqProofs only [amC M,↓amD,Nat.reduceBEq,Nat.reduceAdd,env,aj,aq,Nat.lt_irrefl,List.length_map]
 |n+1,j,b,He,h=>by
  have hj:j<sl.length:=by omega
  have hx:sl[j]?=some sl[j]:=List.getElem?_eq_getElem hj;have hd:(sl.drop j)=sl[j]::sl.drop (j+1):=List.drop_eq_getElem_cons hj;have hwj:=bt (n:=sl.length) hj (by simp only [aX];omega);have hir:=aA (row:=bq.row) (tag:=ts) (sz:=2) (k:=.i64) hj;have ih:=fun b He=>rr1 hsl (ts:=ts) (H0:=H0) (H:=H) (v2:=v2) (v4:=v4) (q:=q) k n (j+1) b He (by omega)
  simp only [kv_cons,kv_nil] at ih;rw [hd,show ofB q (sl[j]::sl.drop (j+1))=((sl[j].block == q)||ofB q (sl.drop (j+1))) from rfl];cases b with
  |true=>
   rw [Bool.true_or];have ih1:=ih true;simp only [Bool.true_or] at ih1;rw [ak M cL.eq_1];simp (maxSteps:=3000000) (maxDischargeDepth:=6) +contextual -implicitDefEqProofs only [amC M,↓amD,Nat.reduceBEq,Nat.reduceAdd,env,aj,aq,hj,hwj,List.length_map,ih1]
  |false=>
   rw [Bool.false_or];cases c:sl[j].block == q with
   |true=>
    have ih1:=ih true;simp only [Bool.true_or] at ih1;rw [Bool.true_or];rw [ak M cL.eq_1];simp (maxSteps:=3000000) (maxDischargeDepth:=6) +contextual -implicitDefEqProofs only [amC M,↓amD,Nat.reduceBEq,Nat.reduceAdd,env,aj,aq,hj,hx,hir,ks,c,hwj,List.length_map,ih1]
   |false=>
    have ih1:=ih false;simp only [Bool.false_or] at ih1;rw [Bool.false_or];rw [ak M cL.eq_1];simp (maxSteps:=3000000) (maxDischargeDepth:=6) +contextual -implicitDefEqProofs only [amC M,↓amD,Nat.reduceBEq,Nat.reduceAdd,env,aj,aq,hj,hx,hir,ks,c,hwj,List.length_map,ih1]
theorem rr2{sl:List bq}{ts tg:Tag}(hsl:sl.length≤1000000){bl:List aF}(hbl:bl.length≤1000000){H0 H:List AObj}(hc:b5 H0 H){p r:Nat}(hr0:H0.length≤r)(hp:H[p]?=some (.cells [.slice tg 2 (bl.map aF.row)] ae))(hr:H[r]?=some (.cells [.slice .nil 2 []] ae))(k:List Fra):∀ (n i:Nat) (He:List AObj),i+n=bl.length →
  M.go bk H0 (.c dk :: .lp ⟨(some [1,2,4,9]),[],false⟩ dk He :: .blk 2 :: .c (.lv [1,2,4])::k) (kv [(1,.slice ts 2 (sl.map bq.row)),(2,.ptr p 0),(4,.ptr r 0),(9,.int .i64 i)]) H =
   sel (yd sl i (bl.drop i)) (some (.ret (.tuple [.agg [.slice .nil 2 []],.int .u8 1]),H.take H0.length)) (M.go bk H0 k (kv [(1,.slice ts 2 (sl.map bq.row)),(2,.ptr p 0),(4,.ptr r 0)]) H)
 |0,i,He,h=>by
  have e:i=bl.length:=by omega
  have l1:∀ x:AV,bn none [x] 0=some x:=fun _=>rfl
  subst e;rw [List.drop_length,yd,sel_false];rw [ak M dk.eq_1];simp (maxSteps:=3000000) (maxDischargeDepth:=6) +contextual -implicitDefEqProofs only [amC M,↓amD,Nat.reduceBEq,Nat.reduceAdd,env,aj,aq,hp,l1,Nat.lt_irrefl,List.length_map]
 |n+1,i,He,h=>by
  have hi:i<bl.length:=by omega
  have hx:bl[i]?=some bl[i]:=List.getElem?_eq_getElem hi;have hd:(bl.drop i)=bl[i]::bl.drop (i+1):=List.drop_eq_getElem_cons hi;have hwi:=bt (n:=bl.length) hi (by simp only [aX];omega);have hir:=aA (row:=aF.row) (tag:=tg) (sz:=2) (k:=.i64) hi;have l1:∀ x:AV,bn none [x] 0=some x:=fun _=>rfl
  have ih:=fun He=>rr2 hsl hbl hc hr0 hp hr (ts:=ts) k n (i+1) He (by omega)
  have h1:=fun b k He=>rr1 M hsl (ts:=ts) (H0:=H0) (H:=H) (v2:=.ptr p 0) (v4:=.ptr r 0) (q:=(i:Int)) k sl.length 0 b He (by omega)
  simp only [kv_cons,kv_nil,Int.ofNat_zero,List.drop_zero] at ih h1;have hrs:(H.set r (.cells [.slice .nil 2 []] ae))[r]?=some (.cells [.slice .nil 2 []] ae):=List.getElem?_set_self (cg hr);have hst:=stO_cells (sz:=1) (H:=H) (id:=r) (off:=0) (cs:=[.slice .nil 2 []]) (T:=ae) (old:=[.slice .nil 2 []]) rfl (by simp) rfl;have hss:bf [AV.slice .nil 2 []] 0 [.slice .nil 2 []]=[.slice .nil 2 []]:=rfl;rw [hss] at hst
  have hself:H.set r (.cells [.slice .nil 2 []] ae)=H:=by
   refine List.ext_getElem? fun j => ?_
   by_cases hj:j=r
   ·subst hj;rw [hrs,hr]
   ·rw [List.getElem?_set_ne (fun e=>hj e.symm)]
  rw [hself] at hst;have hh:=Br hc 1;rw [hd,yd];cases c:((bl[i].kind == 6)||ofB (i:Int) sl) with
  |false=>
   rw [Bool.not_false,Bool.true_or,sel_true];have h2:=h1 (bl[i].kind == 6);simp only [c] at h2;rw [ak M dk.eq_1];simp (maxSteps:=3000000) (maxDischargeDepth:=6) +contextual -implicitDefEqProofs only [amC M,↓amD,Nat.reduceBEq,Nat.reduceAdd,env,aj,aq,amG,AV.cell,Nat.reduceMul,Nat.reduceLeDiff,hi,hx,hir,ct,hp,hr,l1,h2,hst,hss,hself,List.length_map,hh,Bool.not_false]
  |true=>
   rw [Bool.not_true,Bool.false_or];have h2:=h1 (bl[i].kind == 6);simp only [c] at h2;rw [ak M dk.eq_1];simp (maxSteps:=3000000) (maxDischargeDepth:=6) +contextual -implicitDefEqProofs only [amC M,↓amD,Nat.reduceBEq,Nat.reduceAdd,env,aj,aq,amG,AV.cell,Nat.reduceMul,Nat.reduceLeDiff,hi,hx,hir,ct,hp,hr,l1,h2,hwi,ih,List.length_map,Bool.not_true]
end
section
attribute [local congr] aI bR aZ aJ aY aR aK aC aD aS aT
variable{E:bG}(M:cJ cM E)
def prt(s:bq):Sl ag:=⟨s.pieces.tag.strip,s.pieces.l⟩
def bF(k:Int)(l:List bq):List (Sl ag):=(l.filter fun s=>s.block == k).map prt
theorem z8(k:Int)(s:bq)(l:List bq):bF k (s::l)=sel (s.block == k) [prt s] []++bF k l:=by
 unfold bF;rw [List.filter_cons];cases s.block == k<;>rfl
theorem Bs(t:Tag):t.strip.strip=t.strip:=by cases t<;>rfl
theorem rr3{sl:List bq}{ts:Tag}(hsl:sl.length≤1000000){H0 H X:List AObj}{v2 v4 v12 v14:AV}{q:Int}(k:List Fra):∀ (n j:Nat) (o:List (Sl ag)) (He:List AObj),j+n=sl.length→o.length≤j →
  M.go bk H0 (.c dm :: .lp ⟨(some [1,2,4,12,13,14,15,16]),[(15,1,al)],false⟩ dm He :: .blk 8 :: .c (.lv [1,2,4,12,13,14,15])::k) (kv [(1,.slice ts 2 (sl.map bq.row)),(2,v2),(4,v4),(12,v12),(13,.int .i64 q),(14,v14),(15,.slice (.own H.length) 1 (o.map dD)),(16,.int .i64 j)]) (H++(.tok (o.length*1) al::X)) =
   M.go bk H0 k (kv [(1,.slice ts 2 (sl.map bq.row)),(2,v2),(4,v4),(12,v12),(13,.int .i64 q),(14,v14),(15,.slice (.own H.length) 1 ((o++bF q (sl.drop j)).map dD))]) (H++(.tok ((o++bF q (sl.drop j)).length*1) al::X))
 |0,j,o,He,h,ho=>by
  have e:j=sl.length:=by omega
  subst e;rw [List.drop_length,show bF q []=[] from rfl,List.append_nil];rw [ak M dm.eq_1];simp (maxSteps:=3000000) (maxDischargeDepth:=6) +contextual -implicitDefEqProofs only [amC M,↓amD,Nat.reduceBEq,Nat.reduceAdd,env,aj,aq,Nat.lt_irrefl,List.length_map]
 |n+1,j,o,He,h,ho=>by
  have hj:j<sl.length:=by omega
  have hx:sl[j]?=some sl[j]:=List.getElem?_eq_getElem hj;have hd:(sl.drop j)=sl[j]::sl.drop (j+1):=List.drop_eq_getElem_cons hj;have hwj:=bt (n:=sl.length) hj (by simp only [aX];omega);have hir:=aA (row:=bq.row) (tag:=ts) (sz:=2) (k:=.i64) hj;rw [hd,z8];cases c:sl[j].block == q with
  |true=>
   have ap:=fun L=>kR (row:=dD) (l:=o) (x:=prt sl[j]) (r:=[.slice sl[j].pieces.tag.strip 3 (sl[j].pieces.l.map ag.row)]) (sz:=1) (bytes:=24) (e:=al) H L rfl rfl (by rw [List.map_cons,List.map_nil,ec,Bs];rfl) (by omega) (by omega)
   have ih:=fun He=>rr3 hsl (ts:=ts) (H0:=H0) (H:=H) (X:=X) (v2:=v2) (v4:=v4) (v12:=v12) (v14:=v14) (q:=q) k n (j+1) (o++[prt sl[j]]) He (by omega) (by simp;omega)
   simp only [kv_cons,kv_nil] at ih;rw [sel_true,← List.append_assoc];rw [ak M dm.eq_1];simp (maxSteps:=3000000) (maxDischargeDepth:=6) +contextual -implicitDefEqProofs only [amC M,↓amD,Nat.reduceBEq,Nat.reduceAdd,env,aj,aq,amG,AV.cell,Nat.reduceMul,Nat.reduceLeDiff,hj,hx,hir,hwj,ks,c,ec,ap,ih,List.length_map]
  |false=>
   have ih:=fun He=>rr3 hsl (ts:=ts) (H0:=H0) (H:=H) (X:=X) (v2:=v2) (v4:=v4) (v12:=v12) (v14:=v14) (q:=q) k n (j+1) o He (by omega) (by omega)
   simp only [kv_cons,kv_nil] at ih;rw [sel_false,List.nil_append];rw [ak M dm.eq_1];simp (maxSteps:=3000000) (maxDischargeDepth:=6) +contextual -implicitDefEqProofs only [amC M,↓amD,Nat.reduceBEq,Nat.reduceAdd,env,aj,aq,hj,hx,hir,hwj,ks,c,ih,List.length_map]
end
section
attribute [local congr] aI bR aZ aJ aY aR aK aC aD aS aT
variable{E:bG}(M:cJ cM E)
def Sl.kn{α:Type}(s:Sl α):Prop:=s.tag = .nil∧s.l=[]∨s.tag = .some
theorem I9(sz:Nat)(r:List (List AV)):req .sl (.slice .some sz r) (.slice .nil 0 [])=some false:=by cases r<;>rfl
theorem OS(sz:Nat):req .sl (.slice .nil sz []) (.slice .nil 0 [])=some true:=rfl
theorem QM(m:Bool)(H:List AObj)(e:TypeId)(sz bytes:Nat)(hb:bytes≤100000):rap false H e sz bytes false (.slice .full sz []) (.slice .some sz [])=some (.slice .full sz [],H):=by
 simp [rap,vw,pS,qR]
theorem G7{α:Type}{row:α→List AV}{sz:Nat}:∀ (m:List α),(∀ x∈m,(row x).length=sz∧(row x).all AV.cell=true)→qR sz (m.map row)=true
 |[],_=>rfl
 |x::m,h=>by
  have h1:=h x (by simp);have h2:=G7 m fun y hy=>h y (by simp [hy])
  simp only [qR,List.map_cons,List.all_cons,Bool.and_eq_true] at h2 ⊢;exact ⟨⟨by simpa using h1.1,h1.2⟩,h2⟩
theorem yP{α:Type}{row:α→List AV}:∀ (m:List α),(∀ x∈m,(row x).map AV.strip=row x)→(m.map row).map (·.map AV.strip)=m.map row
 |[],_=>rfl
 |x::m,h=>by
  simp only [List.map_cons];rw [h x (by simp),← List.map_cons];exact congrArg _ (yP m fun y hy=>h y (by simp [hy]))
theorem QN{α:Type}{row:α→List AV}{m:List α}{tg:Tag}{sz bytes:Nat}{e:TypeId}(H:List AObj)(h0:m≠[])(hm:∀ x∈m,(row x).length=sz∧(row x).all AV.cell=true)(hs:∀ x∈m,(row x).map AV.strip=row x)
  (hl:m.length*bytes≤140737488355328) (hl2:m.length≤4611686018427387904) :
  rap false H e sz bytes false (.slice .full sz []) (.slice tg sz (m.map row))=some (.slice (.own H.length) sz (m.map row),H++[.tok (m.length*sz) e]):=by
 have hr:=G7 m hm;have h3:=yP m hs;simp only [rap,vw,pS,if_true,List.length_map,List.length_nil,Nat.zero_add,true_or,or_true,hl,hl2,hr,and_true,true_and];cases m with
 |nil=>exact absurd rfl h0
 |cons x m=>
  simp only [List.map_cons] at h3 ⊢;simp only [or_true,if_true,List.length_cons,List.length_map,h3,List.nil_append] at hl hl2 hr ⊢
theorem Ja(hS:qO E){s:Sl ag}(hs:s.kn)(hn:s.l.length≤1000000)(H:List AObj):M.run eT [.slice s.tag 3 (s.l.map ag.row)] H=some (.ret (.slice .any 3 (s.l.map ag.row)),H):=by
 rw [br M hS.slices_Clone_api_Piece_api_Piece rfl (c:=eW) rfl,eW];obtain ⟨tg,l⟩:=s;simp only [Sl.kn] at hs hn ⊢;rcases hs with ⟨rfl,rfl⟩ | rfl
 ·simp (maxSteps:=3000000) (maxDischargeDepth:=6) +contextual -implicitDefEqProofs only [amC M,↓amD,Nat.reduceBEq,Nat.reduceAdd,env,aj,eY,OS,Option.map_some,dK]
 ·cases l with
  |nil=>
   have ap0:=fun H=>QM false H ah 3 32 (by decide)
   simp (maxSteps:=3000000) (maxDischargeDepth:=6) +contextual -implicitDefEqProofs only [amC M,↓amD,Nat.reduceBEq,Nat.reduceAdd,env,aj,eY,amG,AV.cell,Nat.reduceMul,Nat.reduceLeDiff,I9,Option.map_some,ap0,dK]
  |cons x l=>
   have hw:=fun n=>JZ n (x::l)
   have ap:=QN (row:=ag.row) (m:=x::l) (tg:=.some) (sz:=3) (bytes:=32) (e:=ah) H (by simp) (fun _ _=>⟨rfl,rfl⟩) (fun _ _=>rfl) (by omega) (by omega);generalize x::l=m at hw ap;simp only [rowsWk_map] at hw;simp (maxSteps:=3000000) (maxDischargeDepth:=6) +contextual -implicitDefEqProofs only [amC M,↓amD,Nat.reduceBEq,Nat.reduceAdd,env,aj,eY,amG,AV.cell,Nat.reduceMul,Nat.reduceLeDiff,I9,Option.map_some,ap,hw,implies_true,cut_app]
end
section
attribute [local congr] aI bR aZ aJ aY aR aK aC aD aS aT
variable{E:bG}(M:cJ cM E)
def OT(H:List AObj)(v:AV)(l:List (Sl ag)):Prop:=(l=[]∧∃ z,v = .slice .nil z [])∨∃ t,v = .slice (.own t) 1 (l.map dD)∧H[t]?=some (.tok (l.length*1) al)
structure ru (R:Nat→Prop) (H:List AObj) (P n:Nat) (f:Nat→List (Sl ag)) (vs:List AV):Prop where
 hP:¬ R P
 cell:H[P]?=some (.cells vs bu)
 len:vs.length=n
 own:∀ (k:Nat) (v:AV),vs[k]?=some v→OT H v (f k)
 ne:∀ (i j t:Nat) (r s:List (List AV)),vs[i]?=some (.slice (.own t) 1 r)→vs[j]?=some (.slice (.own t) 1 s)→i=j
 fr:∀ (k t:Nat) (r:List (List AV)),vs[k]?=some (.slice (.own t) 1 r)→¬ R t
theorem OT.len{H G:List AObj}{v:AV}{l:List (Sl ag)}(h:OT H v l):rG G .sl v=some (.int .i64 (l.length:Int)):=by
 rcases h with ⟨rfl,z,rfl⟩ | ⟨t,rfl,_⟩
 ·rfl
 ·simp only [rG,List.length_map]
theorem ru.app{R:Nat→Prop}{H:List AObj}{P n:Nat}{f:Nat→List (Sl ag)}{vs:List AV}(h:ru R H P n f vs)(X:List AObj):ru R (H++X) P n f vs:=
 ⟨h.hP,bD h.cell,h.len,fun k v hv=>by
  rcases h.own k v hv with h1 | ⟨t,h1,h2⟩
  ·exact .inl h1
  ·exact .inr ⟨t,h1,bD h2⟩,h.ne,h.fr⟩
theorem OT.push{H:List AObj}{v:AV}{l:List (Sl ag)}(h:OT H v l)(hb:l.length≤1000000){x:Sl ag}{r:List AV}(h1:r.length=1)(h2:r.all AV.cell=true)(h3:r.map AV.strip=dD x) :
  ∃ t G,rap false H al 1 24 false v (.slice .full 1 [r])=some (.slice (.own t) 1 ((l++[x]).map dD),G)∧G[t]?=some (.tok ((l++[x]).length*1) al)∧(t=H.length∨v = .slice (.own t) 1 (l.map dD))∧H.length≤G.length∧∀ i,i<H.length→i≠t→G[i]?=H[i]? := by
 rcases h with ⟨rfl,z,rfl⟩ | ⟨t,rfl,hg⟩
 ·refine ⟨H.length,H++[.tok 1 al], ?_,by rw [aL];rfl,.inl rfl,by simp,fun i hi _=>List.getElem?_append_left hi⟩
  simp [rap,vw,pS,om h1 h2,h3]
 ·have hlt:=cg hg
  refine ⟨t,H.set t (.tok ((l++[x]).length*1) al), ?_,List.getElem?_set_self hlt,.inr rfl,by simp,fun i _ hi=>List.getElem?_set_ne hi.symm⟩;have e1:(l.length+1)*24≤140737488355328:=by omega
  have e2:l.length+1≤4611686018427387904:=by omega
  simp only [rap,vw,pS,List.length_map,List.length_cons,List.length_nil,Nat.zero_add,or_true,if_true,e1,e2,om h1 h2,and_true,true_and,hg,List.map_cons,List.map_nil,h3,List.map_append,List.length_append,Nat.add_mul,Nat.one_mul,Nat.mul_one];rw [Nat.add_mul,Nat.one_mul] at e1;rw [if_pos e1]
theorem ru.push{R:Nat→Prop}{H:List AObj}{P n:Nat}{f:Nat→List (Sl ag)}{vs:List AV}(h:ru R H P n f vs)(hR:∀ i,R i→i<H.length){k:Nat}{v:AV}(hv:vs[k]?=some v)(hb:(f k).length≤1000000){x:Sl ag}{r:List AV}(h1:r.length=1)(h2:r.all AV.cell=true)(h3:r.map AV.strip=dD x) :
  ∃ w G,rap false H al 1 24 false v (.slice .full 1 [r])=some (w,G)∧G[P]?=some (.cells vs bu)∧(∃ t q,w = .slice (.own t) 1 q)∧ru R (G.set P (.cells (vs.set k w) bu)) P n (fun j=>if j=k then f k++[x] else f j) (vs.set k w)∧H.length≤G.length∧∀ i,R i→(G.set P (.cells (vs.set k w) bu))[i]?=H[i]? := by
 obtain ⟨t,G,a1,a2,a3,a4,a5⟩:=(h.own k v hv).push hb h1 h2 h3;have hPl:=cg h.cell;have hk:k<vs.length:=(List.getElem?_eq_some_iff.1 hv).1
 have tP:∀ (j u:Nat) (s:List (List AV)),vs[j]?=some (.slice (.own u) 1 s)→u<H.length∧u≠P:=fun j u s hj=>by
  rcases h.own j _ hj with ⟨_,_,e⟩ | ⟨t',e,hg⟩
  ·cases e
  ·cases e
   exact ⟨cg hg,fun e=>by subst e;rw [h.cell] at hg;cases hg⟩
 have tnP:t≠P:=by
  rcases a3 with rfl | e
  ·omega
  ·exact (tP k t _ (by rw [hv,e])).2
 have gP:G[P]?=some (.cells vs bu):=by rw [a5 P hPl tnP.symm];exact h.cell
 have tR:¬ R t:=by
  rcases a3 with rfl | e
  ·intro hr;have:=hR _ hr;omega
  ·exact h.fr k t _ (by rw [hv,e])
 have oth:∀ (j u:Nat) (s:List (List AV)),j≠k→vs[j]?=some (.slice (.own u) 1 s)→u≠t:=fun j u s hj hs e=>by
  subst e;rcases a3 with e | e
  ·have:=(tP j _ s hs).1;omega
  ·exact hj (h.ne j k _ s _ hs (by rw [hv,e]))
 refine ⟨_,G,a1,gP,⟨t,_,rfl⟩,⟨h.hP,List.getElem?_set_self (by omega),by simpa using h.len,fun j w hj => ?_,fun i j u r1 s1 hi hj => ?_,fun j u r1 hj => ?_⟩,a4,fun i hi => ?_⟩
 ·by_cases hjk:j=k
  ·subst hjk
   rw [List.getElem?_set_self hk] at hj;cases hj;simp only [if_true];exact .inr ⟨t,rfl,by rw [List.getElem?_set_ne tnP.symm];exact a2⟩
  ·rw [List.getElem?_set_ne (fun e=>hjk e.symm)] at hj
   simp only [if_neg hjk];rcases h.own j w hj with e | ⟨u,e1,e2⟩
   ·exact .inl e
   ·have z:=tP j u _ (by rw [hj,e1])
    exact .inr ⟨u,e1,by rw [List.getElem?_set_ne z.2.symm,a5 u z.1 (oth j u _ hjk (by rw [hj,e1]))];exact e2⟩
 ·by_cases hik:i=k
  ·by_cases hjk:j=k
   ·rw [hik,hjk]
   ·subst hik
    rw [List.getElem?_set_self hk] at hi;rw [List.getElem?_set_ne (fun e=>hjk e.symm)] at hj;cases hi;exact absurd rfl (oth j _ _ hjk hj)
  ·rw [List.getElem?_set_ne (fun e=>hik e.symm)] at hi
   by_cases hjk:j=k
   ·subst hjk
    rw [List.getElem?_set_self hk] at hj;cases hj;exact absurd rfl (oth i _ _ hik hi)
   ·rw [List.getElem?_set_ne (fun e=>hjk e.symm)] at hj
    exact h.ne i j u _ _ hi hj
 ·by_cases hjk:j=k
  ·subst hjk
   rw [List.getElem?_set_self hk] at hj;cases hj;exact tR
  ·rw [List.getElem?_set_ne (fun e=>hjk e.symm)] at hj
   exact h.fr j u _ hj
 ·rw [List.getElem?_set_ne (show P≠i from fun e=>h.hP (by rw [e];exact hi)),a5 i (hR i hi) (fun e=>tR (by rw [← e];exact hi))]
end
section
attribute [local congr] aI bR aZ aJ aY aR aK aC aD aS aT
variable{E:bG}(M:cJ cM E)
def Bt(f:Nat→List (Sl ag)):Nat→List aF→Bool
 |_,[]=>false
 |i,b::t=>(!(b.kind == 6)&&decide ((f i).length=0))||Bt f (i+1) t
theorem dr1{bl:List aF}{tg:Tag}(hbl:bl.length≤1000000){H0:List AObj}{P r:Nat}{f:Nat→List (Sl ag)}{vs:List AV}{v2:AV}:∀ (n i:Nat) (G:List AObj),i+n=bl.length→ru (fun j=>j<H0.length) G P bl.length f vs→G[r]?=some (.cells [.slice .nil 2 []] ae)→H0.length≤G.length→(∀ m,m<H0.length→G[m]?=H0[m]?) →
  ∃ G',(∀ (k:List Fra) (He:List AObj),M.go cS H0 (.c gq :: .lp ⟨(some [2,4,7,86,87,88]),[],false⟩ gq He :: .blk 2 :: .c (.lv [2,4,7])::k) (kv [(2,v2),(4,.ptr r 0),(7,.rslice P 0 bl.length 1 true),(86,.slice tg 2 (bl.map aF.row)),(87,.int .i64 bl.length),(88,.int .i64 i)]) G =
   sel (Bt f i (bl.drop i)) (some (.ret (.tuple [.agg [.slice .nil 2 []],.int .u8 1]),H0)) (M.go cS H0 k (kv [(2,v2),(4,.ptr r 0),(7,.rslice P 0 bl.length 1 true)]) G'))∧(∃ X,G'=G++X)
 |0,i,G,h,hp,hr,hl,hlow=>by
  have e:i=bl.length:=by omega
  subst e;refine ⟨G,fun k He => ?_,[],by simp⟩;rw [List.drop_length,Bt,sel_false];rw [ak M gq.eq_1];simp (maxSteps:=3000000) (maxDischargeDepth:=6) +contextual -implicitDefEqProofs only [amC M,↓amD,Nat.reduceBEq,Nat.reduceAdd,env,aj,bp,Nat.lt_irrefl]
 |n+1,i,G,h,hp,hr,hl,hlow=>by
  have hi:i<bl.length:=by omega
  have hx:bl[i]?=some bl[i]:=List.getElem?_eq_getElem hi;have hd:(bl.drop i)=bl[i]::bl.drop (i+1):=List.drop_eq_getElem_cons hi;have hwi:=bt (n:=bl.length) hi (by simp only [aX];omega);have hir:=aA (row:=aF.row) (tag:=tg) (sz:=2) (k:=.i64) hi;have hia:=qz (id:=P) hi .i64;have hiv:i<vs.length:=by rw [hp.len];exact hi
  have hv:vs[i]?=some vs[i]:=List.getElem?_eq_getElem hiv;have hld:bn none vs i=some vs[i]:=by simp only [bn,hv]
  have hln:=fun G=>(hp.own i _ hv).len (G:=G)
  have gx:=aL G [AObj.cells bl[i].row aM];rw [List.getElem?_cons_zero] at gx;have hP1:∀ X,(G++X)[P]?=_:=fun X=>bD hp.cell
  have hr1:∀ X,(G++X)[r]?=_:=fun X=>bD hr
  have low1:∀ m,m<H0.length→(G++[AObj.cells bl[i].row aM])[m]?=H0[m]? := fun m hm=>by rw [List.getElem?_append_left (by omega),hlow m hm]
  obtain ⟨hct,htk⟩:=rY (show H0.length≤(G++[AObj.cells bl[i].row aM]).length by simp;omega) low1;obtain ⟨G2,i1,X,hX⟩:=dr1 hbl (tg:=tg) (v2:=v2) n (i+1) (G++[AObj.cells bl[i].row aM]) (by omega) (hp.app _) (hr1 _) (by simp;omega) low1;have hst:=stO_cells (sz:=1) (H:=G++[AObj.cells bl[i].row aM]) (id:=r) (off:=0) (cs:=[.slice .nil 2 []]) (T:=ae) (old:=[.slice .nil 2 []]) rfl (by simp) rfl;have hss:bf [AV.slice .nil 2 []] 0 [.slice .nil 2 []]=[.slice .nil 2 []]:=rfl
  rw [hss] at hst
  have hself:(G++[AObj.cells bl[i].row aM]).set r (.cells [.slice .nil 2 []] ae)=G++[AObj.cells bl[i].row aM]:=by
   refine List.ext_getElem? fun j => ?_
   by_cases hj:j=r
   ·subst hj;rw [List.getElem?_set_self (cg (hr1 _)),hr1]
   ·rw [List.getElem?_set_ne (fun e=>hj e.symm)]
  rw [hself] at hst;have hh:=Br hct 1;rw [htk] at hh;refine ⟨G2,fun k He => ?_,AObj.cells bl[i].row aM::X,by rw [hX];simp⟩;have i2:=i1 k;simp only [kv_cons,kv_nil] at i2;rw [hd,Bt];cases c1:bl[i].kind == 6 with
  |true=>
   rw [Bool.not_true,Bool.false_and,Bool.false_or];rw [ak M gq.eq_1];simp (maxSteps:=3000000) (maxDischargeDepth:=6) +contextual -implicitDefEqProofs only [amC M,↓amD,Nat.reduceBEq,Nat.reduceAdd,env,aj,bp,amG,AV.cell,Nat.reduceMul,Nat.reduceLeDiff,hi,hx,hir,hwi,ct,gx,c1,i2,Bool.not_true]
  |false=>
   rw [Bool.not_false,Bool.true_and]
   by_cases h0:(f i).length=0
   ·have q0:(((f i).length:Int) == 0)=true:=by rw [h0];rfl
    rw [decide_eq_true h0,Bool.true_or,sel_true];rw [ak M gq.eq_1];simp (maxSteps:=3000000) (maxDischargeDepth:=6) +contextual -implicitDefEqProofs only [amC M,↓amD,Nat.reduceBEq,Nat.reduceAdd,env,aj,bp,amG,AV.cell,Nat.reduceMul,Nat.reduceLeDiff,hi,hx,hir,hwi,ct,gx,c1,hia,hP1,hld,hln,q0,hr1,hst,hss,hself,hh,Bool.not_false]
   ·have q0:(((f i).length:Int) == 0)=false:=beq_eq_false_iff_ne.2 (by omega)
    rw [decide_eq_false h0,Bool.false_or];rw [ak M gq.eq_1];simp (maxSteps:=3000000) (maxDischargeDepth:=6) +contextual -implicitDefEqProofs only [amC M,↓amD,Nat.reduceBEq,Nat.reduceAdd,env,aj,bp,amG,AV.cell,Nat.reduceMul,Nat.reduceLeDiff,hi,hx,hir,hwi,ct,gx,c1,hia,hP1,hld,hln,q0,i2,Bool.not_false]
end
end Go.Am
