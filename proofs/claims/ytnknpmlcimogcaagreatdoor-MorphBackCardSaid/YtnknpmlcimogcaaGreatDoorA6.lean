import Derived.Test.YtnknpmlcimogcaaGreatDoorA5
import Derived.Lib.Bytealg
import Derived.Lib.AtoiAll
/-
  Part 6 of the tool: an abstract machine over the model, proved sound, and what it says of the functions that the law reaches. Condition: none but those that each theorem names.
-/
set_option linter.unusedVariables false
set_option linter.unusedSimpArgs false
set_option maxRecDepth 100000
set_option maxHeartbeats 4000000
namespace Go.Am
open Go.RowKit
section
attribute [local congr] aw aW cM bt aA bf aM aC ao aq aN aO
variable{E:bc}(M:cE bT E)
def A1{α:Type}(p:α→Bool):Nat→α→Option AV:=fun i x=>sel (p x) (some (.int .i64 (i:Int))) none
def Aw{α:Type}(p:α→Bool):Nat→List α→Int
 |_,[] => -1
 |i,x::l=>sel (p x) (i:Int) (Aw p (i+1) l)
theorem oY{α:Type}(p:α→Bool):∀ (l:List α) (i:Nat) (H:List AObj),orE (fJ (A1 p) i l) H (some (.ret (.int .i64 (-1)),H))=some (.ret (.int .i64 (Aw p i l)),H)
 |[],i,H=>rfl
 |x::l,i,H=>by
  rw [zT,A1,Aw,JL,JK,Gm,Gn,Gl,oY p l];cases p x<;>rfl
theorem u4{α:Type}(p:α→Bool):∀ (l:List α) (i:Nat),decide ((0:Int)≤Aw p i l)=l.any p
 |[],i=>rfl
 |x::l,i=>by
  rw [Aw,List.any_cons,← u4 p l (i+1)];cases p x with
  |true=>simp only [sel,Bool.true_or];exact decide_eq_true (by omega)
  |false=>simp only [sel,Bool.false_or];rfl
theorem IE{H H0:List AObj}{g:Nat}{fr cap:List AV}{p:aV→Bool}{tg:Tag}{l:List aV}(hs:l.length≤bY)(hp:∀ x∈l,M.run g (fr ++ .agg (aV.row x)::cap) H=some (.ret (.bool (p x)),H))(hc:dP H0 H)(k:List Fra):∀ (n i:Nat) (He:List AObj),i+n=l.length →
  M.go aX H0 (.c bQ :: .lp ⟨(some [0,1,7,8]),[],false⟩ bQ He :: .blk 0 :: .c (.lv [])::k) (kv [(0,.slice tg 2 (l.map aV.row)),(1,.fn (.func g) fr cap),(7,.int .i64 l.length),(8,.int .i64 i)]) H =
   orE (fJ (A1 p) i (l.drop i)) (H.take H0.length) (M.go aX H0 k .leaf H)
 |0,i,He,h=>by
  have e:i=l.length:=by omega
  subst e;rw [au M bQ.eq_1];simp (maxSteps:=3000000) (maxDischargeDepth:=6) +contextual -implicitDefEqProofs only [amC M,↓amD,Nat.reduceBEq,Nat.reduceAdd,env,ag,dZ,Nat.lt_irrefl,List.drop_length]
 |n+1,i,He,h=>by
  have hi:i<l.length:=by omega
  have hx:l[i]?=some l[i]:=List.getElem?_eq_getElem hi;have hd:(l.drop i)=l[i]::l.drop (i+1):=List.drop_eq_getElem_cons hi;have hm:l[i]∈l:=List.getElem_mem hi;have ih:=fun He=>IE (H:=H) (H0:=H0) (g:=g) (fr:=fr) (cap:=cap) (p:=p) (tg:=tg) (l:=l) (hs:=hs) (hp:=hp) hc k n (i+1)  He (by omega)
  simp only [kv_cons,kv_nil] at ih;rw [au M bQ.eq_1];simp (maxSteps:=3000000) (maxDischargeDepth:=6) +contextual -implicitDefEqProofs only [amC M,↓amD,Nat.reduceBEq,Nat.reduceAdd,env,ag,dZ,hx,hd,hi,ih,hp,hm,cY hi hs,bG hi,qM,A1,hc]
theorem sZ(hf:E.fn bC=some aX){g:Nat}{fr cap:List AV}{p:aV→Bool}{tg:Tag}{l:List aV}(hs:l.length≤bY){H:List AObj}
  (hp:∀ x∈l,M.run g (fr ++ .agg (aV.row x)::cap) H=some (.ret (.bool (p x)),H)) :
  M.run bC [.slice tg 2 (l.map aV.row),.fn (.func g) fr cap] H=some (.ret (.int .i64 (Aw p 0 l)),H):=by
 rw [aP M hf rfl (c:=dY) rfl,dY];have hl:=fun k He=>IE M (tg:=tg) hs hp (cut_refl H) k l.length 0 He (by omega)
 simp only [kv_cons,kv_nil,Int.ofNat_zero,List.drop_zero] at hl;simp (maxSteps:=3000000) (maxDischargeDepth:=6) +contextual -implicitDefEqProofs only [amC M,↓amD,Nat.reduceBEq,Nat.reduceAdd,env,ag,dZ,hl];exact oY p l 0 H
theorem yk(hf:E.fn bC=some aX)(hg:E.fn cG=some bN){g:Nat}{fr cap:List AV}{p:aV→Bool}{tg:Tag}{l:List aV}(hs:l.length≤bY){H:List AObj}
  (hp:∀ x∈l,M.run g (fr ++ .agg (aV.row x)::cap) H=some (.ret (.bool (p x)),H)) :
  M.run cG [.slice tg 2 (l.map aV.row),.fn (.func g) fr cap] H=some (.ret (.bool (l.any p)),H):=by
 rw [aP M hg rfl (c:=dv) rfl,dv];simp (maxSteps:=3000000) (maxDischargeDepth:=6) +contextual -implicitDefEqProofs only [amC M,↓amD,Nat.reduceBEq,Nat.reduceAdd,env,ag,ln,sZ M hf hs hp,u4]
theorem IF{H H0:List AObj}{g:Nat}{fr cap:List AV}{p:aL→Bool}{tg:Tag}{l:List aL}(hs:l.length≤bY)(hp:∀ x∈l,M.run g (fr ++ .agg (aL.row x)::cap) H=some (.ret (.bool (p x)),H))(hc:dP H0 H)(k:List Fra):∀ (n i:Nat) (He:List AObj),i+n=l.length →
  M.go aY H0 (.c bR :: .lp ⟨(some [0,1,7,8]),[],false⟩ bR He :: .blk 0 :: .c (.lv [])::k) (kv [(0,.slice tg 2 (l.map aL.row)),(1,.fn (.func g) fr cap),(7,.int .i64 l.length),(8,.int .i64 i)]) H =
   orE (fJ (A1 p) i (l.drop i)) (H.take H0.length) (M.go aY H0 k .leaf H)
 |0,i,He,h=>by
  have e:i=l.length:=by omega
  subst e;rw [au M bR.eq_1];simp (maxSteps:=3000000) (maxDischargeDepth:=6) +contextual -implicitDefEqProofs only [amC M,↓amD,Nat.reduceBEq,Nat.reduceAdd,env,ag,ed,Nat.lt_irrefl,List.drop_length]
 |n+1,i,He,h=>by
  have hi:i<l.length:=by omega
  have hx:l[i]?=some l[i]:=List.getElem?_eq_getElem hi;have hd:(l.drop i)=l[i]::l.drop (i+1):=List.drop_eq_getElem_cons hi;have hm:l[i]∈l:=List.getElem_mem hi;have ih:=fun He=>IF (H:=H) (H0:=H0) (g:=g) (fr:=fr) (cap:=cap) (p:=p) (tg:=tg) (l:=l) (hs:=hs) (hp:=hp) hc k n (i+1)  He (by omega)
  simp only [kv_cons,kv_nil] at ih;rw [au M bR.eq_1];simp (maxSteps:=3000000) (maxDischargeDepth:=6) +contextual -implicitDefEqProofs only [amC M,↓amD,Nat.reduceBEq,Nat.reduceAdd,env,ag,ed,hx,hd,hi,ih,hp,hm,cY hi hs,bG hi,mM,A1,hc]
theorem nG(hf:E.fn bD=some aY){g:Nat}{fr cap:List AV}{p:aL→Bool}{tg:Tag}{l:List aL}(hs:l.length≤bY){H:List AObj}
  (hp:∀ x∈l,M.run g (fr ++ .agg (aL.row x)::cap) H=some (.ret (.bool (p x)),H)) :
  M.run bD [.slice tg 2 (l.map aL.row),.fn (.func g) fr cap] H=some (.ret (.int .i64 (Aw p 0 l)),H):=by
 rw [aP M hf rfl (c:=eb) rfl,eb];have hl:=fun k He=>IF M (tg:=tg) hs hp (cut_refl H) k l.length 0 He (by omega)
 simp only [kv_cons,kv_nil,Int.ofNat_zero,List.drop_zero] at hl;simp (maxSteps:=3000000) (maxDischargeDepth:=6) +contextual -implicitDefEqProofs only [amC M,↓amD,Nat.reduceBEq,Nat.reduceAdd,env,ag,ed,hl];exact oY p l 0 H
theorem yl(hf:E.fn bD=some aY)(hg:E.fn cH=some bO){g:Nat}{fr cap:List AV}{p:aL→Bool}{tg:Tag}{l:List aL}(hs:l.length≤bY){H:List AObj}
  (hp:∀ x∈l,M.run g (fr ++ .agg (aL.row x)::cap) H=some (.ret (.bool (p x)),H)) :
  M.run cH [.slice tg 2 (l.map aL.row),.fn (.func g) fr cap] H=some (.ret (.bool (l.any p)),H):=by
 rw [aP M hg rfl (c:=dw) rfl,dw];simp (maxSteps:=3000000) (maxDischargeDepth:=6) +contextual -implicitDefEqProofs only [amC M,↓amD,Nat.reduceBEq,Nat.reduceAdd,env,ag,lq,nG M hf hs hp,u4]
theorem IG{H H0:List AObj}{g:Nat}{fr cap:List AV}{p:bp→Bool}{tg:Tag}{l:List bp}(hs:l.length≤bY)(hp:∀ x∈l,M.run g (fr ++ .agg (bp.row x)::cap) H=some (.ret (.bool (p x)),H))(hc:dP H0 H)(k:List Fra):∀ (n i:Nat) (He:List AObj),i+n=l.length →
  M.go aH H0 (.c bz :: .lp ⟨(some [0,1,7,8]),[],false⟩ bz He :: .blk 0 :: .c (.lv [])::k) (kv [(0,.slice tg 2 (l.map bp.row)),(1,.fn (.func g) fr cap),(7,.int .i64 l.length),(8,.int .i64 i)]) H =
   orE (fJ (A1 p) i (l.drop i)) (H.take H0.length) (M.go aH H0 k .leaf H)
 |0,i,He,h=>by
  have e:i=l.length:=by omega
  subst e;rw [au M bz.eq_1];simp (maxSteps:=3000000) (maxDischargeDepth:=6) +contextual -implicitDefEqProofs only [amC M,↓amD,Nat.reduceBEq,Nat.reduceAdd,env,ag,cX,Nat.lt_irrefl,List.drop_length]
 |n+1,i,He,h=>by
  have hi:i<l.length:=by omega
  have hx:l[i]?=some l[i]:=List.getElem?_eq_getElem hi;have hd:(l.drop i)=l[i]::l.drop (i+1):=List.drop_eq_getElem_cons hi;have hm:l[i]∈l:=List.getElem_mem hi;have ih:=fun He=>IG (H:=H) (H0:=H0) (g:=g) (fr:=fr) (cap:=cap) (p:=p) (tg:=tg) (l:=l) (hs:=hs) (hp:=hp) hc k n (i+1)  He (by omega)
  simp only [kv_cons,kv_nil] at ih;rw [au M bz.eq_1];simp (maxSteps:=3000000) (maxDischargeDepth:=6) +contextual -implicitDefEqProofs only [amC M,↓amD,Nat.reduceBEq,Nat.reduceAdd,env,ag,cX,hx,hd,hi,ih,hp,hm,cY hi hs,bG hi,De,A1,hc]
theorem A3(hf:E.fn bB=some aH){g:Nat}{fr cap:List AV}{p:bp→Bool}{tg:Tag}{l:List bp}(hs:l.length≤bY){H:List AObj}
  (hp:∀ x∈l,M.run g (fr ++ .agg (bp.row x)::cap) H=some (.ret (.bool (p x)),H)) :
  M.run bB [.slice tg 2 (l.map bp.row),.fn (.func g) fr cap] H=some (.ret (.int .i64 (Aw p 0 l)),H):=by
 rw [aP M hf rfl (c:=cW) rfl,cW];have hl:=fun k He=>IG M (tg:=tg) hs hp (cut_refl H) k l.length 0 He (by omega)
 simp only [kv_cons,kv_nil,Int.ofNat_zero,List.drop_zero] at hl;simp (maxSteps:=3000000) (maxDischargeDepth:=6) +contextual -implicitDefEqProofs only [amC M,↓amD,Nat.reduceBEq,Nat.reduceAdd,env,ag,cX,hl];exact oY p l 0 H
theorem ym(hf:E.fn bB=some aH)(hg:E.fn bL=some bu){g:Nat}{fr cap:List AV}{p:bp→Bool}{tg:Tag}{l:List bp}(hs:l.length≤bY){H:List AObj}
  (hp:∀ x∈l,M.run g (fr ++ .agg (bp.row x)::cap) H=some (.ret (.bool (p x)),H)) :
  M.run bL [.slice tg 2 (l.map bp.row),.fn (.func g) fr cap] H=some (.ret (.bool (l.any p)),H):=by
 rw [aP M hg rfl (c:=cN) rfl,cN];simp (maxSteps:=3000000) (maxDischargeDepth:=6) +contextual -implicitDefEqProofs only [amC M,↓amD,Nat.reduceBEq,Nat.reduceAdd,env,ag,jb,A3 M hf hs hp,u4]
theorem II{H H0:List AObj}{g:Nat}{fr cap:List AV}{p:aI→Bool}{tg:Tag}{l:List aI}(hs:l.length≤bY)(hp:∀ x∈l,M.run g (fr ++ .agg (aI.row x)::cap) H=some (.ret (.bool (p x)),H))(hc:dP H0 H)(k:List Fra):∀ (n i:Nat) (He:List AObj),i+n=l.length →
  M.go aZ H0 (.c bS :: .lp ⟨(some [0,1,7,8]),[],false⟩ bS He :: .blk 0 :: .c (.lv [])::k) (kv [(0,.slice tg 4 (l.map aI.row)),(1,.fn (.func g) fr cap),(7,.int .i64 l.length),(8,.int .i64 i)]) H =
   orE (fJ (A1 p) i (l.drop i)) (H.take H0.length) (M.go aZ H0 k .leaf H)
 |0,i,He,h=>by
  have e:i=l.length:=by omega
  subst e;rw [au M bS.eq_1];simp (maxSteps:=3000000) (maxDischargeDepth:=6) +contextual -implicitDefEqProofs only [amC M,↓amD,Nat.reduceBEq,Nat.reduceAdd,env,ag,ei,Nat.lt_irrefl,List.drop_length]
 |n+1,i,He,h=>by
  have hi:i<l.length:=by omega
  have hx:l[i]?=some l[i]:=List.getElem?_eq_getElem hi;have hd:(l.drop i)=l[i]::l.drop (i+1):=List.drop_eq_getElem_cons hi;have hm:l[i]∈l:=List.getElem_mem hi;have ih:=fun He=>II (H:=H) (H0:=H0) (g:=g) (fr:=fr) (cap:=cap) (p:=p) (tg:=tg) (l:=l) (hs:=hs) (hp:=hp) hc k n (i+1)  He (by omega)
  simp only [kv_cons,kv_nil] at ih;rw [au M bS.eq_1];simp (maxSteps:=3000000) (maxDischargeDepth:=6) +contextual -implicitDefEqProofs only [amC M,↓amD,Nat.reduceBEq,Nat.reduceAdd,env,ag,ei,hx,hd,hi,ih,hp,hm,cY hi hs,bG hi,sg,A1,hc]
theorem A4(hf:E.fn b7=some aZ){g:Nat}{fr cap:List AV}{p:aI→Bool}{tg:Tag}{l:List aI}(hs:l.length≤bY){H:List AObj}
  (hp:∀ x∈l,M.run g (fr ++ .agg (aI.row x)::cap) H=some (.ret (.bool (p x)),H)) :
  M.run b7 [.slice tg 4 (l.map aI.row),.fn (.func g) fr cap] H=some (.ret (.int .i64 (Aw p 0 l)),H):=by
 rw [aP M hf rfl (c:=eh) rfl,eh];have hl:=fun k He=>II M (tg:=tg) hs hp (cut_refl H) k l.length 0 He (by omega)
 simp only [kv_cons,kv_nil,Int.ofNat_zero,List.drop_zero] at hl;simp (maxSteps:=3000000) (maxDischargeDepth:=6) +contextual -implicitDefEqProofs only [amC M,↓amD,Nat.reduceBEq,Nat.reduceAdd,env,ag,ei,hl];exact oY p l 0 H
theorem yn(hf:E.fn b7=some aZ)(hg:E.fn cI=some bP){g:Nat}{fr cap:List AV}{p:aI→Bool}{tg:Tag}{l:List aI}(hs:l.length≤bY){H:List AObj}
  (hp:∀ x∈l,M.run g (fr ++ .agg (aI.row x)::cap) H=some (.ret (.bool (p x)),H)) :
  M.run cI [.slice tg 4 (l.map aI.row),.fn (.func g) fr cap] H=some (.ret (.bool (l.any p)),H):=by
 rw [aP M hg rfl (c:=dx) rfl,dx];simp (maxSteps:=3000000) (maxDischargeDepth:=6) +contextual -implicitDefEqProofs only [amC M,↓amD,Nat.reduceBEq,Nat.reduceAdd,env,ag,lu,A4 M hf hs hp,u4]
theorem Lr{H H0:List AObj}{g:Nat}{fr cap:List AV}{p:aJ→Bool}{tg:Tag}{l:List aJ}(hs:l.length≤bY)(hp:∀ x∈l,M.run g (fr ++ .agg (aJ.row x)::cap) H=some (.ret (.bool (p x)),H))(hc:dP H0 H)(k:List Fra):∀ (n i:Nat) (He:List AObj),i+n=l.length →
  M.go bj H0 (.c b9 :: .lp ⟨(some [0,1,7,8]),[],false⟩ b9 He :: .blk 0 :: .c (.lv [])::k) (kv [(0,.slice tg 2 (l.map aJ.row)),(1,.fn (.func g) fr cap),(7,.int .i64 l.length),(8,.int .i64 i)]) H =
   orE (fJ (A1 p) i (l.drop i)) (H.take H0.length) (M.go bj H0 k .leaf H)
 |0,i,He,h=>by
  have e:i=l.length:=by omega
  subst e;rw [au M b9.eq_1];simp (maxSteps:=3000000) (maxDischargeDepth:=6) +contextual -implicitDefEqProofs only [amC M,↓amD,Nat.reduceBEq,Nat.reduceAdd,env,ag,eA,Nat.lt_irrefl,List.drop_length]
 |n+1,i,He,h=>by
  have hi:i<l.length:=by omega
  have hx:l[i]?=some l[i]:=List.getElem?_eq_getElem hi;have hd:(l.drop i)=l[i]::l.drop (i+1):=List.drop_eq_getElem_cons hi;have hm:l[i]∈l:=List.getElem_mem hi;have ih:=fun He=>Lr (H:=H) (H0:=H0) (g:=g) (fr:=fr) (cap:=cap) (p:=p) (tg:=tg) (l:=l) (hs:=hs) (hp:=hp) hc k n (i+1)  He (by omega)
  simp only [kv_cons,kv_nil] at ih;rw [au M b9.eq_1];simp (maxSteps:=3000000) (maxDischargeDepth:=6) +contextual -implicitDefEqProofs only [amC M,↓amD,Nat.reduceBEq,Nat.reduceAdd,env,ag,eA,hx,hd,hi,ih,hp,hm,cY hi hs,bG hi,zR,A1,hc]
theorem BM(hf:E.fn cr=some bj){g:Nat}{fr cap:List AV}{p:aJ→Bool}{tg:Tag}{l:List aJ}(hs:l.length≤bY){H:List AObj}
  (hp:∀ x∈l,M.run g (fr ++ .agg (aJ.row x)::cap) H=some (.ret (.bool (p x)),H)) :
  M.run cr [.slice tg 2 (l.map aJ.row),.fn (.func g) fr cap] H=some (.ret (.int .i64 (Aw p 0 l)),H):=by
 rw [aP M hf rfl (c:=ez) rfl,ez];have hl:=fun k He=>Lr M (tg:=tg) hs hp (cut_refl H) k l.length 0 He (by omega)
 simp only [kv_cons,kv_nil,Int.ofNat_zero,List.drop_zero] at hl;simp (maxSteps:=3000000) (maxDischargeDepth:=6) +contextual -implicitDefEqProofs only [amC M,↓amD,Nat.reduceBEq,Nat.reduceAdd,env,ag,eA,hl];exact oY p l 0 H
theorem qI(hf:E.fn cr=some bj)(hg:E.fn bV=some bX){g:Nat}{fr cap:List AV}{p:aJ→Bool}{tg:Tag}{l:List aJ}(hs:l.length≤bY){H:List AObj}
  (hp:∀ x∈l,M.run g (fr ++ .agg (aJ.row x)::cap) H=some (.ret (.bool (p x)),H)) :
  M.run bV [.slice tg 2 (l.map aJ.row),.fn (.func g) fr cap] H=some (.ret (.bool (l.any p)),H):=by
 rw [aP M hg rfl (c:=dN) rfl,dN];simp (maxSteps:=3000000) (maxDischargeDepth:=6) +contextual -implicitDefEqProofs only [amC M,↓amD,Nat.reduceBEq,Nat.reduceAdd,env,ag,mA,BM M hf hs hp,u4]
theorem Ls{H H0:List AObj}{g:Nat}{fr cap:List AV}{p:bF→Bool}{tg:Tag}{l:List bF}(hs:l.length≤bY)(hp:∀ x∈l,M.run g (fr ++ .agg (bF.row x)::cap) H=some (.ret (.bool (p x)),H))(hc:dP H0 H)(k:List Fra):∀ (n i:Nat) (He:List AObj),i+n=l.length →
  M.go bh H0 (.c b8 :: .lp ⟨(some [0,1,7,8]),[],false⟩ b8 He :: .blk 0 :: .c (.lv [])::k) (kv [(0,.slice tg 4 (l.map bF.row)),(1,.fn (.func g) fr cap),(7,.int .i64 l.length),(8,.int .i64 i)]) H =
   orE (fJ (A1 p) i (l.drop i)) (H.take H0.length) (M.go bh H0 k .leaf H)
 |0,i,He,h=>by
  have e:i=l.length:=by omega
  subst e;rw [au M b8.eq_1];simp (maxSteps:=3000000) (maxDischargeDepth:=6) +contextual -implicitDefEqProofs only [amC M,↓amD,Nat.reduceBEq,Nat.reduceAdd,env,ag,ey,Nat.lt_irrefl,List.drop_length]
 |n+1,i,He,h=>by
  have hi:i<l.length:=by omega
  have hx:l[i]?=some l[i]:=List.getElem?_eq_getElem hi;have hd:(l.drop i)=l[i]::l.drop (i+1):=List.drop_eq_getElem_cons hi;have hm:l[i]∈l:=List.getElem_mem hi;have ih:=fun He=>Ls (H:=H) (H0:=H0) (g:=g) (fr:=fr) (cap:=cap) (p:=p) (tg:=tg) (l:=l) (hs:=hs) (hp:=hp) hc k n (i+1)  He (by omega)
  simp only [kv_cons,kv_nil] at ih;rw [au M b8.eq_1];simp (maxSteps:=3000000) (maxDischargeDepth:=6) +contextual -implicitDefEqProofs only [amC M,↓amD,Nat.reduceBEq,Nat.reduceAdd,env,ag,ey,hx,hd,hi,ih,hp,hm,cY hi hs,bG hi,Gi,A1,hc]
theorem BN(hf:E.fn cq=some bh){g:Nat}{fr cap:List AV}{p:bF→Bool}{tg:Tag}{l:List bF}(hs:l.length≤bY){H:List AObj}
  (hp:∀ x∈l,M.run g (fr ++ .agg (bF.row x)::cap) H=some (.ret (.bool (p x)),H)) :
  M.run cq [.slice tg 4 (l.map bF.row),.fn (.func g) fr cap] H=some (.ret (.int .i64 (Aw p 0 l)),H):=by
 rw [aP M hf rfl (c:=ew) rfl,ew];have hl:=fun k He=>Ls M (tg:=tg) hs hp (cut_refl H) k l.length 0 He (by omega)
 simp only [kv_cons,kv_nil,Int.ofNat_zero,List.drop_zero] at hl;simp (maxSteps:=3000000) (maxDischargeDepth:=6) +contextual -implicitDefEqProofs only [amC M,↓amD,Nat.reduceBEq,Nat.reduceAdd,env,ag,ey,hl];exact oY p l 0 H
theorem za(hf:E.fn cq=some bh)(hg:E.fn cQ=some bW){g:Nat}{fr cap:List AV}{p:bF→Bool}{tg:Tag}{l:List bF}(hs:l.length≤bY){H:List AObj}
  (hp:∀ x∈l,M.run g (fr ++ .agg (bF.row x)::cap) H=some (.ret (.bool (p x)),H)) :
  M.run cQ [.slice tg 4 (l.map bF.row),.fn (.func g) fr cap] H=some (.ret (.bool (l.any p)),H):=by
 rw [aP M hg rfl (c:=dM) rfl,dM];simp (maxSteps:=3000000) (maxDischargeDepth:=6) +contextual -implicitDefEqProofs only [amC M,↓amD,Nat.reduceBEq,Nat.reduceAdd,env,ag,mz,BN M hf hs hp,u4]
end
section
attribute [local congr] aw aW cM bt aA bf aM aC ao aq aN aO
variable{E:bc}(M:cE bT E)
def ui{α:Type}(F:Nat→α→Int):Nat→α→Option AV:=fun i x=>sel (!(F i x == 0)) (some (.int .u8 (F i x))) none
def A5{α:Type}(F:Nat→α→Int):Nat→List α→Int
 |_,[]=>0
 |i,x::l=>sel (!(F i x == 0)) (F i x) (A5 F (i+1) l)
theorem ko{α:Type}(F:Nat→α→Int):∀ (l:List α) (i:Nat) (H:List AObj),orE (fJ (ui F) i l) H (some (.ret (.int .u8 0),H))=some (.ret (.int .u8 (A5 F i l)),H)
 |[],i,H=>rfl
 |x::l,i,H=>by
  rw [zT,ui,A5,JL,JK,Gm,Gn,Gl,ko F l];cases (!(F i x == 0))<;>rfl
def kr{α:Type}(most:Int)(F:Nat→α→Int)(l:List α):Int:=sel (decide (most<(l.length:Int))) 3 (A5 F 0 l)
theorem GH{H H0:List AObj}{g:Nat}{fr cap:List AV}{F:Nat→aV→Int}{tg:Tag}{l:List aV}(hs:l.length≤bY)(hfw:Wk H.length (.fn (.func g) fr cap) (.fn (.func g) fr cap))(hlw:Wk H.length (.slice tg 2 (l.map aV.row)) (.slice tg 2 (l.map aV.row)))(hp:∀ (L:List AObj) (i:Nat) (x:aV),l[i]?=some x→M.run g (fr ++ .int .i64 i :: .agg (aV.row x)::cap) (H++L)=some (.ret (.int .u8 (F i x)),H++L))(hc:dP H0 H)(k:List Fra):∀ (n i:Nat),i+n=l.length →
  M.go dj H0 (.c eH :: .lp ⟨(some [2,14,15,16]),[],true⟩ eH H :: .blk 0 :: .c (.lv [])::k) (kv [(2,.fn (.func g) fr cap),(14,.slice tg 2 (l.map aV.row)),(15,.int .i64 l.length),(16,.int .i64 i)]) H =
   orE (fJ (ui F) i (l.drop i)) (H.take H0.length) (M.go dj H0 k .leaf H)
 |0,i,h=>by
  have e:i=l.length:=by omega
  subst e;rw [au M eH.eq_1];simp (maxSteps:=3000000) (maxDischargeDepth:=6) +contextual -implicitDefEqProofs only [amC M,↓amD,Nat.reduceBEq,Nat.reduceAdd,env,ag,kJ,Nat.lt_irrefl,List.drop_length]
 |n+1,i,h=>by
  have hi:i<l.length:=by omega
  have hx:l[i]?=some l[i]:=List.getElem?_eq_getElem hi;have hd:(l.drop i)=l[i]::l.drop (i+1):=List.drop_eq_getElem_cons hi;have hm:l[i]∈l:=List.getElem_mem hi;have ih:=GH (H:=H) (H0:=H0) (g:=g) (fr:=fr) (cap:=cap) (F:=F) (tg:=tg) (l:=l) (hs:=hs) (hfw:=hfw) (hlw:=hlw) (hp:=hp) hc k n (i+1)  (by omega);simp only [kv_cons,kv_nil] at ih;have hp:=fun L=>hp L i l[i] hx
  rw [au M eH.eq_1];simp (maxSteps:=3000000) (maxDischargeDepth:=6) +contextual -implicitDefEqProofs only [amC M,↓amD,Nat.reduceBEq,Nat.reduceAdd,env,ag,kJ,hx,hd,hi,ih,amG,AV.cell,hp,hfw,hlw,cY hi hs,bG hi,qM,ui,hc]
theorem GI(hf:E.fn gX=some dj){g:Nat}{fr cap:List AV}{F:Nat→aV→Int}{tg:Tag}{l:List aV}{H:List AObj}(hs:l.length≤bY)(hfw:Wk H.length (.fn (.func g) fr cap) (.fn (.func g) fr cap))(hlw:Wk H.length (.slice tg 2 (l.map aV.row)) (.slice tg 2 (l.map aV.row)))
  (hp:∀ (L:List AObj) (i:Nat) (x:aV),l[i]?=some x→M.run g (fr ++ .int .i64 i :: .agg (aV.row x)::cap) (H++L)=some (.ret (.int .u8 (F i x)),H++L)) (most:Int) :
  M.run gX [.slice tg 2 (l.map aV.row),.int .i64 most,.fn (.func g) fr cap] H=some (.ret (.int .u8 (kr most F l)),H):=by
 rw [aP M hf rfl (c:=kI) rfl,kI];have hl:=fun k=>GH M (tg:=tg) hs hfw hlw hp (cut_refl H) k l.length 0 (by omega)
 simp only [kv_cons,kv_nil,Int.ofNat_zero,List.drop_zero] at hl;simp (maxSteps:=3000000) (maxDischargeDepth:=6) +contextual -implicitDefEqProofs only [amC M,↓amD,Nat.reduceBEq,Nat.reduceAdd,env,ag,kJ,hl];rw [ko,kr];cases decide (most<(l.length:Int))<;>rfl
theorem IJ{H H0:List AObj}{g:Nat}{fr cap:List AV}{F:Nat→aJ→Int}{tg:Tag}{l:List aJ}(hs:l.length≤bY)(hfw:Wk H.length (.fn (.func g) fr cap) (.fn (.func g) fr cap))(hlw:Wk H.length (.slice tg 2 (l.map aJ.row)) (.slice tg 2 (l.map aJ.row)))(hp:∀ (L:List AObj) (i:Nat) (x:aJ),l[i]?=some x→M.run g (fr ++ .int .i64 i :: .agg (aJ.row x)::cap) (H++L)=some (.ret (.int .u8 (F i x)),H++L))(hc:dP H0 H)(k:List Fra):∀ (n i:Nat),i+n=l.length →
  M.go dH H0 (.c fp :: .lp ⟨(some [2,14,15,16]),[],true⟩ fp H :: .blk 0 :: .c (.lv [])::k) (kv [(2,.fn (.func g) fr cap),(14,.slice tg 2 (l.map aJ.row)),(15,.int .i64 l.length),(16,.int .i64 i)]) H =
   orE (fJ (ui F) i (l.drop i)) (H.take H0.length) (M.go dH H0 k .leaf H)
 |0,i,h=>by
  have e:i=l.length:=by omega
  subst e;rw [au M fp.eq_1];simp (maxSteps:=3000000) (maxDischargeDepth:=6) +contextual -implicitDefEqProofs only [amC M,↓amD,Nat.reduceBEq,Nat.reduceAdd,env,ag,l9,Nat.lt_irrefl,List.drop_length]
 |n+1,i,h=>by
  have hi:i<l.length:=by omega
  have hx:l[i]?=some l[i]:=List.getElem?_eq_getElem hi;have hd:(l.drop i)=l[i]::l.drop (i+1):=List.drop_eq_getElem_cons hi;have hm:l[i]∈l:=List.getElem_mem hi;have ih:=IJ (H:=H) (H0:=H0) (g:=g) (fr:=fr) (cap:=cap) (F:=F) (tg:=tg) (l:=l) (hs:=hs) (hfw:=hfw) (hlw:=hlw) (hp:=hp) hc k n (i+1)  (by omega);simp only [kv_cons,kv_nil] at ih;have hp:=fun L=>hp L i l[i] hx
  rw [au M fp.eq_1];simp (maxSteps:=3000000) (maxDischargeDepth:=6) +contextual -implicitDefEqProofs only [amC M,↓amD,Nat.reduceBEq,Nat.reduceAdd,env,ag,l9,hx,hd,hi,ih,amG,AV.cell,hp,hfw,hlw,cY hi hs,bG hi,zR,ui,hc]
theorem HS(hf:E.fn iY=some dH){g:Nat}{fr cap:List AV}{F:Nat→aJ→Int}{tg:Tag}{l:List aJ}{H:List AObj}(hs:l.length≤bY)(hfw:Wk H.length (.fn (.func g) fr cap) (.fn (.func g) fr cap))(hlw:Wk H.length (.slice tg 2 (l.map aJ.row)) (.slice tg 2 (l.map aJ.row)))
  (hp:∀ (L:List AObj) (i:Nat) (x:aJ),l[i]?=some x→M.run g (fr ++ .int .i64 i :: .agg (aJ.row x)::cap) (H++L)=some (.ret (.int .u8 (F i x)),H++L)) (most:Int) :
  M.run iY [.slice tg 2 (l.map aJ.row),.int .i64 most,.fn (.func g) fr cap] H=some (.ret (.int .u8 (kr most F l)),H):=by
 rw [aP M hf rfl (c:=l8) rfl,l8];have hl:=fun k=>IJ M (tg:=tg) hs hfw hlw hp (cut_refl H) k l.length 0 (by omega)
 simp only [kv_cons,kv_nil,Int.ofNat_zero,List.drop_zero] at hl;simp (maxSteps:=3000000) (maxDischargeDepth:=6) +contextual -implicitDefEqProofs only [amC M,↓amD,Nat.reduceBEq,Nat.reduceAdd,env,ag,l9,hl];rw [ko,kr];cases decide (most<(l.length:Int))<;>rfl
theorem IK{H H0:List AObj}{g:Nat}{fr cap:List AV}{F:Nat→bF→Int}{tg:Tag}{l:List bF}(hs:l.length≤bY)(hfw:Wk H.length (.fn (.func g) fr cap) (.fn (.func g) fr cap))(hlw:Wk H.length (.slice tg 4 (l.map bF.row)) (.slice tg 4 (l.map bF.row)))(hp:∀ (L:List AObj) (i:Nat) (x:bF),l[i]?=some x→M.run g (fr ++ .int .i64 i :: .agg (bF.row x)::cap) (H++L)=some (.ret (.int .u8 (F i x)),H++L))(hc:dP H0 H)(k:List Fra):∀ (n i:Nat),i+n=l.length →
  M.go dG H0 (.c fo :: .lp ⟨(some [2,14,15,16]),[],true⟩ fo H :: .blk 0 :: .c (.lv [])::k) (kv [(2,.fn (.func g) fr cap),(14,.slice tg 4 (l.map bF.row)),(15,.int .i64 l.length),(16,.int .i64 i)]) H =
   orE (fJ (ui F) i (l.drop i)) (H.take H0.length) (M.go dG H0 k .leaf H)
 |0,i,h=>by
  have e:i=l.length:=by omega
  subst e;rw [au M fo.eq_1];simp (maxSteps:=3000000) (maxDischargeDepth:=6) +contextual -implicitDefEqProofs only [amC M,↓amD,Nat.reduceBEq,Nat.reduceAdd,env,ag,l7,Nat.lt_irrefl,List.drop_length]
 |n+1,i,h=>by
  have hi:i<l.length:=by omega
  have hx:l[i]?=some l[i]:=List.getElem?_eq_getElem hi;have hd:(l.drop i)=l[i]::l.drop (i+1):=List.drop_eq_getElem_cons hi;have hm:l[i]∈l:=List.getElem_mem hi;have ih:=IK (H:=H) (H0:=H0) (g:=g) (fr:=fr) (cap:=cap) (F:=F) (tg:=tg) (l:=l) (hs:=hs) (hfw:=hfw) (hlw:=hlw) (hp:=hp) hc k n (i+1)  (by omega);simp only [kv_cons,kv_nil] at ih;have hp:=fun L=>hp L i l[i] hx
  rw [au M fo.eq_1];simp (maxSteps:=3000000) (maxDischargeDepth:=6) +contextual -implicitDefEqProofs only [amC M,↓amD,Nat.reduceBEq,Nat.reduceAdd,env,ag,l7,hx,hd,hi,ih,amG,AV.cell,hp,hfw,hlw,cY hi hs,bG hi,Gi,ui,hc]
theorem HT(hf:E.fn iX=some dG){g:Nat}{fr cap:List AV}{F:Nat→bF→Int}{tg:Tag}{l:List bF}{H:List AObj}(hs:l.length≤bY)(hfw:Wk H.length (.fn (.func g) fr cap) (.fn (.func g) fr cap))(hlw:Wk H.length (.slice tg 4 (l.map bF.row)) (.slice tg 4 (l.map bF.row)))
  (hp:∀ (L:List AObj) (i:Nat) (x:bF),l[i]?=some x→M.run g (fr ++ .int .i64 i :: .agg (bF.row x)::cap) (H++L)=some (.ret (.int .u8 (F i x)),H++L)) (most:Int) :
  M.run iX [.slice tg 4 (l.map bF.row),.int .i64 most,.fn (.func g) fr cap] H=some (.ret (.int .u8 (kr most F l)),H):=by
 rw [aP M hf rfl (c:=lZ) rfl,lZ];have hl:=fun k=>IK M (tg:=tg) hs hfw hlw hp (cut_refl H) k l.length 0 (by omega)
 simp only [kv_cons,kv_nil,Int.ofNat_zero,List.drop_zero] at hl;simp (maxSteps:=3000000) (maxDischargeDepth:=6) +contextual -implicitDefEqProofs only [amC M,↓amD,Nat.reduceBEq,Nat.reduceAdd,env,ag,l7,hl];rw [ko,kr];cases decide (most<(l.length:Int))<;>rfl
theorem GJ{H H0:List AObj}{g:Nat}{fr cap:List AV}{F:Nat→aL→Int}{tg:Tag}{l:List aL}(hs:l.length≤bY)(hfw:Wk H.length (.fn (.func g) fr cap) (.fn (.func g) fr cap))(hlw:Wk H.length (.slice tg 2 (l.map aL.row)) (.slice tg 2 (l.map aL.row)))(hp:∀ (L:List AObj) (i:Nat) (x:aL),l[i]?=some x→M.run g (fr ++ .int .i64 i :: .agg (aL.row x)::cap) (H++L)=some (.ret (.int .u8 (F i x)),H++L))(hc:dP H0 H)(k:List Fra):∀ (n i:Nat),i+n=l.length →
  M.go dk H0 (.c eI :: .lp ⟨(some [2,14,15,16]),[],true⟩ eI H :: .blk 0 :: .c (.lv [])::k) (kv [(2,.fn (.func g) fr cap),(14,.slice tg 2 (l.map aL.row)),(15,.int .i64 l.length),(16,.int .i64 i)]) H =
   orE (fJ (ui F) i (l.drop i)) (H.take H0.length) (M.go dk H0 k .leaf H)
 |0,i,h=>by
  have e:i=l.length:=by omega
  subst e;rw [au M eI.eq_1];simp (maxSteps:=3000000) (maxDischargeDepth:=6) +contextual -implicitDefEqProofs only [amC M,↓amD,Nat.reduceBEq,Nat.reduceAdd,env,ag,kL,Nat.lt_irrefl,List.drop_length]
 |n+1,i,h=>by
  have hi:i<l.length:=by omega
  have hx:l[i]?=some l[i]:=List.getElem?_eq_getElem hi;have hd:(l.drop i)=l[i]::l.drop (i+1):=List.drop_eq_getElem_cons hi;have hm:l[i]∈l:=List.getElem_mem hi;have ih:=GJ (H:=H) (H0:=H0) (g:=g) (fr:=fr) (cap:=cap) (F:=F) (tg:=tg) (l:=l) (hs:=hs) (hfw:=hfw) (hlw:=hlw) (hp:=hp) hc k n (i+1)  (by omega);simp only [kv_cons,kv_nil] at ih;have hp:=fun L=>hp L i l[i] hx
  rw [au M eI.eq_1];simp (maxSteps:=3000000) (maxDischargeDepth:=6) +contextual -implicitDefEqProofs only [amC M,↓amD,Nat.reduceBEq,Nat.reduceAdd,env,ag,kL,hx,hd,hi,ih,amG,AV.cell,hp,hfw,hlw,cY hi hs,bG hi,mM,ui,hc]
theorem GK(hf:E.fn gY=some dk){g:Nat}{fr cap:List AV}{F:Nat→aL→Int}{tg:Tag}{l:List aL}{H:List AObj}(hs:l.length≤bY)(hfw:Wk H.length (.fn (.func g) fr cap) (.fn (.func g) fr cap))(hlw:Wk H.length (.slice tg 2 (l.map aL.row)) (.slice tg 2 (l.map aL.row)))
  (hp:∀ (L:List AObj) (i:Nat) (x:aL),l[i]?=some x→M.run g (fr ++ .int .i64 i :: .agg (aL.row x)::cap) (H++L)=some (.ret (.int .u8 (F i x)),H++L)) (most:Int) :
  M.run gY [.slice tg 2 (l.map aL.row),.int .i64 most,.fn (.func g) fr cap] H=some (.ret (.int .u8 (kr most F l)),H):=by
 rw [aP M hf rfl (c:=kK) rfl,kK];have hl:=fun k=>GJ M (tg:=tg) hs hfw hlw hp (cut_refl H) k l.length 0 (by omega)
 simp only [kv_cons,kv_nil,Int.ofNat_zero,List.drop_zero] at hl;simp (maxSteps:=3000000) (maxDischargeDepth:=6) +contextual -implicitDefEqProofs only [amC M,↓amD,Nat.reduceBEq,Nat.reduceAdd,env,ag,kL,hl];rw [ko,kr];cases decide (most<(l.length:Int))<;>rfl
theorem GL{H H0:List AObj}{g:Nat}{fr cap:List AV}{F:Nat→aI→Int}{tg:Tag}{l:List aI}(hs:l.length≤bY)(hfw:Wk H.length (.fn (.func g) fr cap) (.fn (.func g) fr cap))(hlw:Wk H.length (.slice tg 4 (l.map aI.row)) (.slice tg 4 (l.map aI.row)))(hp:∀ (L:List AObj) (i:Nat) (x:aI),l[i]?=some x→M.run g (fr ++ .int .i64 i :: .agg (aI.row x)::cap) (H++L)=some (.ret (.int .u8 (F i x)),H++L))(hc:dP H0 H)(k:List Fra):∀ (n i:Nat),i+n=l.length →
  M.go dm H0 (.c eJ :: .lp ⟨(some [2,14,15,16]),[],true⟩ eJ H :: .blk 0 :: .c (.lv [])::k) (kv [(2,.fn (.func g) fr cap),(14,.slice tg 4 (l.map aI.row)),(15,.int .i64 l.length),(16,.int .i64 i)]) H =
   orE (fJ (ui F) i (l.drop i)) (H.take H0.length) (M.go dm H0 k .leaf H)
 |0,i,h=>by
  have e:i=l.length:=by omega
  subst e;rw [au M eJ.eq_1];simp (maxSteps:=3000000) (maxDischargeDepth:=6) +contextual -implicitDefEqProofs only [amC M,↓amD,Nat.reduceBEq,Nat.reduceAdd,env,ag,kN,Nat.lt_irrefl,List.drop_length]
 |n+1,i,h=>by
  have hi:i<l.length:=by omega
  have hx:l[i]?=some l[i]:=List.getElem?_eq_getElem hi;have hd:(l.drop i)=l[i]::l.drop (i+1):=List.drop_eq_getElem_cons hi;have hm:l[i]∈l:=List.getElem_mem hi;have ih:=GL (H:=H) (H0:=H0) (g:=g) (fr:=fr) (cap:=cap) (F:=F) (tg:=tg) (l:=l) (hs:=hs) (hfw:=hfw) (hlw:=hlw) (hp:=hp) hc k n (i+1)  (by omega);simp only [kv_cons,kv_nil] at ih;have hp:=fun L=>hp L i l[i] hx
  rw [au M eJ.eq_1];simp (maxSteps:=3000000) (maxDischargeDepth:=6) +contextual -implicitDefEqProofs only [amC M,↓amD,Nat.reduceBEq,Nat.reduceAdd,env,ag,kN,hx,hd,hi,ih,amG,AV.cell,hp,hfw,hlw,cY hi hs,bG hi,sg,ui,hc]
theorem GM(hf:E.fn gZ=some dm){g:Nat}{fr cap:List AV}{F:Nat→aI→Int}{tg:Tag}{l:List aI}{H:List AObj}(hs:l.length≤bY)(hfw:Wk H.length (.fn (.func g) fr cap) (.fn (.func g) fr cap))(hlw:Wk H.length (.slice tg 4 (l.map aI.row)) (.slice tg 4 (l.map aI.row)))
  (hp:∀ (L:List AObj) (i:Nat) (x:aI),l[i]?=some x→M.run g (fr ++ .int .i64 i :: .agg (aI.row x)::cap) (H++L)=some (.ret (.int .u8 (F i x)),H++L)) (most:Int) :
  M.run gZ [.slice tg 4 (l.map aI.row),.int .i64 most,.fn (.func g) fr cap] H=some (.ret (.int .u8 (kr most F l)),H):=by
 rw [aP M hf rfl (c:=kM) rfl,kM];have hl:=fun k=>GL M (tg:=tg) hs hfw hlw hp (cut_refl H) k l.length 0 (by omega)
 simp only [kv_cons,kv_nil,Int.ofNat_zero,List.drop_zero] at hl;simp (maxSteps:=3000000) (maxDischargeDepth:=6) +contextual -implicitDefEqProofs only [amC M,↓amD,Nat.reduceBEq,Nat.reduceAdd,env,ag,kN,hl];rw [ko,kr];cases decide (most<(l.length:Int))<;>rfl
theorem GN{H H0:List AObj}{g:Nat}{fr cap:List AV}{F:Nat→bq→Int}{tg:Tag}{l:List bq}(hs:l.length≤bY)(hfw:Wk H.length (.fn (.func g) fr cap) (.fn (.func g) fr cap))(hlw:Wk H.length (.slice tg 4 (l.map bq.row)) (.slice tg 4 (l.map bq.row)))(hp:∀ (L:List AObj) (i:Nat) (x:bq),l[i]?=some x→M.run g (fr ++ .int .i64 i :: .agg (bq.row x)::cap) (H++L)=some (.ret (.int .u8 (F i x)),H++L))(hc:dP H0 H)(k:List Fra):∀ (n i:Nat),i+n=l.length →
  M.go dn H0 (.c eK :: .lp ⟨(some [2,14,15,16]),[],true⟩ eK H :: .blk 0 :: .c (.lv [])::k) (kv [(2,.fn (.func g) fr cap),(14,.slice tg 4 (l.map bq.row)),(15,.int .i64 l.length),(16,.int .i64 i)]) H =
   orE (fJ (ui F) i (l.drop i)) (H.take H0.length) (M.go dn H0 k .leaf H)
 |0,i,h=>by
  have e:i=l.length:=by omega
  subst e;rw [au M eK.eq_1];simp (maxSteps:=3000000) (maxDischargeDepth:=6) +contextual -implicitDefEqProofs only [amC M,↓amD,Nat.reduceBEq,Nat.reduceAdd,env,ag,kP,Nat.lt_irrefl,List.drop_length]
 |n+1,i,h=>by
  have hi:i<l.length:=by omega
  have hx:l[i]?=some l[i]:=List.getElem?_eq_getElem hi;have hd:(l.drop i)=l[i]::l.drop (i+1):=List.drop_eq_getElem_cons hi;have hm:l[i]∈l:=List.getElem_mem hi;have ih:=GN (H:=H) (H0:=H0) (g:=g) (fr:=fr) (cap:=cap) (F:=F) (tg:=tg) (l:=l) (hs:=hs) (hfw:=hfw) (hlw:=hlw) (hp:=hp) hc k n (i+1)  (by omega);simp only [kv_cons,kv_nil] at ih;have hp:=fun L=>hp L i l[i] hx
  rw [au M eK.eq_1];simp (maxSteps:=3000000) (maxDischargeDepth:=6) +contextual -implicitDefEqProofs only [amC M,↓amD,Nat.reduceBEq,Nat.reduceAdd,env,ag,kP,hx,hd,hi,ih,amG,AV.cell,hp,hfw,hlw,cY hi hs,bG hi,Gj,ui,hc]
theorem GO(hf:E.fn hO=some dn){g:Nat}{fr cap:List AV}{F:Nat→bq→Int}{tg:Tag}{l:List bq}{H:List AObj}(hs:l.length≤bY)(hfw:Wk H.length (.fn (.func g) fr cap) (.fn (.func g) fr cap))(hlw:Wk H.length (.slice tg 4 (l.map bq.row)) (.slice tg 4 (l.map bq.row)))
  (hp:∀ (L:List AObj) (i:Nat) (x:bq),l[i]?=some x→M.run g (fr ++ .int .i64 i :: .agg (bq.row x)::cap) (H++L)=some (.ret (.int .u8 (F i x)),H++L)) (most:Int) :
  M.run hO [.slice tg 4 (l.map bq.row),.int .i64 most,.fn (.func g) fr cap] H=some (.ret (.int .u8 (kr most F l)),H):=by
 rw [aP M hf rfl (c:=kO) rfl,kO];have hl:=fun k=>GN M (tg:=tg) hs hfw hlw hp (cut_refl H) k l.length 0 (by omega)
 simp only [kv_cons,kv_nil,Int.ofNat_zero,List.drop_zero] at hl;simp (maxSteps:=3000000) (maxDischargeDepth:=6) +contextual -implicitDefEqProofs only [amC M,↓amD,Nat.reduceBEq,Nat.reduceAdd,env,ag,kP,hl];rw [ko,kr];cases decide (most<(l.length:Int))<;>rfl
theorem IL{H H0:List AObj}{g:Nat}{fr cap:List AV}{F:Nat→cF→Int}{tg:Tag}{l:List cF}(hs:l.length≤bY)(hfw:Wk H.length (.fn (.func g) fr cap) (.fn (.func g) fr cap))(hlw:Wk H.length (.slice tg 3 (l.map cF.row)) (.slice tg 3 (l.map cF.row)))(hp:∀ (L:List AObj) (i:Nat) (x:cF),l[i]?=some x→M.run g (fr ++ .int .i64 i :: .agg (cF.row x)::cap) (H++L)=some (.ret (.int .u8 (F i x)),H++L))(hc:dP H0 H)(k:List Fra):∀ (n i:Nat),i+n=l.length →
  M.go dF H0 (.c fm :: .lp ⟨(some [2,14,15,16]),[],true⟩ fm H :: .blk 0 :: .c (.lv [])::k) (kv [(2,.fn (.func g) fr cap),(14,.slice tg 3 (l.map cF.row)),(15,.int .i64 l.length),(16,.int .i64 i)]) H =
   orE (fJ (ui F) i (l.drop i)) (H.take H0.length) (M.go dF H0 k .leaf H)
 |0,i,h=>by
  have e:i=l.length:=by omega
  subst e;rw [au M fm.eq_1];simp (maxSteps:=3000000) (maxDischargeDepth:=6) +contextual -implicitDefEqProofs only [amC M,↓amD,Nat.reduceBEq,Nat.reduceAdd,env,ag,lY,Nat.lt_irrefl,List.drop_length]
 |n+1,i,h=>by
  have hi:i<l.length:=by omega
  have hx:l[i]?=some l[i]:=List.getElem?_eq_getElem hi;have hd:(l.drop i)=l[i]::l.drop (i+1):=List.drop_eq_getElem_cons hi;have hm:l[i]∈l:=List.getElem_mem hi;have ih:=IL (H:=H) (H0:=H0) (g:=g) (fr:=fr) (cap:=cap) (F:=F) (tg:=tg) (l:=l) (hs:=hs) (hfw:=hfw) (hlw:=hlw) (hp:=hp) hc k n (i+1)  (by omega);simp only [kv_cons,kv_nil] at ih;have hp:=fun L=>hp L i l[i] hx
  rw [au M fm.eq_1];simp (maxSteps:=3000000) (maxDischargeDepth:=6) +contextual -implicitDefEqProofs only [amC M,↓amD,Nat.reduceBEq,Nat.reduceAdd,env,ag,lY,hx,hd,hi,ih,amG,AV.cell,hp,hfw,hlw,cY hi hs,bG hi,IB,ui,hc]
theorem HU(hf:E.fn iV=some dF){g:Nat}{fr cap:List AV}{F:Nat→cF→Int}{tg:Tag}{l:List cF}{H:List AObj}(hs:l.length≤bY)(hfw:Wk H.length (.fn (.func g) fr cap) (.fn (.func g) fr cap))(hlw:Wk H.length (.slice tg 3 (l.map cF.row)) (.slice tg 3 (l.map cF.row)))
  (hp:∀ (L:List AObj) (i:Nat) (x:cF),l[i]?=some x→M.run g (fr ++ .int .i64 i :: .agg (cF.row x)::cap) (H++L)=some (.ret (.int .u8 (F i x)),H++L)) (most:Int) :
  M.run iV [.slice tg 3 (l.map cF.row),.int .i64 most,.fn (.func g) fr cap] H=some (.ret (.int .u8 (kr most F l)),H):=by
 rw [aP M hf rfl (c:=lX) rfl,lX];have hl:=fun k=>IL M (tg:=tg) hs hfw hlw hp (cut_refl H) k l.length 0 (by omega)
 simp only [kv_cons,kv_nil,Int.ofNat_zero,List.drop_zero] at hl;simp (maxSteps:=3000000) (maxDischargeDepth:=6) +contextual -implicitDefEqProofs only [amC M,↓amD,Nat.reduceBEq,Nat.reduceAdd,env,ag,lY,hl];rw [ko,kr];cases decide (most<(l.length:Int))<;>rfl
end
section
attribute [local congr] aw tF aA bf aM aC ao aq aN aO
variable{E:bc}(M:cE bT E)
def tA(c:UInt8):Bool:=decide (97≤(c.toNat:Int))&&decide ((c.toNat:Int)≤122)
theorem mV(h:E.fn bZ=some fC)(c:UInt8)(H:List AObj):M.run bZ [.int .u8 c.toNat] H=some (.ret (.bool (tA c)),H):=by
 rw [aP M h rfl (c:=tV) rfl,tV];simp +contextual -implicitDefEqProofs only [am1 M,am2,am3,am4,↓fget_at,Nat.reduceBEq,Nat.reduceAdd,env,ag,(show fC.res=[.t 2] from rfl),(show fC.mode = .drop from rfl),(show fC.dfr=none from rfl),beq_true,beq_false,Bool.and_true,Bool.true_and,Bool.and_false,Bool.false_and,tA]
def Q4(c:UInt8):Bool:=decide (33≤(c.toNat:Int))&&decide ((c.toNat:Int)≤126)
theorem O5(h:E.fn mQ=some iJ)(c:UInt8)(H:List AObj):M.run mQ [.int .u8 c.toNat] H=some (.ret (.bool (Q4 c)),H):=by
 rw [aP M h rfl (c:=uc) rfl,uc];simp +contextual -implicitDefEqProofs only [am1 M,am2,am3,am4,↓fget_at,Nat.reduceBEq,Nat.reduceAdd,env,ag,(show iJ.res=[.t 2] from rfl),(show iJ.mode = .drop from rfl),(show iJ.dfr=none from rfl),beq_true,beq_false,Bool.and_true,Bool.true_and,Bool.and_false,Bool.false_and,Q4]
def Q5(c:UInt8):Bool:=decide (65≤(c.toNat:Int))&&decide ((c.toNat:Int)≤90)
def V4(c:UInt8):Bool:=decide (48≤(c.toNat:Int))&&decide ((c.toNat:Int)≤57)
theorem DD(hl:E.fn bZ=some fC)(h:E.fn eG=some gi)(c:UInt8)(H:List AObj):M.run eG [.int .u8 c.toNat] H=some (.ret (.bool (tA c||Q5 c)),H):=by
 rw [aP M h rfl (c:=tZ) rfl,tZ];simp +contextual -implicitDefEqProofs only [am1 M,am2,am3,am4,↓fget_at,Nat.reduceBEq,Nat.reduceAdd,env,ag,(show gi.res=[.t 2] from rfl),(show gi.mode = .drop from rfl),(show gi.dfr=none from rfl),beq_true,beq_false,Bool.and_true,Bool.true_and,Bool.and_false,Bool.false_and,mV M hl];cases tA c<;>simp [sel,Q5]
end
section
attribute [local congr] aw tF aA bf aM aC ao aq aN aO
variable{E:bc}(M:cE bT E)
theorem O6(hl:E.fn bZ=some fC)(h1:E.fn eG=some gi)(h:E.fn j7=some iH)(c:UInt8){H:List AObj}{T:TypeId} :
  M.run j7 [.int .u8 c.toNat,.ptr H.length 0] (H++[.cells [.fn (.func eG) [] []] T])=some (.ret (.bool (tA c||Q5 c||V4 c||((c.toNat:Int) == 95))),H++[.cells [.fn (.func eG) [] []] T]):=by
 rw [aP M h rfl (c:=ua) rfl,ua];simp +contextual -implicitDefEqProofs only [am1 M,am2,am3,am4,↓fget_at,Nat.reduceBEq,Nat.reduceAdd,env,ag,(show iH.res=[.t 3] from rfl),(show iH.mode = .drop from rfl),(show iH.dfr=none from rfl),beq_true,beq_false,Bool.and_true,Bool.true_and,Bool.and_false,Bool.false_and,DD M hl h1,List.nil_append,List.append_nil];rw [show H.length+1=(H++[AObj.cells [AV.fn (Fn.func eG) [] []] T]).length by simp,List.take_length]
 rfl
theorem Lt{g:Nat}{fr cap:List AV}{p:UInt8→Bool}{s:List UInt8}(hs:s.length≤bY){H:List AObj}(hp:∀ c:UInt8,M.run g (fr ++ .int .u8 c.toNat::cap) H=some (.ret (.bool (p c)),H))
  {H0:List AObj} (hc:dP H0 H) (k:List Fra):∀ (n i:Nat) (He:List AObj),i+n=s.length →
  M.go dX H0 (.c nX :: .lp ⟨some [0,1,7,8],[],false⟩ nX He :: .blk 0 :: .c (.lv [])::k) (kv [(0,.str s),(1,.fn (.func g) fr cap),(7,.int .i64 s.length),(8,.int .i64 i)]) H =
   sel ((s.drop i).all p) (M.go dX H0 k .leaf H) (some (.ret (.bool false),H.take H0.length))
 |0,i,He,h=>by
  have e:i=s.length:=by omega
  subst e;rw [au M nX.eq_1];simp +contextual -implicitDefEqProofs only [am1 M,am2,am3,am4,↓fget_at,Nat.reduceBEq,Nat.reduceAdd,(show dX.res=[.t 4] from rfl),(show dX.mode = .drop from rfl),(show dX.dfr=none from rfl),beq_true,beq_false,decide_true,decide_false,Nat.lt_irrefl,List.drop_length,List.all_nil]
 |n+1,i,He,h=>by
  have hi:i<s.length:=by omega
  have hx:s[i]?=some s[i]:=List.getElem?_eq_getElem hi;have hd:(s.drop i)=s[i]::s.drop (i+1):=List.drop_eq_getElem_cons hi;have ih:=Lt hs hp hc k n (i+1) H (by omega);simp only [kv_cons,kv_nil] at ih;rw [au M nX.eq_1];simp +contextual -implicitDefEqProofs only [am1 M,am2,am3,am4,↓fget_at,Nat.reduceBEq,Nat.reduceAdd,(show dX.res=[.t 4] from rfl),(show dX.mode = .drop from rfl),(show dX.dfr=none from rfl),beq_true,beq_false,decide_true,decide_false,hx,hp,cY hi hs,hi,hc,ih,hd,List.all_cons]
theorem EV(hf:E.fn mP=some dX){g:Nat}{fr cap:List AV}{p:UInt8→Bool}{s:List UInt8}(hs:s.length≤bY){H:List AObj}(hp:∀ c:UInt8,M.run g (fr ++ .int .u8 c.toNat::cap) H=some (.ret (.bool (p c)),H)) :
  M.run mP [.str s,.fn (.func g) fr cap] H=some (.ret (.bool (s.all p)),H):=by
 rw [aP M hf rfl (c:=Ah) rfl,Ah];have hl:=fun k He=>Lt M hs hp (cut_refl H) k s.length 0 He (by omega)
 simp only [kv_cons,kv_nil,Int.ofNat_zero,List.drop_zero] at hl;simp +contextual -implicitDefEqProofs only [am1 M,am2,am3,am4,↓fget_at,Nat.reduceBEq,Nat.reduceAdd,env,ag,(show dX.res=[.t 4] from rfl),(show dX.mode = .drop from rfl),(show dX.dfr=none from rfl),hl];rw [Bool.and_true]
structure gj (E:bc):Prop where
 letter:E.fn bZ=some fC
 Letter:E.fn kE=some pQ
 name1:E.fn eG=some gi
 name2:E.fn j7=some iH
 word1:E.fn mQ=some iJ
 all:E.fn mP=some dX
 name:E.fn pA=some ik
 word:E.fn xx=some nr
 plain:E.fn q6=some lJ
 rname:E.fn jC=some rJ
 rword:E.fn rA=some rK
 rplain:E.fn lO=some qG
 rof:E.fn cU=some tT
def Lu(s:List UInt8):Bool:=decide (1≤(s.length:Int))&&decide ((s.length:Int)≤24)&&s.all Q4
theorem Q6(hE:gj E){s:List UInt8}(hs:s.length≤bY)(H:List AObj):M.run xx [.str s] H=some (.ret (.bool (Lu s)),H):=by
 rw [aP M hE.word rfl (c:=xX) rfl,xX];have ha:=EV M hE.all (g:=mQ) (fr:=[]) (cap:=[]) hs (H:=H) (fun c=>O5 M hE.word1 c H);simp +contextual -implicitDefEqProofs only [am1 M,am2,am3,am4,↓fget_at,Nat.reduceBEq,Nat.reduceAdd,env,ag,beq_true,beq_false,decide_true,decide_false,Bool.and_true,Bool.true_and,Bool.and_false,Bool.false_and,List.nil_append,List.append_nil,(show nr.res=[.t 2] from rfl),(show nr.mode = .drop from rfl),(show nr.dfr=none from rfl),ha,Lu]
def oP(s:List UInt8):Bool:=Lu s&&s.all tA
theorem DE(hE:gj E){s:List UInt8}(hs:s.length≤bY)(H:List AObj):M.run q6 [.str s] H=some (.ret (.bool (oP s)),H):=by
 rw [aP M hE.plain rfl (c:=vx) rfl,vx];have ha:=EV M hE.all (g:=bZ) (fr:=[]) (cap:=[]) hs (H:=H) (fun c=>mV M hE.letter c H);simp +contextual -implicitDefEqProofs only [am1 M,am2,am3,am4,↓fget_at,Nat.reduceBEq,Nat.reduceAdd,env,ag,beq_true,beq_false,decide_true,decide_false,Bool.and_true,Bool.true_and,Bool.and_false,Bool.false_and,List.nil_append,List.append_nil,(show lJ.res=[.t 2] from rfl),(show lJ.mode = .drop from rfl),(show lJ.dfr=none from rfl),ha,Q6 M hE hs,oP]
end
section
attribute [local congr] aw tF aA bf aM aC ao aq aN aO
variable{E:bc}(M:cE bT E)
def UZ(c:UInt8):Bool:=tA c||Q5 c||V4 c||((c.toNat:Int) == 95)
def ks(s:List UInt8):Bool:=match s with
 |[]=>false
 |c::t=>decide ((((c::t).length:Nat):Int)≤12)&&(tA c||Q5 c)&&(c::t).all UZ
theorem GQ(hE:gj E){s:List UInt8}(hs:s.length≤bY)(H:List AObj):M.run pA [.str s] H=some (.ret (.bool (ks s)),H):=by
 rw [aP M hE.name rfl (c:=xQ) rfl,xQ];have h2:∀ (T:TypeId) (c:UInt8),M.run j7 ([] ++ .int .u8 c.toNat::[.ptr H.length 0]) (H++[.cells [.fn (.func eG) [] []] T])=some (.ret (.bool (UZ c)),H++[.cells [.fn (.func eG) [] []] T]):=fun T c=>O6 M hE.letter hE.name1 hE.name2 c
 have ha:=fun T=>EV M hE.all (g:=j7) (fr:=[]) (cap:=[.ptr H.length 0]) hs (h2 T)
 cases s with
 |nil=>
  simp +contextual -implicitDefEqProofs only [am1 M,am2,am3,am4,am5,setRow_nil,setRow_cons,List.set_cons_zero,List.length_cons,List.length_nil,Nat.zero_add,Nat.le_refl,List.all_cons,List.all_nil,AV.cell,List.cons_append,↓fget_at,Nat.reduceBEq,Nat.reduceAdd,env,ag,beq_true,beq_false,decide_true,decide_false,Bool.and_true,Bool.true_and,Bool.and_false,Bool.false_and,List.nil_append,List.append_nil,(show ik.res=[.t 2] from rfl),(show ik.mode = .drop from rfl),(show ik.dfr=none from rfl),ha,DD M hE.letter hE.name1,ks,List.length_nil,List.getElem?_nil,(show decide ((1:Int)≤((0:Nat):Int))=false from rfl)]
 |cons c t=>
  have hlen:decide ((1:Int)≤((t.length+1:Nat):Int))=true:=decide_eq_true (by omega);simp +contextual -implicitDefEqProofs only [am1 M,am2,am3,am4,am5,setRow_nil,setRow_cons,List.set_cons_zero,List.length_cons,List.length_nil,Nat.zero_add,Nat.le_refl,List.all_cons,List.all_nil,AV.cell,List.cons_append,↓fget_at,Nat.reduceBEq,Nat.reduceAdd,env,ag,beq_true,beq_false,decide_true,decide_false,Bool.and_true,Bool.true_and,Bool.and_false,Bool.false_and,List.nil_append,List.append_nil,(show ik.res=[.t 2] from rfl),(show ik.mode = .drop from rfl),(show ik.dfr=none from rfl),ha,DD M hE.letter hE.name1,ks,List.getElem?_cons_zero,hlen]
end
section
attribute [local congr] aw tF aA bf aM aC ao aq aN aO
variable{E:bc}(M:cE bT E)
end
section
attribute [local congr] aw tF aA bf aM aC ao aq aN aO
variable{E:bc}(M:cE bT E)
end
section
attribute [local congr] aw tF aA bf aM aC ao aq aN aO
variable{E:bc}(M:cE bT E)
end
section
attribute [local congr] aw aW cM bt aA bf aM aC ao aq aN aO
variable{E:bc}(M:cE bT E)
structure lE (E:bc):Prop where
 morph_checker_vowels:E.fn gW=some el
 slices_Index_string_string:E.fn gK=some cR
 slices_Contains_string_string:E.fn dS=some dU
 morph_checker_trait_1:E.fn gn=some gz
 slices_IndexFunc_api_Trait_api_Trait:E.fn bC=some aX
 slices_ContainsFunc_api_Trait_api_Trait:E.fn cG=some bN
 morph_checker_trait:E.fn iR=some eD
 morph_each_api_Trait:E.fn gX=some dj
 morph_Check_1:E.fn oc=some oq
 morph_checker_class_1:E.fn gp=some gA
 slices_IndexFunc_api_Class_api_Class:E.fn bD=some aY
 slices_ContainsFunc_api_Class_api_Class:E.fn cH=some bO
 morph_short:E.fn fV=some rh
 morph_checker_bundle_1_1:E.fn fB=some fD
 morph_checker_bundle_1:E.fn fW=some fY
 morph_each_api_Feat:E.fn iY=some dH
 morph_checker_bundle:E.fn fA=some il
 morph_checker_class_2:E.fn gq=some gB
 morph_each_api_Slot:E.fn iX=some dG
 morph_checker_class:E.fn iS=some i6
 morph_each_api_Class:E.fn gY=some dk
 morph_Check_2:E.fn od=some ot
 morph_checker_entry_3:E.fn gv=some gE
 slices_IndexFunc_api_Irregular_api_Irregular:E.fn bB=some aH
 slices_ContainsFunc_api_Irregular_api_Irregular:E.fn bL=some bu
 morph_classOf_1:E.fn jD=some mq
 morph_classOf:E.fn jo=some oz
 morph_checker_entry_1:E.fn gr=some gC
 slices_IndexFunc_api_Entry_api_Entry:E.fn b7=some aZ
 slices_ContainsFunc_api_Entry_api_Entry:E.fn cI=some bP
 morph_clash_1_1:E.fn ml=some mr
 slices_IndexFunc_api_Feat_api_Feat:E.fn cr=some bj
 slices_ContainsFunc_api_Feat_api_Feat:E.fn bV=some bX
 morph_clash_1:E.fn om=some oG
 morph_clash:E.fn vi=some ri
 morph_checker_entry_2:E.fn gu=some gD
 slices_IndexFunc_api_Slot_api_Slot:E.fn cq=some bh
 slices_ContainsFunc_api_Slot_api_Slot:E.fn cQ=some bW
 morph_checker_entry:E.fn iT=some eE
 morph_each_api_Entry:E.fn gZ=some dm
 morph_Check_3:E.fn oe=some ou
 morph_symbol:E.fn j4=some pN
 morph_around:E.fn mO=some pO
 morph_checker_spell:E.fn iU=some ja
 morph_each_api_Spell:E.fn hO=some dn
 morph_Check_4:E.fn og=some ov
 morph_checker_link:E.fn jB=some jF
 morph_each_api_Link:E.fn iV=some dF
 morph_Check_5:E.fn oh=some ow
 morph_first:E.fn vh=some lI
 morph_Check:E.fn jK=some q9
def eO(e:Int):Option AV:=sel (!(e == 0)) (some (.int .u8 e)) none
theorem EW{α:Type}(F:Nat→α→Int)(i:Nat)(x:α):ui F i x=eO (F i x):=rfl
theorem U0(b:Bool)(e e':Int):eO (sel b e e')=sel b (eO e) (eO e'):=by cases b<;>rfl
theorem qE:(∀ (b:Bool) (e e':Int),eO (slc b e e')=slc b (eO e) (eO e'))∧eO 0=none∧eO 1=some (.int .u8 1)∧eO 3=some (.int .u8 3)∧eO 5=some (.int .u8 5)∧eO 6=some (.int .u8 6)∧eO 7=some (.int .u8 7)∧eO 10=some (.int .u8 10):=
 ⟨U0,rfl,rfl,rfl,rfl,rfl,rfl,rfl⟩
theorem yo{α:Type}(p:α→Bool):∀ (l:List α) (i:Nat),(Aw p i l = -1∧l.find? p=none)∨∃ (j:Nat) (x:α),Aw p i l=((i+j:Nat):Int)∧l[j]?=some x∧l.find? p=some x
 |[],_=>.inl ⟨rfl,rfl⟩
 |x::l,i=>by
  cases h:p x with
  |true=>exact .inr ⟨0,x,by simp [Aw,h,sel],rfl,by simp [h]⟩
  |false=>
   rcases yo p l (i+1) with ⟨h1,h2⟩ | ⟨j,y,h1,h2,h3⟩
   ·exact .inl ⟨by simp [Aw,h,sel,h1],by simp [h,h2]⟩
   ·exact .inr ⟨j+1,y,by simp [Aw,h,sel,h1];omega,by simpa using h2,by simp [h,h3]⟩
theorem ixs{H H0:List AObj}{v:Str}{tg:Tag}{l:List Str}(hs:l.length≤bY)(hc:dP H0 H)(k:List Fra):∀ (n i:Nat) (He:List AObj),i+n=l.length →
  M.go cR H0 (.c c8 :: .lp ⟨(some [0,1,7,8]),[],false⟩ c8 He :: .blk 0 :: .c (.lv [])::k) (kv [(0,.slice tg 1 (l.map aE)),(1,.str v),(7,.int .i64 l.length),(8,.int .i64 i)]) H =
   orE (fJ (A1 fun s=>v == s) i (l.drop i)) (H.take H0.length) (M.go cR H0 k .leaf H)
 |0,i,He,h=>by
  have e:i=l.length:=by omega
  subst e;rw [au M c8.eq_1];simp (maxSteps:=3000000) (maxDischargeDepth:=6) +contextual -implicitDefEqProofs only [amC M,↓amD,Nat.reduceBEq,Nat.reduceAdd,env,ag,gO,Nat.lt_irrefl,List.drop_length]
 |n+1,i,He,h=>by
  have hi:i<l.length:=by omega
  have hx:l[i]?=some l[i]:=List.getElem?_eq_getElem hi;have hd:(l.drop i)=l[i]::l.drop (i+1):=List.drop_eq_getElem_cons hi;have hm:l[i]∈l:=List.getElem_mem hi;have ih:=fun He=>ixs (H:=H) (H0:=H0) (v:=v) (tg:=tg) (l:=l) (hs:=hs) hc k n (i+1)  He (by omega)
  simp only [kv_cons,kv_nil] at ih;rw [au M c8.eq_1];simp (maxSteps:=3000000) (maxDischargeDepth:=6) +contextual -implicitDefEqProofs only [amC M,↓amD,Nat.reduceBEq,Nat.reduceAdd,env,ag,gO,hx,hd,hi,ih,cY hi hs,bG hi,gU,A1,hc]
theorem yp(hE:lE E){v:Str}{tg:Tag}{l:List Str}(hs:l.length≤bY)(H:List AObj):M.run dS [.slice tg 1 (l.map aE),.str v] H=some (.ret (.bool (l.any fun s=>v == s)),H):=by
 have h1:M.run gK [.slice tg 1 (l.map aE),.str v] H=some (.ret (.int .i64 (Aw (fun s=>v == s) 0 l)),H):=by
  rw [aP M hE.slices_Index_string_string rfl (c:=gN) rfl,gN];have hl:=fun k He=>ixs M (tg:=tg) (v:=v) hs (cut_refl H) k l.length 0 He (by omega)
  simp only [kv_cons,kv_nil,Int.ofNat_zero,List.drop_zero] at hl;simp (maxSteps:=3000000) (maxDischargeDepth:=6) +contextual -implicitDefEqProofs only [amC M,↓amD,Nat.reduceBEq,Nat.reduceAdd,env,ag,gO,hl];exact oY _ l 0 H
 rw [aP M hE.slices_Contains_string_string rfl (c:=fK) rfl,fK];simp (maxSteps:=3000000) (maxDischargeDepth:=6) +contextual -implicitDefEqProofs only [amC M,↓amD,Nat.reduceBEq,Nat.reduceAdd,env,ag,qm,h1,u4]
def CJ(c:UInt8):Bool:=tA c||((c.toNat:Int) == 43)
def Eb(c:UInt8):Bool:=CJ c||((c.toNat:Int) == 35)||((c.toNat:Int) == 86)||((c.toNat:Int) == 67)
theorem GR(hN:gj E)(hE:lE E)(c:UInt8)(H:List AObj):M.run j4 [.int .u8 c.toNat] H=some (.ret (.bool (CJ c)),H):=by
 rw [aP M hE.morph_symbol rfl (c:=tW) rfl,tW];simp (maxSteps:=3000000) (maxDischargeDepth:=6) +contextual -implicitDefEqProofs only [amC M,↓amD,Nat.reduceBEq,Nat.reduceAdd,env,ag,Gs,mV M hN.letter,CJ]
theorem MW(hN:gj E)(hE:lE E)(c:UInt8)(H:List AObj):M.run mO [.int .u8 c.toNat] H=some (.ret (.bool (Eb c)),H):=by
 rw [aP M hE.morph_around rfl (c:=tX) rfl,tX];simp (maxSteps:=3000000) (maxDischargeDepth:=6) +contextual -implicitDefEqProofs only [amC M,↓amD,Nat.reduceBEq,Nat.reduceAdd,env,ag,Gt,GR M hN hE,Eb,Bool.or_assoc]
def iM(p:UInt8→Bool)(s:Str):Bool:=decide ((s.length:Int)≤6)&&s.all p
theorem w5(hN:gj E)(hE:lE E){g:Nat}{fr cap:List AV}{p:UInt8→Bool}{s:Str}(hs:s.length≤bY){H:List AObj}(hp:∀ c:UInt8,M.run g (fr ++ .int .u8 c.toNat::cap) H=some (.ret (.bool (p c)),H)) :
  M.run fV [.str s,.fn (.func g) fr cap] H=some (.ret (.bool (iM p s)),H):=by
 rw [aP M hE.morph_short rfl (c:=vw) rfl,vw];simp (maxSteps:=3000000) (maxDischargeDepth:=6) +contextual -implicitDefEqProofs only [amC M,↓amD,Nat.reduceBEq,Nat.reduceAdd,env,ag,HI,EV M hN.all hs hp,iM]
def JT(v:Str):Nat→UInt8→Bool
 |0,c => !tA c
 |i+1,c => !tA c||(match v[i]? with
  |some d=>decide ((c.toNat:Int)≤(d.toNat:Int))
  |none=>false)
theorem O7(v:Str)(c:UInt8):JT v 0 c = !tA c:=rfl
theorem O8{v:Str}{i:Nat}{d:UInt8}(h:v[i]?=some d)(c:UInt8):JT v (i+1) c=(!tA c||decide ((c.toNat:Int)≤(d.toNat:Int))):=by simp only [JT,h]
theorem vow{H H0:List AObj}(hN:gj E){v:Str}(hs:v.length≤bY)(hc:dP H0 H)(k:List Fra):∀ (n i:Nat) (He:List AObj),i+n=v.length →
  M.go el H0 (.c dC :: .lp ⟨(some [3,9,10]),[],false⟩ dC He :: .blk 0 :: .c (.lv [])::k) (kv [(3,.str v),(9,.int .i64 v.length),(10,.int .i64 i)]) H =
   orE (fJ (ui fun i c=>sel (JT v i c) 1 0) i (v.drop i)) (H.take H0.length) (M.go el H0 k .leaf H)
 |0,i,He,h=>by
  have e:i=v.length:=by omega
  subst e;rw [au M dC.eq_1];simp (maxSteps:=3000000) (maxDischargeDepth:=6) +contextual -implicitDefEqProofs only [amC M,↓amD,Nat.reduceBEq,Nat.reduceAdd,env,ag,ig,Nat.lt_irrefl,List.drop_length]
 |n+1,i,He,h=>by
  have hi:i<v.length:=by omega
  have hx:v[i]?=some v[i]:=List.getElem?_eq_getElem hi;have hd:(v.drop i)=v[i]::v.drop (i+1):=List.drop_eq_getElem_cons hi;have hm:v[i]∈v:=List.getElem_mem hi;have ih:=fun He=>vow (H:=H) (H0:=H0) (hN:=hN) (v:=v) (hs:=hs) hc k n (i+1)  He (by omega)
  simp only [kv_cons,kv_nil] at ih;cases i with
  |zero=>
   rw [au M dC.eq_1];simp (maxSteps:=3000000) (maxDischargeDepth:=6) +contextual -implicitDefEqProofs only [amC M,↓amD,Nat.reduceBEq,Nat.reduceAdd,env,ag,ig,hx,hd,hi,ih,cY hi hs,mV M hN.letter,hc,EW,qE,O7,(show decide ((0:Int)<((0:Nat):Int))=false from rfl)]
  |succ j=>
   have hj:j<v.length:=by omega
   have hxj:v[j]?=some v[j]:=List.getElem?_eq_getElem hj;rw [au M dC.eq_1];simp (maxSteps:=3000000) (maxDischargeDepth:=6) +contextual -implicitDefEqProofs only [amC M,↓amD,Nat.reduceBEq,Nat.reduceAdd,env,ag,ig,hx,hd,hi,ih,cY hi hs,QL (show j+1≤bY by omega),hxj,mV M hN.letter,hc,EW,qE,O8 hxj,(show decide ((0:Int)<((j+1:Nat):Int))=true from decide_eq_true (by omega))]
def Q7(l:Lex):Int:=A5 (fun i c=>sel (JT l.vowels i c) 1 0) 0 l.vowels
theorem MX(hN:gj E)(hE:lE E){l:Lex}{n:Nat}(hl:l.ok n)(H:List AObj):M.run gW [.agg l.row] H=some (.ret (.int .u8 (Q7 l)),H):=by
 rw [aP M hE.morph_checker_vowels rfl (c:=kH) rfl,kH];have hl:=fun k L He=>vow M hN hl.vowels (cut_app H L) k l.vowels.length 0 He (by omega)
 simp only [kv_cons,kv_nil,Int.ofNat_zero,List.drop_zero] at hl;simp (maxSteps:=3000000) (maxDischargeDepth:=6) +contextual -implicitDefEqProofs only [amC M,↓amD,Nat.reduceBEq,Nat.reduceAdd,env,ag,ig,hl,jJ,cut_app];exact ko _ _ 0 H
end
section
attribute [local congr] aw aW cM bt aA bf aM aC ao aq aN aO
variable{E:bc}(M:cE bT E)
theorem Lv(hE:lE E)(o t:aV){H:List AObj}{q:Nat}{T:TypeId}(hq:H[q]?=some (.cells t.row T)):M.run gn [.agg o.row,.ptr q 0] H=some (.ret (.bool (o.name == t.name)),H):=by
 rw [aP M hE.morph_checker_trait_1 rfl (c:=kg) rfl,kg];simp (maxSteps:=3000000) (maxDischargeDepth:=6) +contextual -implicitDefEqProofs only [amC M,↓amD,Nat.reduceBEq,Nat.reduceAdd,env,ag,wy,qM,hq,cP hq]
def U1(t:aV)(k:Nat)(v:Str):Int:=sel (!ks v) 5 (sel ((t.values.l.take k).any fun s=>v == s) 6 0)
theorem trl{H H0:List AObj}(hN:gj E)(hE:lE E){t:aV}{n0:Nat}(ht:t.ok n0){p:Nat}{T:TypeId}(hp:H[p]?=some (.cells t.row T))(hc:dP H0 H)(k:List Fra):∀ (n i:Nat) (He:List AObj),i+n=(t.values.l).length →
  M.go eD H0 (.c fj :: .lp ⟨(some [5,33,34,35]),[],false⟩ fj He :: .blk 1 :: .c (.lv [])::k) (kv [(5,.ptr p 0),(33,.slice t.values.tag 1 (t.values.l.map aE)),(34,.int .i64 t.values.l.length),(35,.int .i64 i)]) H =
   orE (fJ (ui (U1 t)) i (t.values.l.drop i)) (H.take H0.length) (M.go eD H0 k .leaf H)
 |0,i,He,h=>by
  have e:i=(t.values.l).length:=by omega
  subst e;rw [au M fj.eq_1];simp (maxSteps:=3000000) (maxDischargeDepth:=6) +contextual -implicitDefEqProofs only [amC M,↓amD,Nat.reduceBEq,Nat.reduceAdd,env,ag,lT,Nat.lt_irrefl,List.drop_length]
 |n+1,i,He,h=>by
  have hi:i<(t.values.l).length:=by omega
  have hx:(t.values.l)[i]?=some (t.values.l)[i]:=List.getElem?_eq_getElem hi;have hd:((t.values.l).drop i)=(t.values.l)[i]::(t.values.l).drop (i+1):=List.drop_eq_getElem_cons hi;have hm:(t.values.l)[i]∈(t.values.l):=List.getElem_mem hi;have ih:=fun He=>trl (H:=H) (H0:=H0) (hN:=hN) (hE:=hE) (t:=t) (n0:=n0) (ht:=ht) (p:=p) (T:=T) (hp:=hp) hc k n (i+1)  He (by omega)
  simp only [kv_cons,kv_nil] at ih;rw [au M fj.eq_1];simp (maxSteps:=3000000) (maxDischargeDepth:=6) +contextual -implicitDefEqProofs only [amC M,↓amD,Nat.reduceBEq,Nat.reduceAdd,env,ag,lT,hx,hd,hi,ih,cY hi ht.values.len,bG hi,gU,qM,hp,GQ M hN (ht.values.all _ hm),Gk hi,yp M hE (zU ht.values.len i),hc,EW,U1,qE]
def GS(l:Lex)(i:Nat)(t:aV):Int:=
 sel (!ks t.name) 5 (sel ((l.traits.l.take i).any fun o=>o.name == t.name) 6 (sel (decide ((8:Int)<(t.values.l.length:Int))) 3 (sel ((t.values.l.length:Int) == 0) 1 (A5 (U1 t) 0 t.values.l))))
theorem GT{α:Type}(F:Nat→α→Int)(l:List α)(H:List AObj):orE (fJ (ui F) 0 l) H (some (.ret (.int .u8 0),H))=some (.ret (.int .u8 (A5 F 0 l)),H):=ko F l 0 H
theorem rl(b:Bool)(x y:Int):sel b (AV.int .u8 x) (AV.int .u8 y) = .int .u8 (sel b x y):=by cases b<;>rfl
theorem O9(hN:gj E)(hE:lE E){l:Lex}{t:aV}{n:Nat}(hl:l.ok n)(ht:t.ok n){i:Nat}(hi:i<l.traits.l.length)(H:List AObj) :
  M.run iR [.agg l.row,.int .i64 i,.agg t.row] H=some (.ret (.int .u8 (GS l i t)),H):=by
 rw [aP M hE.morph_checker_trait rfl (c:=lS) rfl,lS];have hq:(H++[AObj.cells l.row bo,.cells t.row bU])[H.length+1]?=some (.cells t.row bU):=by rw [hp_getk];rfl
 have hcf:=yk M hE.slices_IndexFunc_api_Trait_api_Trait hE.slices_ContainsFunc_api_Trait_api_Trait (g:=gn) (fr:=[]) (cap:=[.ptr (H.length+1) 0]) (p:=fun o=>o.name == t.name) (tg:=.any) (zU hl.traits.len i) (fun x _=>Lv M hE x t hq);have hlp:=fun k He=>trl M hN hE ht hq (cut_app H _) k t.values.l.length 0 He (by omega)
 simp only [kv_cons,kv_nil,Int.ofNat_zero,List.drop_zero] at hlp;simp (maxSteps:=3000000) (maxDischargeDepth:=6) +contextual -implicitDefEqProofs only [amC M,↓amD,Nat.reduceBEq,Nat.reduceAdd,env,ag,lT,hlp,hcf,jJ,qM,Gk hi,GQ M hN ht.name,cut_app,GT,rl,GS]
theorem GU(hE:lE E)(t:aV)(f:aJ){H:List AObj}{q:Nat}{T:TypeId}(hq:H[q]?=some (.cells f.row T)):M.run fB [.agg t.row,.ptr q 0] H=some (.ret (.bool (t.name == f.name)),H):=by
 rw [aP M hE.morph_checker_bundle_1_1 rfl (c:=iI) rfl,iI];simp (maxSteps:=3000000) (maxDischargeDepth:=6) +contextual -implicitDefEqProofs only [amC M,↓amD,Nat.reduceBEq,Nat.reduceAdd,env,ag,ub,qM,zR,hq,cP hq]
end
section
attribute [local congr] aw aW cM bt aA bf aM aC ao aq aN aO
variable{E:bc}(M:cE bT E)
def GV{α:Type}(l:List α)(q:α→Bool):Nat→Bool
 |0=>false
 |i+1=>match l[i]? with
  |some g=>q g
  |none=>false
theorem Lw{α:Type}{l:List α}{i:Nat}{g:α}(h:l[i]?=some g)(q:α→Bool):GV l q (i+1)=q g:=by simp only [GV,h]
theorem WC:decide ((0:Int)<((0:Nat):Int))=false:=rfl
theorem WD(j:Nat):decide ((0:Int)<((j+1:Nat):Int))=true:=decide_eq_true (by omega)
theorem U2(j:Nat):decide (((j:Nat):Int)<0)=false:=decide_eq_false (by omega)
theorem V5:decide ((-1:Int)<0)=true:=rfl
def EJ(l:Lex)(b:List aJ)(i:Nat)(f:aJ):Int:=
 match l.traits.l.find? fun t=>t.name == f.name with
 |none=>5
 |some t=>sel (!(t.values.l.any fun s=>f.value == s)) 1 (sel (GV b (fun g=>g.name == f.name) i) 6 (sel (GV b (fun g => !(Op.bytesLess g.name f.name||g.name == f.name)) i) 1 0))
theorem JU(hE:lE E){l:Lex}{b:List aJ}{tg:Tag}{n:Nat}(hl:l.ok n)(hb:b.length≤bY){i:Nat}{f:aJ}(hf:b[i]?=some f){H:List AObj}{p q:Nat}{T T2:TypeId}
  (hp:H[p]?=some (.cells l.row T)) (hq:H[q]?=some (.cells [.slice tg 2 (b.map aJ.row)] T2)) :
  M.run fW [.int .i64 i,.agg f.row,.ptr p 0,.ptr q 0] H=some (.ret (.int .u8 (EJ l b i f)),H):=by
 rw [aP M hE.morph_checker_bundle_1 rfl (c:=jO) rfl,jO];have hi:i<b.length:=(List.getElem?_eq_some_iff.1 hf).1;have hr:(H++[AObj.cells f.row bw])[H.length]?=some (.cells f.row bw):=by rw [eL];rfl
 have hp':=fun L=>cP (L:=L) hp
 have hq':=fun L=>cP (L:=L) hq
 have hcf:=sZ M hE.slices_IndexFunc_api_Trait_api_Trait (g:=fB) (fr:=[]) (cap:=[.ptr H.length 0]) (p:=fun t=>t.name == f.name) (tg:=l.traits.tag) hl.traits.len (fun x _=>GU M hE x f hr);rcases yo (fun t:aV=>t.name == f.name) l.traits.l 0 with ⟨h1,h2⟩ | ⟨j,t,h1,h2,h3⟩
 ·rw [h1] at hcf
  simp (maxSteps:=3000000) (maxDischargeDepth:=6) +contextual -implicitDefEqProofs only [amC M,↓amD,Nat.reduceBEq,Nat.reduceAdd,env,ag,jP,hcf,jJ,zR,hp',hq',EJ,h2,V5]
 ·rw [h1,Nat.zero_add] at hcf
  have hj:j<l.traits.l.length:=(List.getElem?_eq_some_iff.1 h2).1;have hm:t∈l.traits.l:=List.mem_of_getElem? h2;cases i with
  |zero=>
   simp (maxSteps:=3000000) (maxDischargeDepth:=6) +contextual -implicitDefEqProofs only [amC M,↓amD,Nat.reduceBEq,Nat.reduceAdd,env,ag,jP,hcf,jJ,zR,qM,hp',hq',EJ,h2,h3,U2,WC,GV,bG hj,yp M hE (hl.traits.all t hm).values.len,rl]
  |succ i=>
   have hx:b[i]?=some b[i]:=List.getElem?_eq_getElem (by omega);simp (maxSteps:=3000000) (maxDischargeDepth:=6) +contextual -implicitDefEqProofs only [amC M,↓amD,Nat.reduceBEq,Nat.reduceAdd,env,ag,jP,hcf,jJ,zR,qM,hp',hq',EJ,h2,h3,U2,WD,Lw hx,hx,hf,bG hj,bG (show i<b.length by omega),QL (show i+1≤bY by omega),yp M hE (hl.traits.all t hm).values.len,rl]
end
section
attribute [local congr] aw aW cM bt aA bf aM aC ao aq aN aO
variable{E:bc}(M:cE bT E)
theorem S0{b:Sl aJ}{n m:Nat}(h:b.ok n (aJ.ok n))(hm:n≤m):Wk m (.slice b.tag 2 (b.l.map aJ.row)) (.slice b.tag 2 (b.l.map aJ.row)):=
 (h.mono hm (fun _ h=>h)).wk (fun _ h=>(h.mono hm).wk)
def jI(l:Lex)(b:List aJ):Int:=kr 8 (EJ l b) b
theorem BO(hE:lE E){l:Lex}{b:Sl aJ}{n:Nat}(hl:l.ok n)(hb:b.ok n (aJ.ok n)){H:List AObj}(hn:n≤H.length) :
  M.run fA [.agg l.row,.slice b.tag 2 (b.l.map aJ.row)] H=some (.ret (.int .u8 (jI l b.l)),H):=by
 rw [aP M hE.morph_checker_bundle rfl (c:=kQ) rfl,kQ]
 have he:=HS M hE.morph_each_api_Feat (g:=fW) (fr:=[]) (cap:=[.ptr H.length 0,.ptr (H.length+1) 0]) (F:=EJ l b.l) (tg:=b.tag) (l:=b.l) (H:=H++[.cells l.row bo,.cells [.slice b.tag 2 (b.l.map aJ.row)] ek]) hb.len
  (wk_fn trivial ⟨wk_ptr (by simp),wk_ptr (by simp),trivial⟩) (S0 hb (by simp;omega))
  (fun L i x hx=>JU M hE hl hb.len hx (T:=bo) (T2:=ek) (by rw [List.append_assoc,eL];rfl) (by rw [List.append_assoc,hp_getk];rfl))
 simp (maxSteps:=3000000) (maxDischargeDepth:=6) +contextual -implicitDefEqProofs only [amC M,↓amD,Nat.reduceBEq,Nat.reduceAdd,env,ag,xR,he 8,jJ,jI]
theorem Lx(hE:lE E)(o t:aL){H:List AObj}{q:Nat}{T:TypeId}(hq:H[q]?=some (.cells t.row T)):M.run gp [.agg o.row,.ptr q 0] H=some (.ret (.bool (o.name == t.name)),H):=by
 rw [aP M hE.morph_checker_class_1 rfl (c:=kh) rfl,kh];simp (maxSteps:=3000000) (maxDischargeDepth:=6) +contextual -implicitDefEqProofs only [amC M,↓amD,Nat.reduceBEq,Nat.reduceAdd,env,ag,wz,mM,hq,cP hq]
def GW(l:Lex)(s:bF):Int:=
 sel (decide (s.cut<0)||decide (24<s.cut) || !iM tA s.pre || !iM tA s.add) 1 (jI l s.feats.l)
theorem Ly(hN:gj E)(hE:lE E){l:Lex}{s:bF}{n:Nat}(hl:l.ok n)(hs:s.ok n){H:List AObj}(hn:n≤H.length){p:Nat}{T:TypeId}(hp:H[p]?=some (.cells l.row T))(i:Int) :
  M.run gq [.int .i64 i,.agg s.row,.ptr p 0] H=some (.ret (.int .u8 (GW l s)),H):=by
 rw [aP M hE.morph_checker_class_2 rfl (c:=ki) rfl,ki];have hp':=fun L=>cP (L:=L) hp
 have h1:=fun (H:List AObj)=>w5 M hN hE (g:=bZ) (fr:=[]) (cap:=[]) hs.pre (fun c=>mV M hN.letter c H)
 have h2:=fun (H:List AObj)=>w5 M hN hE (g:=bZ) (fr:=[]) (cap:=[]) hs.add (fun c=>mV M hN.letter c H)
 simp (maxSteps:=3000000) (maxDischargeDepth:=6) +contextual -implicitDefEqProofs only [amC M,↓amD,Nat.reduceBEq,Nat.reduceAdd,env,ag,wA,h1,h2,hp',Gi,jJ,hn,BO M hE hl hs.feats,GW,rl,Bool.or_assoc]
def GX(l:Lex)(i:Nat)(c:aL):Int:=
 sel (!ks c.name) 5 (sel ((l.classes.l.take i).any fun o=>o.name == c.name) 6 (sel (decide ((24:Int)<(c.slots.l.length:Int))) 3 (sel ((c.slots.l.length:Int) == 0) 1 (kr 24 (fun _ s=>GW l s) c.slots.l))))
theorem Pa(hN:gj E)(hE:lE E){l:Lex}{c:aL}{n:Nat}(hl:l.ok n)(hc:c.ok n){i:Nat}(hi:i<l.classes.l.length){H:List AObj}(hn:n≤H.length) :
  M.run iS [.agg l.row,.int .i64 i,.agg c.row] H=some (.ret (.int .u8 (GX l i c)),H):=by
 rw [aP M hE.morph_checker_class rfl (c:=lU) rfl,lU];have hq:(H++[AObj.cells l.row bo,.cells c.row aG])[H.length+1]?=some (.cells c.row aG):=by rw [hp_getk];rfl
 have hcf:=yl M hE.slices_IndexFunc_api_Class_api_Class hE.slices_ContainsFunc_api_Class_api_Class (g:=gp) (fr:=[]) (cap:=[.ptr (H.length+1) 0]) (p:=fun o=>o.name == c.name) (tg:=.any) (zU hl.classes.len i) (fun x _=>Lx M hE x c hq)
 have he:=HT M hE.morph_each_api_Slot (g:=gq) (fr:=[]) (cap:=[.ptr H.length 0]) (F:=fun _ s=>GW l s) (tg:=c.slots.tag) (l:=c.slots.l) (H:=H++[.cells l.row bo,.cells c.row aG]) hc.slots.len
  (wk_fn trivial ⟨wk_ptr (by simp),trivial⟩) ((hc.slots.mono (by simp;omega) (fun _ h=>h)).wk (fun _ h=>(h.mono (by simp;omega)).wk))
  (fun L i x hx=>Ly M hN hE hl (hc.slots.all x (List.mem_of_getElem? hx)) (by simp;omega) (T:=bo) (by rw [List.append_assoc,eL];rfl) i)
 simp (maxSteps:=3000000) (maxDischargeDepth:=6) +contextual -implicitDefEqProofs only [amC M,↓amD,Nat.reduceBEq,Nat.reduceAdd,env,ag,yT,hcf,he 24,jJ,mM,Gk hi,GQ M hN hc.name,cut_app,rl,GX]
end
section
attribute [local congr] aw aW cM bt aA bf aM aC ao aq aN aO
variable{E:bc}(M:cE bT E)
theorem Bj(hE:lE E)(o:aL)(s:Str){H:List AObj}{q:Nat}{T:TypeId}(hq:H[q]?=some (.cells [.str s] T)):M.run jD [.agg o.row,.ptr q 0] H=some (.ret (.bool (o.name == s)),H):=by
 rw [aP M hE.morph_classOf_1 rfl (c:=pR) rfl,pR];simp (maxSteps:=3000000) (maxDischargeDepth:=6) +contextual -implicitDefEqProofs only [amC M,↓amD,Nat.reduceBEq,Nat.reduceAdd,env,ag,CG,mM,hq,cP hq]
def u5(l:Lex)(s:Str):Option aL:=l.classes.l.find? fun c=>c.name == s
def AO:aL:=⟨[],⟨.nil,[]⟩⟩
theorem u6:[AV.str [],.slice .nil 4 []]=AO.row:=rfl
theorem w6(hE:lE E){l:Lex}{s:Str}{n:Nat}(hl:l.ok n)(hf:u5 l s=none)(H:List AObj) :
  M.run jo [.agg l.row,.str s] H=some (.ret (.tuple [.agg AO.row,.bool false]),H):=by
 rw [aP M hE.morph_classOf rfl (c:=lr) rfl,lr]
 have hcf:=nG M hE.slices_IndexFunc_api_Class_api_Class (g:=jD) (fr:=[]) (cap:=[.ptr (H.length+1) 0]) (p:=fun c=>c.name == s) (tg:=l.classes.tag) hl.classes.len
  (H:=H++[.cells l.row ah,.cells [.str s] bg,.cells AO.row aG]) (fun x _=>Bj M hE x s (T:=bg) (by rw [hp_getk];rfl))
 rcases yo (fun c:aL=>c.name == s) l.classes.l 0 with ⟨h1,h2⟩ | ⟨j,t,h1,h2,h3⟩
 ·rw [h1] at hcf
  simp (maxSteps:=3000000) (maxDischargeDepth:=6) +contextual -implicitDefEqProofs only [amC M,↓amD,Nat.reduceBEq,Nat.reduceAdd,env,ag,yC,amG,AV.cell,Nat.reduceMul,Nat.reduceLeDiff,u6,hcf,jJ,mM,V5,jd,(show WkL H.length AO.row AO.row from ⟨wk_str _ _,wk_slice trivial (Bx _),trivial⟩)]
 ·exact absurd (hf.symm.trans h3) (by simp)
theorem w7(hE:lE E){l:Lex}{s:Str}{n:Nat}(hl:l.ok n){c:aL}(hf:u5 l s=some c){H:List AObj}(hn:n≤H.length) :
  M.run jo [.agg l.row,.str s] H=some (.ret (.tuple [.agg c.row,.bool true]),H):=by
 rw [aP M hE.morph_classOf rfl (c:=lr) rfl,lr]
 have hcf:=nG M hE.slices_IndexFunc_api_Class_api_Class (g:=jD) (fr:=[]) (cap:=[.ptr (H.length+1) 0]) (p:=fun c=>c.name == s) (tg:=l.classes.tag) hl.classes.len
  (H:=H++[.cells l.row ah,.cells [.str s] bg,.cells AO.row aG]) (fun x _=>Bj M hE x s (T:=bg) (by rw [hp_getk];rfl))
 rcases yo (fun c:aL=>c.name == s) l.classes.l 0 with ⟨h1,h2⟩ | ⟨j,t,h1,h2,h3⟩
 ·exact absurd (hf.symm.trans h2) (by simp)
 ·obtain rfl:c=t:=by have:=hf.symm.trans h3;simpa using this
  rw [h1,Nat.zero_add] at hcf;have hj:j<l.classes.l.length:=(List.getElem?_eq_some_iff.1 h2).1;have hw:WkL H.length c.row c.row:=((hl.classes.all c (List.mem_of_getElem? h2)).mono hn).wk;simp (maxSteps:=3000000) (maxDischargeDepth:=6) +contextual -implicitDefEqProofs only [amC M,↓amD,Nat.reduceBEq,Nat.reduceAdd,env,ag,yC,amG,AV.cell,Nat.reduceMul,Nat.reduceLeDiff,u6,hcf,jJ,mM,U2,bG hj,h2,hw]
end
section
attribute [local congr] aw aW cM bt aA bf aM aC ao aq aN aO
variable{E:bc}(M:cE bT E)
def AP(f g:aJ):Bool:=f.name == g.name && !(f.value == g.value)
def DF(a b:List aJ):Bool:=a.any fun f=>b.any fun g=>AP f g
theorem HV(hE:lE E)(g f:aJ){H:List AObj}{q:Nat}{T:TypeId}(hq:H[q]?=some (.cells f.row T)):M.run ml [.agg g.row,.ptr q 0] H=some (.ret (.bool (AP f g)),H):=by
 rw [aP M hE.morph_clash_1_1 rfl (c:=pS) rfl,pS];simp (maxSteps:=3000000) (maxDischargeDepth:=6) +contextual -implicitDefEqProofs only [amC M,↓amD,Nat.reduceBEq,Nat.reduceAdd,env,ag,CH,zR,hq,cP hq,AP]
theorem Lz(hE:lE E)(f:aJ){b:Sl aJ}{n:Nat}(hb:b.l.length≤bY){H:List AObj}{q:Nat}{T:TypeId}(hq:H[q]?=some (.cells [.slice b.tag 2 (b.l.map aJ.row)] T)) :
  M.run om [.agg f.row,.ptr q 0] H=some (.ret (.bool (b.l.any fun g=>AP f g)),H):=by
 rw [aP M hE.morph_clash_1 rfl (c:=sJ) rfl,sJ];have hcf:=qI M hE.slices_IndexFunc_api_Feat_api_Feat hE.slices_ContainsFunc_api_Feat_api_Feat (g:=ml) (fr:=[]) (cap:=[.ptr H.length 0]) (p:=fun g=>AP f g) (tg:=b.tag) hb (H:=H++[.cells f.row bw]) (fun x _=>HV M hE x f (T:=bw) (by rw [eL];rfl));simp (maxSteps:=3000000) (maxDischargeDepth:=6) +contextual -implicitDefEqProofs only [amC M,↓amD,Nat.reduceBEq,Nat.reduceAdd,env,ag,Ex,hcf,zR,cP hq]
theorem Pb(hE:lE E){a b:Sl aJ}(ha:a.l.length≤bY)(hb:b.l.length≤bY)(H:List AObj) :
  M.run vi [.slice a.tag 2 (a.l.map aJ.row),.slice b.tag 2 (b.l.map aJ.row)] H=some (.ret (.bool (DF a.l b.l)),H):=by
 rw [aP M hE.morph_clash rfl (c:=vy) rfl,vy];have hcf:=qI M hE.slices_IndexFunc_api_Feat_api_Feat hE.slices_ContainsFunc_api_Feat_api_Feat (g:=om) (fr:=[]) (cap:=[.ptr H.length 0]) (p:=fun f=>b.l.any fun g=>AP f g) (tg:=a.tag) ha (H:=H++[.cells [.slice b.tag 2 (b.l.map aJ.row)] ek]) (fun x _=>Lz M hE x (n:=0) hb (T:=ek) (by rw [eL];rfl));simp (maxSteps:=3000000) (maxDischargeDepth:=6) +contextual -implicitDefEqProofs only [amC M,↓amD,Nat.reduceBEq,Nat.reduceAdd,env,ag,HJ,hcf,DF]
theorem LA(hE:lE E)(o x:aI){H:List AObj}{q:Nat}{T:TypeId}(hq:H[q]?=some (.cells x.row T)):M.run gr [.agg o.row,.ptr q 0] H=some (.ret (.bool (o.lem == x.lem&&o.cls == x.cls)),H):=by
 rw [aP M hE.morph_checker_entry_1 rfl (c:=kj) rfl,kj];simp (maxSteps:=3000000) (maxDischargeDepth:=6) +contextual -implicitDefEqProofs only [amC M,↓amD,Nat.reduceBEq,Nat.reduceAdd,env,ag,wB,sg,hq,cP hq]
theorem LB(hE:lE E){s:bF}{x:aI}{n m:Nat}(hs:s.ok n)(hx:x.ok m){H:List AObj}{q:Nat}{T:TypeId}(hq:H[q]?=some (.cells x.row T)):M.run gu [.agg s.row,.ptr q 0] H=some (.ret (.bool (DF x.feats.l s.feats.l)),H):=by
 rw [aP M hE.morph_checker_entry_2 rfl (c:=km) rfl,km];simp (maxSteps:=3000000) (maxDischargeDepth:=6) +contextual -implicitDefEqProofs only [amC M,↓amD,Nat.reduceBEq,Nat.reduceAdd,env,ag,wC,sg,Gi,hq,cP hq,Pb M hE hx.feats.len hs.feats.len]
theorem LC(hE:lE E)(o x:bp){H:List AObj}{q:Nat}{T:TypeId}(hq:H[q]?=some (.cells x.row T)):M.run gv [.agg o.row,.ptr q 0] H=some (.ret (.bool (o.slot == x.slot)),H):=by
 rw [aP M hE.morph_checker_entry_3 rfl (c:=kn) rfl,kn];simp (maxSteps:=3000000) (maxDischargeDepth:=6) +contextual -implicitDefEqProofs only [amC M,↓amD,Nat.reduceBEq,Nat.reduceAdd,env,ag,wD,De,hq,cP hq]
def NY(n:Nat)(l:List bp)(k:Nat)(f:bp):Int:=
 sel (decide (f.slot<0)||decide ((n:Int)≤f.slot)) 7 (sel ((l.take k).any fun o=>o.slot == f.slot) 6 (sel (!(f.word == []) && !oP f.word) 1 0))
theorem enl{H H0:List AObj}(hN:gj E)(hE:lE E){x:aI}{c:aL}{n0:Nat}(hx0:x.ok n0)(hn:n0≤H.length){p q:Nat}{T T2:TypeId}(hp:H[p]?=some (.cells x.row T))(hq:H[q]?=some (.cells c.row T2))(hc:dP H0 H)(k:List Fra):∀ (n i:Nat),i+n=(x.forms.l).length →
  M.go eE H0 (.c fk :: .lp ⟨(some [5,7,48,49,50]),[],true⟩ fk H :: .blk 1 :: .c (.lv [])::k) (kv [(5,.ptr p 0),(7,.ptr q 0),(48,.slice x.forms.tag 2 (x.forms.l.map bp.row)),(49,.int .i64 x.forms.l.length),(50,.int .i64 i)]) H =
   orE (fJ (ui (NY c.slots.l.length x.forms.l)) i (x.forms.l.drop i)) (H.take H0.length) (M.go eE H0 k .leaf H)
 |0,i,h=>by
  have e:i=(x.forms.l).length:=by omega
  subst e;rw [au M fk.eq_1];simp (maxSteps:=3000000) (maxDischargeDepth:=6) +contextual -implicitDefEqProofs only [amC M,↓amD,Nat.reduceBEq,Nat.reduceAdd,env,ag,i7,Nat.lt_irrefl,List.drop_length]
 |n+1,i,h=>by
  have hi:i<(x.forms.l).length:=by omega
  have hx:(x.forms.l)[i]?=some (x.forms.l)[i]:=List.getElem?_eq_getElem hi;have hd:((x.forms.l).drop i)=(x.forms.l)[i]::(x.forms.l).drop (i+1):=List.drop_eq_getElem_cons hi;have hm:(x.forms.l)[i]∈(x.forms.l):=List.getElem_mem hi;have ih:=enl (H:=H) (H0:=H0) (hN:=hN) (hE:=hE) (x:=x) (c:=c) (n0:=n0) (hx0:=hx0) (hn:=hn) (p:=p) (q:=q) (T:=T) (T2:=T2) (hp:=hp) (hq:=hq) hc k n (i+1)  (by omega);simp only [kv_cons,kv_nil] at ih
  have hp':=fun L=>cP (L:=L) hp
  have hq':=fun L=>cP (L:=L) hq
  have w1:Wk H.length (.ptr p 0) (.ptr p 0):=wk_ptr (List.getElem?_eq_some_iff.1 hp).1;have w2:Wk H.length (.ptr q 0) (.ptr q 0):=wk_ptr (List.getElem?_eq_some_iff.1 hq).1;have w3:Wk H.length (.slice x.forms.tag 2 (x.forms.l.map bp.row)) (.slice x.forms.tag 2 (x.forms.l.map bp.row)):=(hx0.forms.mono hn (fun _ h=>h.mono hn)).wk (fun _ h=>h.wk);have hcf:=ym M hE.slices_IndexFunc_api_Irregular_api_Irregular hE.slices_ContainsFunc_api_Irregular_api_Irregular (g:=gv) (fr:=[]) (cap:=[.ptr H.length 0]) (p:=fun o=>o.slot == x.forms.l[i].slot) (tg:=.any) (zU hx0.forms.len i) (H:=H++[.cells x.forms.l[i].row bn]) (fun o _=>LC M hE o _ (T:=bn) (by rw [eL];rfl))
  rw [au M fk.eq_1];simp (maxSteps:=3000000) (maxDischargeDepth:=6) +contextual -implicitDefEqProofs only [amC M,↓amD,Nat.reduceBEq,Nat.reduceAdd,env,ag,i7,hx,hd,hi,ih,amG,AV.cell,hp',hq',w1,w2,w3,hcf,cY hi hx0.forms.len,bG hi,De,sg,mM,DE M hN (hx0.forms.all _ hm).word,Gk hi,hc,EW,NY,qE]
end
section
attribute [local congr] aw aW cM bt aA bf aM aC ao aq aN aO
variable{E:bc}(M:cE bT E)
def BP(l:Lex)(i:Nat)(x:aI):Int:=
 match u5 l x.cls with
 |none=>sel (!oP x.lem) 1 5
 |some c=>sel (!oP x.lem) 1 (sel ((l.entries.l.take i).any fun o=>o.lem == x.lem&&o.cls == x.cls) 6 (sel (!(jI l x.feats.l == 0)) (jI l x.feats.l)
   (sel (c.slots.l.any fun s=>DF x.feats.l s.feats.l) 10 (A5 (NY c.slots.l.length x.forms.l) 0 x.forms.l))))
theorem Pc(hN:gj E)(hE:lE E){l:Lex}{x:aI}{n:Nat}(hl:l.ok n)(hx:x.ok n){i:Nat}(hi:i<l.entries.l.length){H:List AObj}(hn:n≤H.length) :
  M.run iT [.agg l.row,.int .i64 i,.agg x.row] H=some (.ret (.int .u8 (BP l i x)),H):=by
 rw [aP M hE.morph_checker_entry rfl (c:=lV) rfl,lV];cases hc:u5 l x.cls with
 |none=>
  have h1:=fun H=>w6 M hE hl hc H
  simp (maxSteps:=3000000) (maxDischargeDepth:=6) +contextual -implicitDefEqProofs only [amC M,↓amD,Nat.reduceBEq,Nat.reduceAdd,env,ag,i7,amG,AV.cell,Nat.reduceMul,Nat.reduceLeDiff,h1,jJ,sg,mM,u6,DE M hN hx.lem,BP,hc,rl]
 |some c=>
  have hcm:c∈l.classes.l:=List.mem_of_find?_eq_some hc;have hco:=hl.classes.all c hcm;have h2:=yn M hE.slices_IndexFunc_api_Entry_api_Entry hE.slices_ContainsFunc_api_Entry_api_Entry (g:=gr) (fr:=[]) (cap:=[.ptr (H.length+1) 0]) (p:=fun o=>o.lem == x.lem&&o.cls == x.cls) (tg:=.any) (zU hl.entries.len i) (H:=H++[.cells l.row bo,.cells x.row aS,.cells c.row aG]) (fun o _=>LA M hE o x (T:=aS) (by rw [hp_getk];rfl))
  have h3:=za M hE.slices_IndexFunc_api_Slot_api_Slot hE.slices_ContainsFunc_api_Slot_api_Slot (g:=gu) (fr:=[]) (cap:=[.ptr (H.length+1) 0]) (p:=fun s=>DF x.feats.l s.feats.l) (tg:=c.slots.tag) hco.slots.len (H:=H++[.cells l.row bo,.cells x.row aS,.cells c.row aG]) (fun s hs=>LB M hE (hco.slots.all s hs) hx (T:=aS) (by rw [hp_getk];rfl));have h4:=fun k=>enl M hN hE (H:=H++[.cells l.row bo,.cells x.row aS,.cells c.row aG]) (H0:=H) hx (by simp;omega) (c:=c) (p:=H.length+1) (q:=H.length+2) (T:=aS) (T2:=aG) (by rw [hp_getk];rfl) (by rw [hp_getk];rfl) (cut_app H _) k x.forms.l.length 0 (by omega)
  simp only [kv_cons,kv_nil,Int.ofNat_zero,List.drop_zero] at h4;simp (maxSteps:=3000000) (maxDischargeDepth:=6) +contextual -implicitDefEqProofs only [amC M,↓amD,Nat.reduceBEq,Nat.reduceAdd,env,ag,i7,amG,AV.cell,Nat.reduceMul,Nat.reduceLeDiff,w7 M hE hl hc,hn,h2,h3,h4,jJ,sg,mM,DE M hN hx.lem,BO M hE hl hx.feats,Gk hi,BP,hc,rl,GT]
def JV(x:bq):Int:=
 sel (x.frm == [] || !iM CJ x.frm || !iM CJ x.to || !iM Eb x.left || !iM Eb x.right) 1 0
theorem LD(hN:gj E)(hE:lE E){l:Lex}{x:bq}{n:Nat}(hx:x.ok n)(i:Int)(H:List AObj) :
  M.run iU [.agg l.row,.int .i64 i,.agg x.row] H=some (.ret (.int .u8 (JV x)),H):=by
 rw [aP M hE.morph_checker_spell rfl (c:=lW) rfl,lW];have h1:=fun (H:List AObj) (s:Str) hs=>w5 M hN hE (g:=j4) (fr:=[]) (cap:=[]) (s:=s) hs (fun c=>GR M hN hE c H)
 have h2:=fun (H:List AObj) (s:Str) hs=>w5 M hN hE (g:=mO) (fr:=[]) (cap:=[]) (s:=s) hs (fun c=>MW M hN hE c H)
 simp (maxSteps:=3000000) (maxDischargeDepth:=6) +contextual -implicitDefEqProofs only [amC M,↓amD,Nat.reduceBEq,Nat.reduceAdd,env,ag,yU,h1,h2,hx.frm,hx.to,hx.left,hx.right,jJ,Gj,JV,rl,Bool.or_assoc]
def GY(l:Lex)(x:cF):Int:=
 match u5 l x.cls with
 |none=>5
 |some _=>sel (!iM tA x.glue) 1 (jI l x.feats.l)
theorem MY(hN:gj E)(hE:lE E){l:Lex}{x:cF}{n:Nat}(hl:l.ok n)(hx:x.ok n)(i:Int){H:List AObj}(hn:n≤H.length) :
  M.run jB [.agg l.row,.int .i64 i,.agg x.row] H=some (.ret (.int .u8 (GY l x)),H):=by
 rw [aP M hE.morph_checker_link rfl (c:=mR) rfl,mR];have h1:=fun (H:List AObj)=>w5 M hN hE (g:=bZ) (fr:=[]) (cap:=[]) hx.glue (fun c=>mV M hN.letter c H)
 cases hc:u5 l x.cls with
 |none=>
  have h2:=fun H=>w6 M hE hl hc H
  simp (maxSteps:=3000000) (maxDischargeDepth:=6) +contextual -implicitDefEqProofs only [amC M,↓amD,Nat.reduceBEq,Nat.reduceAdd,env,ag,rG,amG,AV.cell,Nat.reduceMul,Nat.reduceLeDiff,h2,jJ,IB,mM,u6,GY,hc,rl]
 |some c=>
  simp (maxSteps:=3000000) (maxDischargeDepth:=6) +contextual -implicitDefEqProofs only [amC M,↓amD,Nat.reduceBEq,Nat.reduceAdd,env,ag,rG,amG,AV.cell,Nat.reduceMul,Nat.reduceLeDiff,w7 M hE hl hc,hn,h1,jJ,IB,mM,BO M hE hl hx.feats,GY,hc,rl]
end
section
attribute [local congr] aw aW cM bt aA bf aM aC ao aq aN aO
variable{E:bc}(M:cE bT E)
def qS(l:Lex):Int:=kr 8 (GS l) l.traits.l
theorem LF(hN:gj E)(hE:lE E){l:Lex}{n:Nat}(hl:l.ok n){H:List AObj}(hn:n≤H.length){p q:Nat}{T T2:TypeId}(hp:H[p]?=some (.cells l.row T))(hq:H[q]?=some (.cells l.row T2)) :
  M.run oc [.ptr p 0,.ptr q 0] H=some (.ret (.int .u8 (qS l)),H):=by
 rw [aP M hE.morph_Check_1 rfl (c:=sq) rfl,sq]
 have he:=GI M hE.morph_each_api_Trait (g:=iR) (fr:=[.agg l.row]) (cap:=[]) (F:=GS l) (tg:=l.traits.tag) (l:=l.traits.l) (H:=H) hl.traits.len
  (wk_fn ⟨wk_agg (hl.mono hn).wk,trivial⟩ trivial) ((hl.traits.mono hn (fun _ h=>h.mono hn)).wk (fun _ h=>h.wk))
  (fun L i x hx=>O9 M hN hE hl (hl.traits.all x (List.mem_of_getElem? hx)) (List.getElem?_eq_some_iff.1 hx).1 _)
 simp (maxSteps:=3000000) (maxDischargeDepth:=6) +contextual -implicitDefEqProofs only [amC M,↓amD,Nat.reduceBEq,Nat.reduceAdd,env,ag,Ek,he 8,jJ,hp,hq,qS]
def uj(l:Lex):Int:=kr 16 (GX l) l.classes.l
theorem LG(hN:gj E)(hE:lE E){l:Lex}{n:Nat}(hl:l.ok n){H:List AObj}(hn:n≤H.length){p q:Nat}{T T2:TypeId}(hp:H[p]?=some (.cells l.row T))(hq:H[q]?=some (.cells l.row T2)) :
  M.run od [.ptr p 0,.ptr q 0] H=some (.ret (.int .u8 (uj l)),H):=by
 rw [aP M hE.morph_Check_2 rfl (c:=sr) rfl,sr]
 have he:=GK M hE.morph_each_api_Class (g:=iS) (fr:=[.agg l.row]) (cap:=[]) (F:=GX l) (tg:=l.classes.tag) (l:=l.classes.l) (H:=H) hl.classes.len
  (wk_fn ⟨wk_agg (hl.mono hn).wk,trivial⟩ trivial) ((hl.classes.mono hn (fun _ h=>h.mono hn)).wk (fun _ h=>h.wk))
  (fun L i x hx=>Pa M hN hE hl (hl.classes.all x (List.mem_of_getElem? hx)) (List.getElem?_eq_some_iff.1 hx).1 (by simp;omega))
 simp (maxSteps:=3000000) (maxDischargeDepth:=6) +contextual -implicitDefEqProofs only [amC M,↓amD,Nat.reduceBEq,Nat.reduceAdd,env,ag,El,he 16,jJ,hp,hq,uj]
def yq(l:Lex):Int:=kr 128 (BP l) l.entries.l
theorem LI(hN:gj E)(hE:lE E){l:Lex}{n:Nat}(hl:l.ok n){H:List AObj}(hn:n≤H.length){p q:Nat}{T T2:TypeId}(hp:H[p]?=some (.cells l.row T))(hq:H[q]?=some (.cells l.row T2)) :
  M.run oe [.ptr p 0,.ptr q 0] H=some (.ret (.int .u8 (yq l)),H):=by
 rw [aP M hE.morph_Check_3 rfl (c:=su) rfl,su]
 have he:=GM M hE.morph_each_api_Entry (g:=iT) (fr:=[.agg l.row]) (cap:=[]) (F:=BP l) (tg:=l.entries.tag) (l:=l.entries.l) (H:=H) hl.entries.len
  (wk_fn ⟨wk_agg (hl.mono hn).wk,trivial⟩ trivial) ((hl.entries.mono hn (fun _ h=>h.mono hn)).wk (fun _ h=>h.wk))
  (fun L i x hx=>Pc M hN hE hl (hl.entries.all x (List.mem_of_getElem? hx)) (List.getElem?_eq_some_iff.1 hx).1 (by simp;omega))
 simp (maxSteps:=3000000) (maxDischargeDepth:=6) +contextual -implicitDefEqProofs only [amC M,↓amD,Nat.reduceBEq,Nat.reduceAdd,env,ag,Em,he 128,jJ,hp,hq,yq]
def Ax(l:Lex):Int:=kr 16 (fun _ x=>JV x) l.spells.l
theorem LJ(hN:gj E)(hE:lE E){l:Lex}{n:Nat}(hl:l.ok n){H:List AObj}(hn:n≤H.length){p q:Nat}{T T2:TypeId}(hp:H[p]?=some (.cells l.row T))(hq:H[q]?=some (.cells l.row T2)) :
  M.run og [.ptr p 0,.ptr q 0] H=some (.ret (.int .u8 (Ax l)),H):=by
 rw [aP M hE.morph_Check_4 rfl (c:=sw) rfl,sw]
 have he:=GO M hE.morph_each_api_Spell (g:=iU) (fr:=[.agg l.row]) (cap:=[]) (F:=fun _ x=>JV x) (tg:=l.spells.tag) (l:=l.spells.l) (H:=H) hl.spells.len
  (wk_fn ⟨wk_agg (hl.mono hn).wk,trivial⟩ trivial) ((hl.spells.mono hn (fun _ h=>h.mono hn)).wk (fun _ h=>h.wk))
  (fun L i x hx=>LD M hN hE (hl.spells.all x (List.mem_of_getElem? hx)) i _)
 simp (maxSteps:=3000000) (maxDischargeDepth:=6) +contextual -implicitDefEqProofs only [amC M,↓amD,Nat.reduceBEq,Nat.reduceAdd,env,ag,En,he 16,jJ,hp,hq,Ax]
def yr(l:Lex):Int:=kr 8 (fun _ x=>GY l x) l.links.l
theorem LL(hN:gj E)(hE:lE E){l:Lex}{n:Nat}(hl:l.ok n){H:List AObj}(hn:n≤H.length){p q:Nat}{T T2:TypeId}(hp:H[p]?=some (.cells l.row T))(hq:H[q]?=some (.cells l.row T2)) :
  M.run oh [.ptr p 0,.ptr q 0] H=some (.ret (.int .u8 (yr l)),H):=by
 rw [aP M hE.morph_Check_5 rfl (c:=sx) rfl,sx]
 have he:=HU M hE.morph_each_api_Link (g:=jB) (fr:=[.agg l.row]) (cap:=[]) (F:=fun _ x=>GY l x) (tg:=l.links.tag) (l:=l.links.l) (H:=H) hl.links.len
  (wk_fn ⟨wk_agg (hl.mono hn).wk,trivial⟩ trivial) ((hl.links.mono hn (fun _ h=>h.mono hn)).wk (fun _ h=>h.wk))
  (fun L i x hx=>MY M hN hE hl (hl.links.all x (List.mem_of_getElem? hx)) i (by simp;omega))
 simp (maxSteps:=3000000) (maxDischargeDepth:=6) +contextual -implicitDefEqProofs only [amC M,↓amD,Nat.reduceBEq,Nat.reduceAdd,env,ag,Eo,he 8,jJ,hp,hq,yr]
structure Clo where
 g:Nat
 fr:List AV
 cap:List AV
 e:Int
def Clo.row(x:Clo):List AV:=[.fn (.func x.g) x.fr x.cap]
theorem WE:(∀ x:Clo,bJ none x.row 0=some (.fn (.func x.g) x.fr x.cap)):=fun _=>rfl
theorem fst{H H0:List AObj}{tg:Tag}{l:List Clo}(hs:l.length≤bY)(hp:∀ x∈l,M.run x.g (x.fr++x.cap) H=some (.ret (.int .u8 x.e),H))(hc:dP H0 H)(k:List Fra):∀ (n i:Nat) (He:List AObj),i+n=l.length →
  M.go lI H0 (.c ll :: .lp ⟨(some [6,7,8]),[],false⟩ ll He :: .blk 0 :: .c (.lv [])::k) (kv [(6,.slice tg 1 (l.map Clo.row)),(7,.int .i64 l.length),(8,.int .i64 i)]) H =
   orE (fJ (ui fun _ x=>x.e) i (l.drop i)) (H.take H0.length) (M.go lI H0 k .leaf H)
 |0,i,He,h=>by
  have e:i=l.length:=by omega
  subst e;rw [au M ll.eq_1];simp (maxSteps:=3000000) (maxDischargeDepth:=6) +contextual -implicitDefEqProofs only [amC M,↓amD,Nat.reduceBEq,Nat.reduceAdd,env,ag,vp,Nat.lt_irrefl,List.drop_length]
 |n+1,i,He,h=>by
  have hi:i<l.length:=by omega
  have hx:l[i]?=some l[i]:=List.getElem?_eq_getElem hi;have hd:(l.drop i)=l[i]::l.drop (i+1):=List.drop_eq_getElem_cons hi;have hm:l[i]∈l:=List.getElem_mem hi;have ih:=fun He=>fst (H:=H) (H0:=H0) (tg:=tg) (l:=l) (hs:=hs) (hp:=hp) hc k n (i+1)  He (by omega)
  simp only [kv_cons,kv_nil] at ih;rw [au M ll.eq_1];simp (maxSteps:=3000000) (maxDischargeDepth:=6) +contextual -implicitDefEqProofs only [amC M,↓amD,Nat.reduceBEq,Nat.reduceAdd,env,ag,vp,hx,hd,hi,ih,hp _ hm,cY hi hs,bG hi,WE,hc,ui]
theorem Pd(hE:lE E){tg:Tag}{l:List Clo}(hs:l.length≤bY){H:List AObj}(hp:∀ x∈l,M.run x.g (x.fr++x.cap) H=some (.ret (.int .u8 x.e),H)) :
  M.run vh [.slice tg 1 (l.map Clo.row)] H=some (.ret (.int .u8 (A5 (fun _ x=>x.e) 0 l)),H):=by
 rw [aP M hE.morph_first rfl (c:=vo) rfl,vo];have hl:=fun k He=>fst M (tg:=tg) hs hp (cut_refl H) k l.length 0 He (by omega)
 simp only [kv_cons,kv_nil,Int.ofNat_zero,List.drop_zero] at hl;simp (maxSteps:=3000000) (maxDischargeDepth:=6) +contextual -implicitDefEqProofs only [amC M,↓amD,Nat.reduceBEq,Nat.reduceAdd,env,ag,vp,hl];exact ko _ l 0 H
def mW(l:Lex):Int:=
 A5 (fun _ e=>e) 0 [Q7 l,qS l,uj l,yq l,Ax l,yr l]
theorem DG(hN:gj E)(hE:lE E){l:Lex}{n:Nat}(hl:l.ok n){H:List AObj}(hn:n≤H.length) :
  M.run jK [.agg l.row] H=some (.ret (.int .u8 (mW l)),H):=by
 rw [aP M hE.morph_Check rfl (c:=vm) rfl,vm]
 have hf:=Pd M hE (tg:=.full) (H:=H++[.cells l.row ah,.cells l.row bo])
  (l:=[⟨gW,[.agg l.row],[],Q7 l⟩,⟨oc,[],[.ptr H.length 0,.ptr (H.length+1) 0],qS l⟩,⟨od,[],[.ptr H.length 0,.ptr (H.length+1) 0],uj l⟩,
   ⟨oe,[],[.ptr H.length 0,.ptr (H.length+1) 0],yq l⟩,⟨og,[],[.ptr H.length 0,.ptr (H.length+1) 0],Ax l⟩,⟨oh,[],[.ptr H.length 0,.ptr (H.length+1) 0],yr l⟩]) (by simp [bY]) (by
  have h0:(H++[AObj.cells l.row ah,.cells l.row bo])[H.length]?=some (.cells l.row ah):=by rw [eL];rfl
  have h1:(H++[AObj.cells l.row ah,.cells l.row bo])[H.length+1]?=some (.cells l.row bo):=by rw [hp_getk];rfl
  have h2:n≤(H++[AObj.cells l.row ah,.cells l.row bo]).length:=by simp;omega
  intro x hx;simp only [List.mem_cons,List.not_mem_nil,or_false] at hx;rcases hx with rfl | rfl | rfl | rfl | rfl | rfl
  ·exact MX M hN hE hl _
  ·exact LF M hN hE hl h2 h0 h1
  ·exact LG M hN hE hl h2 h0 h1
  ·exact LI M hN hE hl h2 h0 h1
  ·exact LJ M hN hE hl h2 h0 h1
  ·exact LL M hN hE hl h2 h0 h1)
 simp only [List.map_cons,List.map_nil,Clo.row] at hf;simp (maxSteps:=3000000) (maxDischargeDepth:=6) +contextual -implicitDefEqProofs only [amC M,↓amD,Nat.reduceBEq,Nat.reduceAdd,env,ag,HG,amG,AV.cell,Nat.reduceMul,Nat.reduceLeDiff,hf,jJ];rfl
end
section
attribute [local congr] aw aW cM bt aA bf aM aC ao aq aN aO
variable{E:bc}(M:cE bT E)
def fq(n:Nat):Str:=if n<10 then [UInt8.ofNat (48+n)] else if n<100 then [UInt8.ofNat (48+n / 10),UInt8.ofNat (48+n % 10)] else [UInt8.ofNat (48+n / 100),UInt8.ofNat (48+n / 10 % 10),UInt8.ofNat (48+n % 10)]
def atV(s:Str):Int:=match Lib.atoiAll s with
 |.ok v=>v
 |.range=>Lib.atoiSat s
 |_=>0
def atE(s:Str):AV:=match Lib.atoiAll s with
 |.ok _=>.nilif
 |_=>.iface eX .unk
structure kY (M:cE bT E):Prop where
 index:∀ (s:Str) (c:UInt8) (H:List AObj),M.run cJ [.str s,.int .u8 c.toNat] H=some (.ret (.int .i64 (Lib.indexByte s c)),H)
 same:∀ (i o:Nat) (H:List AObj),M.run eW [.ptr i o] H=some (.ret (.ptr i o),H)
 atoi:∀ (s:Str) (H:List AObj),s.length≤1000000→M.run j8 [.str s] H=some (.ret (.tuple [.int .i64 (atV s),atE s]),H)
 fmt:∀ (n:Nat) (H:List AObj),n<1000→M.run ae [.int .i64 (n:Int),.int .i64 10] H=some (.ret (.str (fq n)),H)
 count:∀ (s:Str) (c:UInt8) (H:List AObj),M.run c6 [.str s,.int .u8 c.toNat] H=some (.ret (.int .i64 (Lib.countByte s c:Nat)),H)
 noZero:∀ (n:Nat) (H:List AObj),n≤281474976710656→M.run cK [.int .i64 n] H=some (.ret (.rslice H.length 0 n 1 true),H++[.cells (List.replicate n .unk) bM])
structure vL (E:bc):Prop where
 strings_Builder_WriteString:E.fn aF=some eB
 strings_Builder_WriteByte:E.fn dI=some ft
 strings_Builder_String:E.fn dB=some fX
 strings_Builder_Len:E.fn iP=some iZ
 strings_Builder_copyCheck:E.fn dJ=some fv
 strings_Builder_grow:E.fn kF=some iq
 strings_Builder_Grow:E.fn ie=some im
abbrev fR(s:Str):List (List AV):=s.map fun b=>[.int .u8 (b.toNat:Int)]
theorem MZ(s:Str):r9 1 (fR s)=true:=by simp [r9,fR,AV.cell]
theorem CL:∀ s:Str,n6 (fR s)=some s
 |[]=>rfl
 |c::s=>by
  have:=CL s;simp only [fR] at this ⊢;simp only [List.map_cons,n6,this,Option.map_some];congr 2;simp
theorem LM:∀ s:Str,AM (fR s)=true
 |[]=>rfl
 |c::s=>by
  have:=LM s;simp only [fR] at this ⊢;simp only [List.map_cons,AM,this,Bool.and_true,Bool.and_eq_true,decide_eq_true_eq];have:=c.toNat_lt;omega
theorem Pe(w s:Str):fR (w++s)=fR w++(fR s).map (·.map AV.strip):=by
 simp only [fR,List.map_append,List.map_map];congr 1
theorem S1(s:Str)(H:List AObj):yF H 1 true (.str s)=some (fR s):=by simp [yF]
theorem V6(n:Nat)(w:Str):Om (.slice (.own n) 1 (fR w))=some (.sdp n (fR w)):=by cases w<;>rfl
theorem Q8(n:Nat)(w:Str):kB n (fR w):=by
 rw [rowsWk_map];exact fun _ _=>⟨wk_int _ _ _,trivial⟩
theorem qU:(∀ (a:Env) (H:List AObj) (x:RX),rop a H (.usl x)=bH H (Om (rx a x)))∧(∀ (a:Env) (H:List AObj) (e:TypeId) (x n:RX),rop a H (.ust e x n)=bH H (Mm H e (rx a x) (rx a n)))∧(∀ (a:Env) (H:List AObj) (x:RX),rop a H (.cvu x)=bH H (PK H (rx a x)))∧(∀ (a:Env) (H:List AObj) (u:TypeId) (sz:Nat) (x:RX),rop a H (.cvf u sz x)=bH H (Um H u sz (rx a x)))∧(∀ (a:Env) (H:List AObj) (u:TypeId) (us:List TypeId) (sz:Nat) (x:RX),rop a H (.cvg u us sz x)=bH H (PL H u us sz (rx a x))) ∧
 (∀ (a:Env) (H:List AObj) (cs:List AV) (e:TypeId) (j:Nat) (T:TypeId),rop a H (.nwb cs e j T)=some (.ptr (H.length+1) 0,H++[.tok 0 T,.cells (cs.set j (.slice (.own H.length) 1 [])) e])):=
 ⟨fun _ _ _=>rfl,fun _ _ _ _ _=>rfl,fun _ _ _=>rfl,fun _ _ _ _ _=>rfl,fun _ _ _ _ _ _=>rfl,fun _ _ _ _ _ _=>rfl⟩
theorem Q9:req .ptr .nilp .nilp=some true:=rfl
theorem M0(i o:Nat):req .ptr (.ptr i o) .nilp=some false:=rfl
theorem LN(i o:Nat):req .ptr (.ptr i o) (.ptr i o)=some true:=by simp [req]
theorem eS{G:List AObj}{i:Nat}{x:AObj}(h:G[i]?=some x):i<G.length:=(List.getElem?_eq_some_iff.1 h).1
theorem Ra{G:List AObj}{i:Nat}{o:AObj}(hw:PR G.length o):dP G (G.set i o):=by
 refine ⟨by simp,fun j x hj hx => ?_⟩;rw [List.getElem?_set] at hx;split at hx
 ·split at hx
  ·cases hx;exact .inr hw
  ·cases hx
 ·exact .inl hx
def sV(N:Nat)(e:TypeId)(sz:Nat)(G:List AObj)(v:AV)(rows:List (List AV)):Prop:=
 (rows=[]∧v = .slice .nil sz [])∨∃ t,N≤t∧v = .slice (.own t) sz rows∧G[t]?=some (.tok (rows.length*sz) e)
def T5(N b:Nat)(e:TypeId)(G G':List AObj):Prop:=
 G.length≤G'.length∧(∀ i,i<N→i≠b→G'[i]?=G[i]?)∧∀ i,i<G.length→i≠b→(∀ n,G[i]?≠some (.tok n e))→G'[i]?=G[i]?
theorem T5.refl(N b:Nat)(e:TypeId)(G:List AObj):T5 N b e G G:=⟨Nat.le_refl _,fun _ _ _=>rfl,fun _ _ _ _=>rfl⟩
theorem sV.cell{N:Nat}{e:TypeId}{sz:Nat}{G:List AObj}{v:AV}{rows:List (List AV)}(h:sV N e sz G v rows):v.cell=true∧dD v=some [v]:=by
 rcases h with ⟨_,rfl⟩ | ⟨t,_,rfl,_⟩<;>exact ⟨rfl,rfl⟩
theorem sV.len{N:Nat}{e:TypeId}{sz:Nat}{G:List AObj}{v:AV}{rows:List (List AV)}(h:sV N e sz G v rows)(H:List AObj):Bq H .sl v=some (.int .i64 (rows.length:Int)):=by
 rcases h with ⟨rfl,rfl⟩ | ⟨t,_,rfl,_⟩<;>rfl
theorem sV.wk{N:Nat}{e:TypeId}{sz:Nat}{G:List AObj}{v:AV}{rows:List (List AV)}(h:sV N e sz G v rows)(hr:kB G.length rows):Wk G.length v v:=by
 rcases h with ⟨rfl,rfl⟩ | ⟨t,_,rfl,hg⟩
 ·exact wk_slice trivial (Bx _)
 ·exact wk_slice (eS hg) hr
theorem sV.stay{N:Nat}{e:TypeId}{sz:Nat}{G G':List AObj}{v:AV}{rows:List (List AV)}(h:sV N e sz G v rows)(hs:∀ t,N≤t→G[t]?=some (.tok (rows.length*sz) e)→G'[t]?=G[t]?):sV N e sz G' v rows:=by
 rcases h with ⟨h1,h2⟩ | ⟨t,ht,h1,hg⟩
 ·exact .inl ⟨h1,h2⟩
 ·exact .inr ⟨t,ht,h1,by rw [hs t ht hg];exact hg⟩
theorem JW{N:Nat}{e:TypeId}{sz bytes:Nat}{G:List AObj}{v:AV}{rows:List (List AV)}(h:sV N e sz G v rows)(hN:N≤G.length){r:List AV}(h1:r.length=sz)(h2:r.all AV.cell=true)(h3:r.map AV.strip=r)
  (hl:(rows.length+1)*bytes≤140737488355328) (hl2:rows.length+1≤4611686018427387904) :
  ∃ v' G',rap false G e sz bytes false v (.slice .full sz [r])=some (v',G')∧sV N e sz G' v' (rows++[r])∧G.length≤G'.length∧(∀ i,i<N→G'[i]?=G[i]?)∧∀ i,i<G.length→(∀ n,G[i]?≠some (.tok n e))→G'[i]?=G[i]? := by
 have hr:=By h1 h2;rcases h with ⟨rfl,rfl⟩ | ⟨t,ht,rfl,hg⟩
 ·refine ⟨.slice (.own G.length) sz [r],G++[.tok (1*sz) e], ?_,.inr ⟨G.length,hN,rfl,by rw [eL];rfl⟩,by simp,fun i hi=>List.getElem?_append_left (by omega),fun i hi _=>List.getElem?_append_left hi⟩
  simp only [rap,zC,yF,or_true,if_true,List.length_nil,List.length_cons,Nat.zero_add,true_or,true_and,hr,and_true,List.nil_append,List.map_cons,List.map_nil,h3];rw [if_pos ⟨by simpa using hl,by omega⟩]
 ·refine ⟨.slice (.own t) sz (rows++[r]),G.set t (.tok (rows.length*sz+1*sz) e), ?_,.inr ⟨t,ht,rfl, ?_⟩,by simp,fun i hi => ?_,fun i hi hn => ?_⟩
  ·simp only [rap,zC,yF,or_true,if_true,List.length_cons,List.length_nil,Nat.zero_add,true_and,hr,and_true,hg,List.map_cons,List.map_nil,h3]
   rw [if_pos ⟨hl,by omega⟩]
  ·rw [List.getElem?_set_self (eS hg),List.length_append,Nat.add_mul];rfl
  ·rw [List.getElem?_set_ne (by omega)]
  ·rw [List.getElem?_set_ne (fun e1=>hn _ (by rw [← e1];exact hg))]
theorem nz{G:List AObj}{p off:Nat}{cs:List AV}{v:AV}{T:TypeId}(hc:v.cell=true)(ho:off<cs.length):stO 1 G p off [v] (some (.cells cs T))=some (G.set p (.cells (cs.set off v) T)):=by
 simp only [stO];rw [if_pos ⟨rfl,by omega,by simp [hc]⟩];rfl
theorem qT(w:Str):(fR w).length=w.length:=by simp [fR]
theorem Rb{G:List AObj}{b:Nat}{x:AObj}(h:G[b]?=some x):G.set b x=G:=by
 refine List.ext_getElem? fun i => ?_
 by_cases e:b=i
 ·subst e;rw [List.getElem?_set_self (eS h),h]
 ·rw [List.getElem?_set_ne e]
def isU(x:AObj):Prop:=(∃ n,x = .tok n bM)∨∃ cs,x = .cells cs bM
def BQ(N:Nat)(G:List AObj)(v:AV)(w:Str):Prop:=
 sV N bM 1 G v (fR w)∨(w=[]∧∃ t cs,N≤t∧v = .rslice t 0 0 1 true∧G[t]?=some (.cells cs bM))
structure jR (T:TypeId) (N b:Nat) (G:List AObj) (w:Str):Prop where
 ex:∃ ad bv,G[b]?=some (.cells [ad,bv] T)∧(ad = .nilp∨ad = .ptr b 0)∧BQ N G bv w
 ty:T≠bM
structure jh (N b:Nat) (G G':List AObj):Prop where
 len:G.length≤G'.length
 low:∀ i,i<N→i≠b→G'[i]?=G[i]?
 obj:∀ (i:Nat) (x:AObj),G[i]?=some x→i≠b→¬ isU x→G'[i]?=some x
theorem jh.trans{N b:Nat}{A B C:List AObj}(h:jh N b A B)(k:jh N b B C):jh N b A C:=
 ⟨Nat.le_trans h.len k.len,fun i hi hn=>(k.low i hi hn).trans (h.low i hi hn),fun i x hx hn hu=>k.obj i x (h.obj i x hx hn hu) hn hu⟩
theorem jh.refl(N b:Nat)(G:List AObj):jh N b G G:=⟨Nat.le_refl _,fun _ _ _=>rfl,fun _ _ h _ _=>h⟩
theorem BQ.cell{N:Nat}{G:List AObj}{v:AV}{w:Str}(h:BQ N G v w):v.cell=true∧dD v=some [v]:=by
 rcases h with h | ⟨_,t,cs,_,rfl,_⟩
 ·exact h.cell
 ·exact ⟨rfl,rfl⟩
theorem BQ.len{N:Nat}{G:List AObj}{v:AV}{w:Str}(h:BQ N G v w)(H:List AObj):Bq H .sl v=some (.int .i64 (w.length:Int)):=by
 rcases h with h | ⟨rfl,t,cs,_,rfl,_⟩
 ·rw [h.len,qT]
 ·rfl
theorem BQ.wk{N:Nat}{G:List AObj}{v:AV}{w:Str}(h:BQ N G v w):Wk G.length v v:=by
 rcases h with h | ⟨rfl,t,cs,_,rfl,hg⟩
 ·exact h.wk (Q8 _ w)
 ·exact wk_rslice (eS hg)
theorem BQ.stay{N b:Nat}{T:TypeId}{G G':List AObj}{v:AV}{w:Str}{ds:List AV}(h:BQ N G v w)(hb:G[b]?=some (.cells ds T))(hT:T≠bM)(hs:∀ t,t≠b→G'[t]?=G[t]?):BQ N G' v w:=by
 rcases h with h | ⟨rfl,t,cs,h1,rfl,hg⟩
 ·refine .inl (h.stay fun t _ ht=>hs t ?_)
  rintro rfl;rw [hb] at ht;cases ht
 ·refine .inr ⟨rfl,t,cs,h1,rfl, ?_⟩
  rw [hs t ?_];exact hg;rintro rfl;rw [hb] at hg;cases hg;exact hT rfl
def okB(T:TypeId):Bool:=Nat.beq T ca||[jL,aD].any (Nat.beq T)
theorem M1(hC:vL E)(hX:kY M){G:List AObj}{N b:Nat}{T:TypeId}(hok:okB T=true)(hT:T≠bM){ad bv:AV}{w:Str}(hg:G[b]?=some (.cells [ad,bv] T))(ha:ad = .nilp∨ad = .ptr b 0)(hv:BQ N G bv w) :
  M.run dJ [.ptr b 0] G=some (.ret (.tuple []),G.set b (.cells [.ptr b 0,bv] T)):=by
 have l0:∀ x y:AV,bJ none [x,y] 0=some x:=fun _ _=>rfl
 have hwb:=hv.wk;rcases ha with rfl | rfl
 ·have hwk:PR G.length (.cells [.ptr b 0,bv] T):=by
   intro c hc;simp at hc;rcases hc with rfl | rfl
   ·exact wk_ptr (eS hg)
   ·exact hwb
  have hu:PK G (.ptr b 0)=some (.ptr b 0):=by simp [PK,hg]
  have hf:PL G ca [jL,aD] 2 (.ptr b 0)=some (.ptr b 0):=by
   unfold okB at hok;simp only [PL,hg];rw [if_pos ⟨hok,by simp⟩]
  have hs:stO 1 G b 0 [.ptr b 0] (some (.cells [.nilp,bv] T))=some (G.set b (.cells [.ptr b 0,bv] T)):=nz rfl (by simp);have h1:=hX.same b 0;rw [aP M hC.strings_Builder_copyCheck rfl (c:=dK) rfl,dK];simp (maxSteps:=3000000) (maxDischargeDepth:=6) +contextual -implicitDefEqProofs only [amC M,↓amD,Nat.reduceBEq,Nat.reduceAdd,env,ag,mo,amG,AV.cell,Nat.reduceMul,Nat.reduceLeDiff,rnc,qU,hg,l0,Q9,hu,hf,h1,hs,runit_mk,LN,Ra hwk,wk_tuple]
  rw [List.take_of_length_le (by simp)]
 ·rw [Rb hg]
  rw [aP M hC.strings_Builder_copyCheck rfl (c:=dK) rfl,dK];simp (maxSteps:=3000000) (maxDischargeDepth:=6) +contextual -implicitDefEqProofs only [amC M,↓amD,Nat.reduceBEq,Nat.reduceAdd,env,ag,mo,rnc,hg,l0,M0,LN,hp_self,wk_tuple]
theorem U3{N:Nat}{G:List AObj}{v:AV}{w u:Str}(h:BQ N G v w)(hN:N≤G.length)(hl:w.length+u.length≤1000000000)(str:Bool)(x:AV)(hx:∀ H,yF H 1 str x=some (fR u)) :
  ∃ v' G',rap false G bM 1 1 str v x=some (v',G')∧BQ N G' v' (w++u)∧G.length≤G'.length∧(∀ i,i<N→G'[i]?=G[i]?)∧∀ (i:Nat) (x:AObj),G[i]?=some x→¬ isU x→G'[i]?=some x:=by
 have h2:(fR u).length=u.length:=by simp [fR]
 have hu:=MZ u
 have own:∀ (G:List AObj) (t:Nat),N≤t→G[t]?=some (.tok w.length bM)→∃ G',zC G bM 1 1 str (.slice (.own t) 1 (fR w)) x=some (.slice (.own t) 1 (fR (w++u)),G')∧G'[t]?=some (.tok (w++u).length bM)∧G'.length=G.length∧∀ i,i≠t→G'[i]?=G[i]? := fun G t _ hg=>by
  cases u with
  |nil=>
   refine ⟨G, ?_,by simpa using hg,rfl,fun _ _=>rfl⟩;simp only [zC,hx,h2,or_true,true_and,List.length_nil,Nat.add_zero,qT,hu,and_true];rw [if_pos (by simp at hl;omega)];simp [fR]
  |cons c u=>
   refine ⟨G.set t (.tok (w++c::u).length bM), ?_,List.getElem?_set_self (eS hg),by simp,fun i hi=>List.getElem?_set_ne (Ne.symm hi)⟩;have e:fR (c::u)=[.int .u8 (c.toNat:Int)]::fR u:=rfl;rw [Pe];simp only [zC,hx,h2,or_true,true_and,qT,hu,and_true];rw [if_pos (by omega)];rw [e];simp only [hg,qT,Nat.mul_one,and_self,if_true,true_and];rw [← e,List.length_append]
 rcases h with h | ⟨rfl,t,cs,h1,rfl,hg⟩
 ·rcases h with ⟨h1,rfl⟩ | ⟨t,ht,rfl,hg⟩
  ·have hw:w=[]:=by cases w with | nil=>rfl | cons c w=>cases h1
   subst hw;cases u with
   |nil=>
    refine ⟨.slice .nil 1 [],G, ?_,.inl (.inl ⟨rfl,rfl⟩),Nat.le_refl _,fun _ _=>rfl,fun _ _ h _=>h⟩;simp [rap,zC,hx,fR,r9]
   |cons c u=>
    refine ⟨.slice (.own G.length) 1 (fR (c::u)),G++[.tok (fR (c::u)).length bM], ?_,.inl (.inr ⟨G.length,hN,rfl,by rw [eL];simp⟩),by simp,fun i hi=>List.getElem?_append_left (by omega),fun i x hx _=>cP hx⟩;have e:fR (c::u)=[.int .u8 (c.toNat:Int)]::fR u:=rfl;have e2:(fR (c::u)).map (·.map AV.strip)=fR (c::u):=by simp [fR,AV.strip]
    simp only [rap,zC,hx,h2,true_or,true_and,List.length_nil,Nat.zero_add,hu,and_true,List.nil_append];rw [if_pos (by omega),e2,e];simp only [Nat.mul_one,← h2,e]
  ·rw [qT,Nat.mul_one] at hg
   obtain ⟨G',a1,a2,a3,a4⟩:=own G t ht hg;refine ⟨_,G',a1,.inl (.inr ⟨t,ht,rfl,by rw [qT,Nat.mul_one];exact a2⟩),by omega,fun i hi=>a4 i (by omega),fun i y hy hu => ?_⟩;rw [a4 i (by rintro rfl;rw [hg] at hy;cases hy;exact hu (.inl ⟨_,rfl⟩))];exact hy
 ·have hlt:=eS hg
  obtain ⟨G',a1,a2,a3,a4⟩:=own (G.set t (.tok 0 bM)) t h1 (List.getElem?_set_self hlt);refine ⟨_,G', ?_,.inl (.inr ⟨t,h1,rfl,by rw [qT,Nat.mul_one];exact a2⟩),by simp at a3;omega,fun i hi => ?_,fun i y hy hu => ?_⟩
  ·rw [← a1]
   simp only [rap,hg];rfl
  ·rw [a4 i (by omega),List.getElem?_set_ne (by omega)]
  ·have hne:i≠t:=by rintro rfl;rw [hg] at hy;cases hy;exact hu (.inr ⟨_,rfl⟩)
   rw [a4 i hne,List.getElem?_set_ne (Ne.symm hne)];exact hy
theorem NZ{N b:Nat}{T:TypeId}{G:List AObj}{ad bv:AV}{w u:Str}(hT:T≠bM)(hg:G[b]?=some (.cells [ad,bv] T))(hv:BQ N G bv w)(hN:N≤G.length)(hl:w.length+u.length≤1000000000)(str:Bool)(x:AV)(hx:∀ H,yF H 1 str x=some (fR u)) :
  ∃ v' G2,rap false (G.set b (.cells [.ptr b 0,bv] T)) bM 1 1 str bv x=some (v',G2)∧(G.set b (.cells [.ptr b 0,bv] T))[b]?=some (.cells [.ptr b 0,bv] T)∧G2[b]?=some (.cells [.ptr b 0,bv] T)∧dD v'=some [v'] ∧
   stO 1 G2 b 1 [v'] (some (.cells [.ptr b 0,bv] T))=some (G2.set b (.cells [.ptr b 0,v'] T))∧jR T N b (G2.set b (.cells [.ptr b 0,v'] T)) (w++u)∧jh N b G (G2.set b (.cells [.ptr b 0,v'] T)):=by
 have hlt:=eS hg;have nU:¬ isU (.cells [.ptr b 0,bv] T):=by rintro (⟨n,e⟩ | ⟨cs,e⟩)<;>cases e;exact hT rfl
 have hg1:(G.set b (.cells [.ptr b 0,bv] T))[b]?=some (.cells [.ptr b 0,bv] T):=List.getElem?_set_self hlt;have hv1:BQ N (G.set b (.cells [.ptr b 0,bv] T)) bv w:=hv.stay hg hT fun t ht=>List.getElem?_set_ne (Ne.symm ht)
 obtain ⟨v',G2,a1,a2,a3,a4,a5⟩:=U3 hv1 (by simpa using hN) hl str x hx;have hg2:=a5 b _ hg1 nU;refine ⟨v',G2,a1,hg1,hg2,a2.cell.2,nz a2.cell.1 (by simp),⟨⟨.ptr b 0,v',List.getElem?_set_self (eS hg2),.inr rfl,a2.stay hg2 hT fun t ht=>List.getElem?_set_ne (Ne.symm ht)⟩,hT⟩,⟨by simp at a3 ⊢;omega,fun i hi hne => ?_,fun i y hy hne hu => ?_⟩⟩
 ·rw [List.getElem?_set_ne (Ne.symm hne),a4 i hi,List.getElem?_set_ne (Ne.symm hne)]
 ·rw [List.getElem?_set_ne (Ne.symm hne),a5 i y (by rw [List.getElem?_set_ne (Ne.symm hne)];exact hy) hu]
theorem GZ(hC:vL E)(hX:kY M){G:List AObj}{N b:Nat}{T:TypeId}(hok:okB T=true){w:Str}(h:jR T N b G w)(hN:N≤G.length){u:Str}(hl:w.length+u.length≤1000000000) :
  ∃ G',M.run aF [.ptr b 0,.str u] G=some (.ret (.tuple [.int .i64 u.length,.nilif]),G')∧jR T N b G' (w++u)∧jh N b G G':=by
 obtain ⟨⟨ad,bv,hg,ha,hv⟩,hT⟩:=h;have hcc:=M1 M hC hX hok hT hg ha hv;obtain ⟨v',G2,a1,hg1,hg2,hac,hst,k1,k2⟩:=NZ hT hg hv hN hl true (.str u) (S1 u);refine ⟨_, ?_,k1,k2⟩;have l1:∀ x y:AV,bJ none [x,y] 1=some y:=fun _ _=>rfl
 generalize G.set b (.cells [.ptr b 0,bv] T)=G1 at *
 rw [aP M hC.strings_Builder_WriteString rfl (c:=gg) rfl,gg];simp (maxSteps:=3000000) (maxDischargeDepth:=6) +contextual -implicitDefEqProofs only [amC M,↓amD,Nat.reduceBEq,Nat.reduceAdd,env,ag,rI,amG,AV.cell,Nat.reduceMul,Nat.reduceLeDiff,rnc,hcc,hg1,hg2,l1,a1,hac,hst,runit_mk]
theorem U4(hC:vL E)(hX:kY M){G:List AObj}{N b:Nat}{T:TypeId}(hok:okB T=true){w:Str}(h:jR T N b G w)(hN:N≤G.length)(hl:w.length+1≤1000000000)(c:UInt8) :
  ∃ G',M.run dI [.ptr b 0,.int .u8 c.toNat] G=some (.ret .nilif,G')∧jR T N b G' (w++[c])∧jh N b G G':=by
 obtain ⟨⟨ad,bv,hg,ha,hv⟩,hT⟩:=h;have hcc:=M1 M hC hX hok hT hg ha hv;obtain ⟨v',G2,a1,hg1,hg2,hac,hst,k1,k2⟩:=NZ (u:=[c]) hT hg hv hN (by simpa using hl) false (.slice .full 1 [[.int .u8 (c.toNat:Int)]]) (fun H=>by simp [yF,fR]);refine ⟨_, ?_,k1,k2⟩;have l1:∀ x y:AV,bJ none [x,y] 1=some y:=fun _ _=>rfl
 generalize G.set b (.cells [.ptr b 0,bv] T)=G1 at *
 rw [aP M hC.strings_Builder_WriteByte rfl (c:=ij) rfl,ij];simp (maxSteps:=3000000) (maxDischargeDepth:=6) +contextual -implicitDefEqProofs only [amC M,↓amD,Nat.reduceBEq,Nat.reduceAdd,env,ag,tk,amG,AV.cell,Nat.reduceMul,Nat.reduceLeDiff,rnc,hcc,hg1,hg2,l1,a1,hac,hst,runit_mk]
theorem LO(hC:vL E){G:List AObj}{N b:Nat}{T:TypeId}{w:Str}(h:jR T N b G w)(hne:w≠[])(hl:w.length≤1000000000):M.run dB [.ptr b 0] G=some (.ret (.str w),G):=by
 obtain ⟨⟨ad,bv,hg,ha,hv⟩,hT⟩:=h;have l1:∀ x y:AV,bJ none [x,y] 1=some y:=fun _ _=>rfl
 have hlen:=hv.len
 have hu:∃ q,Om bv=some q∧Mm G bM q (.int .i64 (w.length:Int))=some (.str w):=by
  rcases hv with (⟨h1,rfl⟩ | ⟨t,_,rfl,ht⟩) | ⟨h1,_⟩
  ·exact absurd (by cases w with | nil=>rfl | cons c w=>cases h1) hne
  ·refine ⟨_,V6 t w, ?_⟩
   cases w with
   |nil=>simp [fR,Mm]
   |cons c w=>
    have h1:=CL (c::w);have h2:=LM (c::w);simp only [fR,List.map_cons] at h1 h2 ht ⊢;simp only [Mm,ht,h1,h2];rw [if_pos];exact ⟨trivial,trivial,by simp,by simp at hl ⊢;omega,trivial⟩
  ·exact absurd h1 hne
 obtain ⟨q,h1,h2⟩:=hu;rw [aP M hC.strings_Builder_String rfl (c:=jN) rfl,jN];simp (maxSteps:=3000000) (maxDischargeDepth:=6) +contextual -implicitDefEqProofs only [amC M,↓amD,Nat.reduceBEq,Nat.reduceAdd,env,ag,vn,qU,rnc,hg,l1,hlen,h1,h2,hp_self]
theorem S2(hC:vL E){G:List AObj}{N b:Nat}{T:TypeId}{w:Str}(h:jR T N b G w):M.run iP [.ptr b 0] G=some (.ret (.int .i64 w.length),G):=by
 obtain ⟨⟨ad,bv,hg,ha,hv⟩,hT⟩:=h;have l1:∀ x y:AV,bJ none [x,y] 1=some y:=fun _ _=>rfl
 have hlen:=hv.len;rw [aP M hC.strings_Builder_Len rfl (c:=lR) rfl,lR];simp (maxSteps:=3000000) (maxDischargeDepth:=6) +contextual -implicitDefEqProofs only [amC M,↓amD,Nat.reduceBEq,Nat.reduceAdd,env,ag,yR,qU,rnc,hg,l1,hlen,hp_self]
end
section
attribute [local congr] aw aW cM bt aA bf aM aC ao aq aN aO
variable{E:bc}(M:cE bT E)
theorem JX{H G:List AObj}(hl:H.length≤G.length)(h:∀ i,i<H.length→G[i]?=H[i]?):dP H G:=⟨hl,fun i x hi hx=>.inl (by rw [← h i hi];exact hx)⟩
theorem G7{H G:List AObj}(hl:H.length≤G.length)(h:∀ i,i<H.length→G[i]?=H[i]?):G.take H.length=H:=by
 refine List.ext_getElem? fun i => ?_
 by_cases hi:i<H.length
 ·rw [List.getElem?_take_of_lt hi,h i hi]
 ·rw [List.getElem?_eq_none (by simp;omega),List.getElem?_eq_none (by omega)]
theorem M3{g:FuncId}{first cap args:List AV}{H H':List AObj}{v:AV}(h:H'.take H.length=H)(T L:List Nat):oZ bT E .keep (.fn (.func g) first cap) args H T L (some (.ret v,H'))=some (v,H',T,L):=by
 unfold oZ n8;simp only [Iu h,yI.b,if_true]
abbrev Ay(T:TypeId)(a x:AV):AObj:=.cells [a,x] T
theorem Rc(hC:vL E)(hX:kY M)(H:List AObj)(T:TypeId){n:Nat}(hn:n≤281474976710656) :
  M.run kF [.ptr H.length 0,.int .i64 n] (H++[Ay T (.ptr H.length 0) (.slice .nil 1 [])])=some (.ret (.tuple []),H++[Ay T (.ptr H.length 0) (.rslice (H.length+1) 0 0 1 true),.cells (List.replicate n .unk) bM]):=by
 rw [aP M hC.strings_Builder_grow rfl (c:=kS) rfl,kS];have w1:IntKind.i64.wrap (2*0)=0:=by decide
 have w2:IntKind.i64.wrap (0+(n:Int))=(n:Int):=by rw [fO (by omega) (by omega)];omega
 have h1:=fun H=>hX.noZero n H hn
 have e0:((0:Nat):Int)=0:=rfl;have e1:PJ (.slice .nil 1 [])=some (.int .i64 0):=rfl;have e2:zB 1 (.rslice (H.length+1) 0 n 1 true) none (some (.int .i64 0)) none=some (.rslice (H.length+1) 0 0 1 true):=by simp [zB,eF]
 have e3:rcp (H++[Ay T (.ptr H.length 0) (.slice .nil 1 []),.cells (List.replicate n .unk) bM]) 1 false (.rslice (H.length+1) 0 0 1 true) (.slice .nil 1 [])=some (.int .i64 0,H++[Ay T (.ptr H.length 0) (.slice .nil 1 []),.cells (List.replicate n .unk) bM]):=by
  simp only [rcp,yF,true_or,if_true,hp_getk,List.getElem?_cons_succ,List.getElem?_cons_zero,List.length_nil,Nat.le_refl,Nat.zero_le,Nat.zero_mul,Nat.add_zero,true_and,and_true,List.flatten_nil,aU];rw [if_pos (by rfl)];rw [List.set_append_right _ _ (by omega)];simp
 have hdk:=fun T' L=>M3 (E:=E) (g:=cK) (first:=[]) (cap:=[]) (args:=[.int .i64 n]) (H:=H++[Ay T (.ptr H.length 0) (.slice .nil 1 [])]) (H':=H++[Ay T (.ptr H.length 0) (.slice .nil 1 []),.cells (List.replicate n .unk) bM]) (v:=.rslice (H.length+1) 0 n 1 true) (by
  rw [show H++[Ay T (.ptr H.length 0) (.slice .nil 1 []),AObj.cells (List.replicate n .unk) bM]=(H++[Ay T (.ptr H.length 0) (.slice .nil 1 [])])++[.cells (List.replicate n .unk) bM] by simp,List.take_left]) T' L
 simp (maxSteps:=3000000) (maxDischargeDepth:=6) +contextual -implicitDefEqProofs only [amC M,↓amD,Nat.reduceBEq,Nat.reduceAdd,env,ag,xZ,amG,AV.cell,Nat.reduceMul,Nat.reduceLeDiff,rnc,w1,w2,h1,e0,e1,e2,e3,hdk]
theorem Pg(hC:vL E)(hX:kY M)(H:List AObj){T:TypeId}(hok:okB T=true)(hT:T≠bM){n:Nat}(h0:0<n)(hn:n≤281474976710656) :
  M.run ie [.ptr H.length 0,.int .i64 n] (H++[Ay T .nilp (.slice .nil 1 [])])=some (.ret (.tuple []),H++[Ay T (.ptr H.length 0) (.rslice (H.length+1) 0 0 1 true),.cells (List.replicate n .unk) bM]):=by
 rw [aP M hC.strings_Builder_Grow rfl (c:=kR) rfl,kR];have w1:IntKind.i64.wrap (0-0)=0:=by decide
 have e0:((0:Nat):Int)=0:=rfl;have e1:PJ (.slice .nil 1 [])=some (.int .i64 0):=rfl;have d1:decide ((n:Int)<0)=false:=decide_eq_false (by omega);have d2:decide ((0:Int)<(n:Int))=true:=decide_eq_true (by omega);have d3:decide (0<n)=true:=decide_eq_true h0;have hcc:=M1 M hC hX hok hT (G:=H++[Ay T .nilp (.slice .nil 1 [])]) (N:=0) (b:=H.length) (ad:=.nilp) (bv:=.slice .nil 1 []) (w:=[]) (by rw [eL];rfl) (.inl rfl) (.inl (.inl ⟨rfl,rfl⟩))
 have hs:(H++[Ay T .nilp (.slice .nil 1 [])]).set H.length (.cells [.ptr H.length 0,.slice .nil 1 []] T)=H++[Ay T (.ptr H.length 0) (.slice .nil 1 [])]:=by rw [hp_set0];rfl
 rw [hs] at hcc;simp (maxSteps:=3000000) (maxDischargeDepth:=6) +contextual -implicitDefEqProofs only [amC M,↓amD,Nat.reduceBEq,Nat.reduceAdd,env,ag,xW,amG,AV.cell,Nat.reduceMul,Nat.reduceLeDiff,rnc,hcc,Rc M hC hX H T hn,w1,e0,e1,d1,d2,d3]
def jm:List Str→Nat
 |[]=>0
 |s::l=>s.length+jm l
def n5:List Str→Str
 |[]=>[]
 |s::l=>32::(s++n5 l)
def fw:List Str→Str
 |[]=>[]
 |s::l=>s++n5 l
theorem AQ:∀ l:List Str,(n5 l).length=l.length+jm l
 |[]=>rfl
 |s::l=>by simp only [n5,List.length_cons,List.length_append,AQ l,jm];omega
theorem S3{n:Nat}(h0:0<n)(h:n≤100000000):∃ q,mF .quo .i64 9223372036854775807 (n:Int)=some (.int .i64 q)∧decide (q≤1)=false:=by
 have hn:(n:Int)≠0:=by omega
 have hq:(2:Int)≤Int.tdiv 9223372036854775807 n:=by
  rw [Int.tdiv_eq_ediv_of_nonneg (by decide)];exact (Int.le_ediv_iff_mul_le (by omega)).2 (by omega)
 have hq2:Int.tdiv 9223372036854775807 n≤9223372036854775807:=by
  rw [Int.tdiv_eq_ediv_of_nonneg (by decide)];exact Int.ediv_le_self _ (by decide)
 refine ⟨Int.tdiv 9223372036854775807 n, ?_,decide_eq_false (by omega)⟩;simp [mF,hn,fO (show -9223372036854775808≤Int.tdiv 9223372036854775807 n by omega) hq2];omega
theorem jn0{H H0:List AObj}{tg:Tag}{l:List Str}(hc:dP H0 H)(k:List Fra):∀ (n i:Nat) (m:Nat) (hq:m+jm (l.drop i)≤1000000000) (hs:l.length≤1000000000) (He:List AObj),i+n=l.length →
  M.go gh H0 (.c kd :: .lp ⟨(some [0,1,5,39,40,41]),[],false⟩ kd He :: .blk 1 :: .c (.lv [0,1,5])::k) (kv [(0,.slice tg 1 (l.map aE)),(1,.str [32]),(5,.int .i64 m),(39,.slice tg 1 (l.map aE)),(40,.int .i64 l.length),(41,.int .i64 i)]) H =
   (M.go gh H0 k (kv [(0,.slice tg 1 (l.map aE)),(1,.str [32]),(5,.int .i64 ((m+jm (l.drop i):Nat):Int))]) (H))
 |0,i,m,hq,hs,He,h=>by
  have e:i=l.length:=by omega
  subst e;rw [au M kd.eq_1];simp (maxSteps:=3000000) (maxDischargeDepth:=6) +contextual -implicitDefEqProofs only [amC M,↓amD,Nat.reduceBEq,Nat.reduceAdd,env,ag,iG,Nat.lt_irrefl,List.drop_length,jm,Nat.add_zero]
 |n+1,i,m,hq,hs,He,h=>by
  have hi:i<l.length:=by omega
  have hx:l[i]?=some l[i]:=List.getElem?_eq_getElem hi;have hd:(l.drop i)=l[i]::l.drop (i+1):=List.drop_eq_getElem_cons hi;have hm:l[i]∈l:=List.getElem_mem hi;have ih:=fun m hq hs He=>jn0 (H:=H) (H0:=H0) (tg:=tg) (l:=l) hc k n (i+1) m hq hs He (by omega)
  simp only [kv_cons,kv_nil] at ih;have hx':=hx;rw [hd,jm] at hq;have ih2:=ih (m+l[i].length) (by omega) hs;have w1:IntKind.i64.wrap (9223372036854775807-(m:Int))=9223372036854775807-(m:Int):=fO (by omega) (by omega);have d1:decide ((9223372036854775807-(m:Int))<(l[i].length:Int))=false:=decide_eq_false (by omega);have w2:IntKind.i64.wrap ((m:Int)+(l[i].length:Int))=((m+l[i].length:Nat):Int):=by rw [fO (by omega) (by omega)];omega
  have e3:m+jm (l.drop i)=m+l[i].length+jm (l.drop (i+1)):=by rw [hd,jm];omega
  rw [e3];rw [au M kd.eq_1];simp (maxSteps:=3000000) (maxDischargeDepth:=6) +contextual -implicitDefEqProofs only [amC M,↓amD,Nat.reduceBEq,Nat.reduceAdd,env,ag,iG,hi,hx,w1,d1,w2,ih2,cY hi (show l.length≤bY by simp only [bY];omega),bG hi,gU]
theorem jn1(hC:vL E)(hX:kY M){N b:Nat}{T:TypeId}(hok:okB T=true){tg:Tag}{l:List Str}(hl:l.length≤1000000000)(H0:List AObj):∀ (n i:Nat) (w:Str) (G:List AObj),i+n=l.length→jR T N b G w→N≤G.length→w.length+(n5 (l.drop i)).length≤1000000000 →
  ∃ G',jR T N b G' (w++n5 (l.drop i))∧jh N b G G'∧∀ (k:List Fra) (He:List AObj),M.go gh H0 (.c ke :: .lp ⟨(some [1,8,63,64,65]),[],false⟩ ke He :: .blk 3 :: .c (.lv [8])::k) (kv [(1,.str [32]),(8,.ptr b 0),(63,.slice tg 1 (l.map aE)),(64,.int .i64 l.length),(65,.int .i64 i)]) G=M.go gh H0 k (kv [(8,.ptr b 0)]) G'
 |0,i,w,G,h,hb,hN,hw=>by
  have e:i=l.length:=by omega
  subst e;rw [List.drop_length,n5,List.append_nil];refine ⟨G,hb,.refl _ _ _,fun k He => ?_⟩;rw [au M ke.eq_1];simp (maxSteps:=3000000) (maxDischargeDepth:=6) +contextual -implicitDefEqProofs only [amC M,↓amD,Nat.reduceBEq,Nat.reduceAdd,env,ag,iG,Nat.lt_irrefl]
 |n+1,i,w,G,h,hb,hN,hw=>by
  have hi:i<l.length:=by omega
  have hx:l[i]?=some l[i]:=List.getElem?_eq_getElem hi;have hd:l.drop i=l[i]::l.drop (i+1):=List.drop_eq_getElem_cons hi;rw [hd,n5] at hw ⊢;simp only [List.length_cons,List.length_append] at hw;obtain ⟨G1,r1,b1,t1⟩:=GZ M hC hX hok hb hN (u:=[32]) (by simp;omega);obtain ⟨G2,r2,b2,t2⟩:=GZ M hC hX hok b1 (Nat.le_trans hN t1.len) (u:=l[i]) (by simp;omega);obtain ⟨G3,b3,t3,r3⟩:=jn1 hC hX hok (tg:=tg) hl H0 n (i+1) _ G2 (by omega) b2 (Nat.le_trans hN (Nat.le_trans t1.len t2.len)) (by simp;omega)
  refine ⟨G3,by simpa [List.append_assoc] using b3,(t1.trans t2).trans t3,fun k He => ?_⟩;have r3:=r3 k;simp only [kv_cons,kv_nil] at r3;rw [au M ke.eq_1];simp (maxSteps:=3000000) (maxDischargeDepth:=6) +contextual -implicitDefEqProofs only [amC M,↓amD,Nat.reduceBEq,Nat.reduceAdd,env,ag,iG,hi,hx,r1,r2,r3,cY hi (show l.length≤bY by simp only [bY];omega),bG hi,gU]
theorem Re(hC:vL E)(hX:kY M)(hJ:E.fn pz=some gh){tg:Tag}{ws:List Str}(hn:ws.length+jm ws≤100000000)(H:List AObj) :
  M.run pz [.slice tg 1 (ws.map aE),.str [32]] H=some (.ret (.str (fw ws)),H):=by
 rw [aP M hJ rfl (c:=tU) rfl,tU];cases ws with
 |nil=>simp (maxSteps:=3000000) (maxDischargeDepth:=6) +contextual -implicitDefEqProofs only [amC M,↓amD,Nat.reduceBEq,Nat.reduceAdd,env,ag,iG,List.map_nil,List.length_nil,fw,(show ((0:Nat):Int)=0 from rfl),(show ((0:Int) == 0)=true from rfl)]
 |cons x l=>
  cases l with
  |nil=>simp (maxSteps:=3000000) (maxDischargeDepth:=6) +contextual -implicitDefEqProofs only [amC M,↓amD,Nat.reduceBEq,Nat.reduceAdd,env,ag,iG,List.map_cons,List.map_nil,List.length_cons,List.length_nil,fw,n5,List.append_nil,(show ((0:Nat):Int)=0 from rfl),(show ((0+1:Nat):Int)=1 from rfl),(show ((1:Int) == 0)=false from rfl),(show ((1:Int) == 1)=true from rfl),(show qi 1 (.slice tg 1 [aE x]) (.int .i64 0)=some (.vptr 1 [aE x] 0 0) from rfl),List.getElem?_cons_zero,gU]
  |cons y l=>
   have hlen:(x::y::l).length=l.length+2:=rfl;have hS:jm (x::y::l)=x.length+(y.length+jm l):=rfl;rw [hlen,hS] at hn;have w1:IntKind.i64.wrap (((l.length+1+1:Nat):Int)-1)=((l.length+1:Nat):Int):=by rw [fO (by omega) (by omega)];omega
   have w2:IntKind.i64.wrap (1*((l.length+1:Nat):Int))=((l.length+1:Nat):Int):=by rw [fO (by omega) (by omega)];omega
   have w3:IntKind.i64.wrap (0+((l.length+1:Nat):Int))=((l.length+1:Nat):Int):=by rw [fO (by omega) (by omega)];omega
   have z1:(((l.length+1+1:Nat):Int) == 0)=false:=beq_eq_false_iff_ne.2 (by omega);have z2:(((l.length+1+1:Nat):Int) == 1)=false:=beq_eq_false_iff_ne.2 (by omega);obtain ⟨q,hq,hq1⟩:∃ q,mF .quo .i64 9223372036854775807 ((l.length+1:Nat):Int)=some (.int .i64 q)∧decide (q≤1)=false:=S3 (by omega) (by omega);have l0:=fun k He=>jn0 M (H:=H) (H0:=H) (tg:=tg) (l:=x::y::l) (cut_refl H) k (l.length+2) 0 (l.length+1) (by rw [List.drop_zero,hS];omega) (by rw [hlen];omega) He (by rw [hlen];omega)
   rw [List.drop_zero,hS] at l0;simp only [kv_cons,kv_nil,Int.ofNat_zero,List.length_cons] at l0;have hT:ca≠bM:=by decide
   have hok:okB ca=true:=by simp [okB]
   have hg:=Pg M hC hX H hok hT (n:=l.length+1+(x.length+(y.length+jm l))) (by omega) (by omega)
   have b0:jR ca H.length H.length (H++[Ay ca (.ptr H.length 0) (.rslice (H.length+1) 0 0 1 true),.cells (List.replicate (l.length+1+(x.length+(y.length+jm l))) .unk) bM]) []:=
    ⟨⟨_,_,by rw [eL];rfl,.inr rfl,.inr ⟨rfl,H.length+1,_,by omega,rfl,by rw [hp_getk];rfl⟩⟩,hT⟩
   have hlow:∀ i,i<H.length→(H++[Ay ca (.ptr H.length 0) (.rslice (H.length+1) 0 0 1 true),.cells (List.replicate (l.length+1+(x.length+(y.length+jm l))) .unk) bM])[i]?=H[i]? := fun i hi=>List.getElem?_append_left hi
   have hlow2:H.length≤(H++[Ay ca (.ptr H.length 0) (.rslice (H.length+1) 0 0 1 true),.cells (List.replicate (l.length+1+(x.length+(y.length+jm l))) .unk) bM]).length:=by simp
   generalize H++[Ay ca (.ptr H.length 0) (.rslice (H.length+1) 0 0 1 true),.cells (List.replicate (l.length+1+(x.length+(y.length+jm l))) .unk) bM]=G0 at *
   obtain ⟨G1,r1,b1,t1⟩:=GZ M hC hX hok b0 hlow2 (u:=x) (by simp;omega);obtain ⟨G2,b2,t2,r2⟩:=jn1 M hC hX hok (tg:=.any) (l:=y::l) (by simp;omega) H (l.length+1) 0 _ G1 (by simp) b1 (Nat.le_trans hlow2 t1.len) (by rw [List.drop_zero,AQ,jm];simp;omega);rw [List.drop_zero] at b2;simp only [kv_cons,kv_nil,Int.ofNat_zero,List.length_cons] at r2;have hne:([]++x++n5 (y::l))≠[]:=by simp [n5]
   have hs:=LO M hC b2 hne (by rw [List.length_append,List.length_append,AQ,jm];simp;omega);have tt:=t1.trans t2;have hl2:∀ i,i<H.length→G2[i]?=H[i]? := fun i hi=>(tt.low i hi (by omega)).trans (hlow i hi)
   have hl3:H.length≤G2.length:=Nat.le_trans hlow2 tt.len;have c1:=JX hl3 hl2;have c2:=G7 hl3 hl2
   have sl1:zB 1 (.slice tg 1 ((x::y::l).map aE)) (some (.int .i64 1)) none none=some (.slice .any 1 ((y::l).map aE)):=by
    have:=Lm (row:=aE) (tag:=tg) (sz:=1) (k:=.i64) (l:=x::y::l) (i:=1) (by simp) (by simp);simpa using this
   have l1:Bq H .sl (.slice .any 1 ((y::l).map aE))=some (.int .i64 ((l.length+1:Nat):Int)):=by simp [Bq]
   have hw:((l.length+1+(x.length+(y.length+jm l)):Nat):Int)=((l.length+1+(x.length+(y.length+jm l)):Nat):Int):=rfl;have gt:decide ((0:Int)<1)=true:=rfl;simp (maxSteps:=3000000) (maxDischargeDepth:=6) +contextual -implicitDefEqProofs only [amC M,↓amD,Nat.reduceBEq,Nat.reduceAdd,env,ag,iG,amG,AV.cell,Nat.reduceMul,Nat.reduceLeDiff,List.length_cons,w1,w2,w3,z1,z2,hq,hq1,l0,hg,r1,r2,hs,c1,c2,sl1,l1,gt,fw,wk_str,(show ((1:Nat):Int)=1 from rfl),(show ((0+1:Nat):Int)=1 from rfl),(show qi 1 (.slice tg 1 ((x::y::l).map aE)) (.int .i64 0)=some (.vptr 1 ((x::y::l).map aE) 0 0) from by simp [qi];omega),(show ((x::y::l).map aE)[0]?=some (aE x) from rfl),(show (x::y::l)[0]?=some x from rfl),gU]
end
section
attribute [local congr] aw aW cM bt aA bf aM aC ao aq aN aO
variable{E:bc}(M:cE bT E)
structure w8 (E:bc):Prop where
 morph_dash:E.fn fU=some xL
 strconv_Itoa:E.fn fy=some pH
 internal_strconv_Itoa:E.fn j0=some gy
 morph_writer_line:E.fn bb=some gR
 strings_Join:E.fn pz=some gh
 morph_Print:E.fn nQ=some cC
 truchmanref02_dash:E.fn cw=some rF
 truchmanref02_feats:E.fn iQ=some qC
 truchmanref02_Decimal:E.fn jZ=some oT
 truchmanref02_digits:E.fn ib=some pM
 truchmanref02_Text:E.fn jA=some rC
 truchmanref02_Print:E.fn qs=some qy
theorem V7{s:Str}{n:Nat}(h:n≤s.length):Fx (.str s) none (some (.int .i64 (n:Int)))=some (.str (s.take n)):=by simp [Fx,eF,h]
theorem V8{s:Str}{n:Nat}(h:n≤s.length):Fx (.str s) (some (.int .i64 (n:Int))) none=some (.str (s.drop n)):=by
 have h2:(s.drop n).take (s.length-n)=s.drop n:=List.take_of_length_le (by simp);simp [Fx,eF,h,h2]
def bI(s:Str):Str:=if (s == [])=true then [45] else s
theorem Az(hP:w8 E)(s:Str)(H:List AObj):M.run fU [.str s] H=some (.ret (.str (bI s)),H):=by
 rw [aP M hP.morph_dash rfl (c:=xK) rfl,xK];cases h:(s == ([]:Str))<;>simp (maxSteps:=3000000) (maxDischargeDepth:=6) +contextual -implicitDefEqProofs only [amC M,↓amD,Nat.reduceBEq,Nat.reduceAdd,env,ag,JP,h,bI]
theorem G8(hX:kY M)(hP:w8 E){n:Nat}(hn:n<1000)(H:List AObj):M.run fy [.int .i64 (n:Int)] H=some (.ret (.str (fq n)),H):=by
 have h1:=fun H=>hX.fmt n H hn
 have h2:∀ H,M.run j0 [.int .i64 (n:Int)] H=some (.ret (.str (fq n)),H):=fun H=>by
  rw [aP M hP.internal_strconv_Itoa rfl (c:=kf) rfl,kf];simp (maxSteps:=3000000) (maxDischargeDepth:=6) +contextual -implicitDefEqProofs only [amC M,↓amD,Nat.reduceBEq,Nat.reduceAdd,env,ag,wx,h1]
 rw [aP M hP.strconv_Itoa rfl (c:=tR) rfl,tR];simp (maxSteps:=3000000) (maxDischargeDepth:=6) +contextual -implicitDefEqProofs only [amC M,↓amD,Nat.reduceBEq,Nat.reduceAdd,env,ag,Gr,h2]
def feS(f:aJ):Str:=([32]++f.name)++[61]++f.value
def jQ:List aJ→Str
 |[]=>[]
 |f::l=>feS f++jQ l
theorem U5(f:aJ)(o:Str)(h:o.length+(feS f).length≤1000000000):mG .add [32] f.name=some (.str ([32]++f.name))∧mG .add ([32]++f.name) [61]=some (.str (([32]++f.name)++[61]))∧mG .add (([32]++f.name)++[61]) f.value=some (.str (feS f))∧mG .add o (feS f)=some (.str (o++feS f)):=by
 simp only [feS,List.length_append,List.length_cons,List.length_nil] at h;refine ⟨JF ?_,JF ?_,JF ?_,JF ?_⟩<;>simp only [feS,List.length_append,List.length_cons,List.length_nil]<;>omega
theorem jR.more{T:TypeId}{N b:Nat}{G:List AObj}{w:Str}(h:jR T N b G w)(L:List AObj):jR T N b (G++L) w:=by
 obtain ⟨⟨ad,bv,hg,ha,hv⟩,hT⟩:=h;refine ⟨⟨ad,bv,cP hg,ha, ?_⟩,hT⟩;rcases hv with h | ⟨rfl,t,cs,h1,rfl,h2⟩
 ·exact .inl (h.stay fun t _ ht=>by rw [List.getElem?_append_left (eS ht)])
 ·exact .inr ⟨rfl,t,cs,h1,rfl,cP h2⟩
theorem jh.more(N b:Nat)(G L:List AObj)(hN:N≤G.length):jh N b G (G++L):=
 ⟨by simp,fun i hi _=>List.getElem?_append_left (by omega),fun i x hx _ _=>cP hx⟩
theorem S4(f:aJ):(feS f).length=f.name.length+f.value.length+2:=by simp only [feS,List.length_append,List.length_cons,List.length_nil];omega
theorem ln0(hC:vL E)(hX:kY M){N b:Nat}{T:TypeId}(hok:okB T=true){tg:Tag}{fs:List aJ}(hl:fs.length≤1000000000)(H0:List AObj):∀ (n i:Nat) (w:Str) (G:List AObj),i+n=fs.length→jR T N b G w→N≤G.length→w.length+(jQ (fs.drop i)).length≤1000000000 →
  ∃ G',jR T N b G' (w++jQ (fs.drop i))∧jh N b G G'∧∀ (k:List Fra) (He:List AObj),M.go gR H0 (.c fP :: .lp ⟨(some [0,14,15,16]),[],false⟩ fP He :: .blk 0 :: .c (.lv [0])::k) (kv [(0,.ptr b 0),(14,.slice tg 2 (fs.map aJ.row)),(15,.int .i64 fs.length),(16,.int .i64 i)]) G=M.go gR H0 k (kv [(0,.ptr b 0)]) G'
 |0,i,w,G,h,hb,hN,hw=>by
  have e:i=fs.length:=by omega
  subst e;rw [List.drop_length,jQ,List.append_nil];refine ⟨G,hb,.refl _ _ _,fun k He => ?_⟩;rw [au M fP.eq_1];simp (maxSteps:=3000000) (maxDischargeDepth:=6) +contextual -implicitDefEqProofs only [amC M,↓amD,Nat.reduceBEq,Nat.reduceAdd,env,ag,nF,Nat.lt_irrefl]
 |n+1,i,w,G,h,hb,hN,hw=>by
  have hi:i<fs.length:=by omega
  have hx:fs[i]?=some fs[i]:=List.getElem?_eq_getElem hi;have hd:fs.drop i=fs[i]::fs.drop (i+1):=List.drop_eq_getElem_cons hi;rw [hd,jQ] at hw ⊢;rw [List.length_append] at hw;obtain ⟨F1,F2,F3,_⟩:=U5 fs[i] [] (by simp;omega);simp only [List.cons_append,List.nil_append] at F1 F2 F3;have hN1:N≤(G++[AObj.cells fs[i].row bw]).length:=by simp;omega
  obtain ⟨G2,r2,b2,t2⟩:=GZ M hC hX hok (hb.more [.cells fs[i].row bw]) hN1 (u:=feS fs[i]) (by omega);obtain ⟨G3,b3,t3,r3⟩:=ln0 hC hX hok (tg:=tg) hl H0 n (i+1) _ G2 (by omega) b2 (Nat.le_trans hN1 t2.len) (by rw [List.length_append];omega);refine ⟨G3,by simpa [List.append_assoc] using b3,((jh.more N b G _ hN).trans t2).trans t3,fun k He => ?_⟩;have r3:=r3 k;simp only [kv_cons,kv_nil] at r3;rw [au M fP.eq_1]
  simp (maxSteps:=3000000) (maxDischargeDepth:=6) +contextual -implicitDefEqProofs only [amC M,↓amD,Nat.reduceBEq,Nat.reduceAdd,env,ag,nF,amG,AV.cell,Nat.reduceMul,Nat.reduceLeDiff,rnc,hi,hx,zR,F1,F2,F3,r2,r3,cY hi (show fs.length≤bY by simp only [bY];omega),bG hi]
def qb(ws:List Str)(fs:List aJ):Str:=fw ws++(jQ fs++[10])
theorem IM:∀ ws:List Str,(fw ws).length≤ws.length+jm ws
 |[]=>Nat.le_refl _
 |s::l=>by simp only [fw,List.length_append,AQ,List.length_cons,jm];omega
theorem rZ(hC:vL E)(hX:kY M)(hP:w8 E){N b:Nat}{T:TypeId}(hok:okB T=true){G:List AObj}{w:Str}(hb:jR T N b G w)(hN:N≤G.length){tf tw:Tag}{fs:List aJ}{ws:List Str}
  (hf:fs.length≤1000000000) (hn:ws.length+jm ws≤1000000) (hw:w.length+(jQ fs).length≤900000000) :
  ∃ G',M.run bb [.ptr b 0,.slice tf 2 (fs.map aJ.row),.slice tw 1 (ws.map aE)] G=some (.ret (.tuple []),G')∧jR T N b G' (w++qb ws fs)∧jh N b G G':=by
 have hj:=fun G=>Re M hC hX hP.strings_Join (tg:=tw) (ws:=ws) (by omega) G
 have hjl:=IM ws;obtain ⟨G1,r1,b1,t1⟩:=GZ M hC hX hok hb hN (u:=fw ws) (by omega);have hN1:=Nat.le_trans hN t1.len;obtain ⟨G2,b2,t2,r2⟩:=ln0 M hC hX hok (tg:=tf) hf G fs.length 0 _ G1 (by omega) b1 hN1 (by rw [List.drop_zero,List.length_append];omega);rw [List.drop_zero] at b2;simp only [kv_cons,kv_nil,Int.ofNat_zero] at r2;obtain ⟨G3,r3,b3,t3⟩:=U4 M hC hX hok b2 (Nat.le_trans hN1 t2.len) (by rw [List.length_append,List.length_append];omega) 10
 refine ⟨G3, ?_,by simpa [qb,List.append_assoc] using b3,(t1.trans t2).trans t3⟩;have r3':M.run dI [.ptr b 0,.int .u8 10] G2=some (.ret .nilif,G3):=r3;rw [aP M hP.morph_writer_line rfl (c:=nE) rfl,nE];simp (maxSteps:=3000000) (maxDischargeDepth:=6) +contextual -implicitDefEqProofs only [amC M,↓amD,Nat.reduceBEq,Nat.reduceAdd,env,ag,nF,amG,AV.cell,Nat.reduceMul,Nat.reduceLeDiff,rnc,hj,r1,r2,r3']
end
section
attribute [local congr] aw aW cM bt aA bf aM aC ao aq aN aO
variable{E:bc}(M:cE bT E)
def gl{α:Type}(f:α→Str):List α→Str
 |[]=>[]
 |x::l=>f x++gl f l
theorem qc{α:Type}{f:α→Str}{B:Nat}:∀ {l:List α},(∀ x∈l,(f x).length≤B)→(gl f l).length≤l.length*B
 |[],_=>by simp [gl]
 |x::l,h=>by
  have h1:=h x (.head _);have h2:=qc (l:=l) fun y hy=>h y (.tail _ hy)
  simp only [gl,List.length_append,List.length_cons,Nat.succ_mul];omega
def FsB(fs:List aJ):Prop:=fs.length≤8∧∀ f∈fs,f.name.length≤12∧f.value.length≤12
theorem IN:∀ fs:List aJ,jQ fs=gl feS fs
 |[]=>rfl
 |f::l=>by rw [jQ,gl,IN l]
theorem FsB.len{fs:List aJ}(h:FsB fs):(jQ fs).length≤208:=by
 rw [IN];have:=qc (f:=feS) (B:=26) (l:=fs) fun f hf=>by rw [S4];have:=h.2 f hf;omega
 have:=h.1;omega
theorem FsB.nil:FsB []:=⟨by simp,by simp⟩
def kTrait:Str:=[116,114,97,105,116]
def mX:Str:=[99,108,97,115,115]
def uk:Str:=[115,108,111,116]
def mY:Str:=[101,110,116,114,121]
def um:Str:=[102,111,114,109]
def uo:Str:=[115,112,101,108,108]
def AA:Str:=[108,105,110,107]
def G9:Str:=[118,111,119,101,108,115]
def uq(t:aV):Str:=qb (kTrait::t.name::t.values.l) []
def CM(s:bF):Str:=qb [uk,fq s.cut.toNat,bI s.pre,bI s.add] s.feats.l
def nH(c:aL):Str:=qb [mX,c.name] []++gl CM c.slots.l
def Ha(f:bp):Str:=qb [um,fq f.slot.toNat,bI f.word] []
def qV(x:aI):Str:=qb [mY,x.lem,x.cls] x.feats.l++gl Ha x.forms.l
def yt(x:bq):Str:=qb [uo,x.frm,bI x.to,bI x.left,bI x.right] []
def AB(x:cF):Str:=qb [AA,x.cls,bI x.glue] x.feats.l
def LP(v:Str):Str:=qb [G9,bI v] []
def mw(l:Lex):Str:=LP l.vowels++(gl uq l.traits.l++(gl nH l.classes.l++(gl qV l.entries.l++(gl yt l.spells.l++gl AB l.links.l))))
def TrB(t:aV):Prop:=t.name.length≤12∧t.values.l.length≤8∧∀ v∈t.values.l,v.length≤12
def SlB(s:bF):Prop:=(0≤s.cut∧s.cut≤24)∧s.pre.length≤6∧s.add.length≤6∧FsB s.feats.l
def ClB(c:aL):Prop:=c.name.length≤12∧c.slots.l.length≤24∧∀ s∈c.slots.l,SlB s
def IrB(f:bp):Prop:=(0≤f.slot∧f.slot<24)∧f.word.length≤24
def EnB(x:aI):Prop:=x.lem.length≤24∧x.cls.length≤12∧FsB x.feats.l∧x.forms.l.length≤24∧∀ f∈x.forms.l,IrB f
def SpB(x:bq):Prop:=x.frm≠[]∧x.frm.length≤6∧x.to.length≤6∧x.left.length≤6∧x.right.length≤6
def LiB(x:cF):Prop:=x.cls.length≤12∧x.glue.length≤6∧FsB x.feats.l
structure TxB (l:Lex):Prop where
 vow:l.vowels.length≤256
 traits:l.traits.l.length≤8∧∀ t∈l.traits.l,TrB t
 classes:l.classes.l.length≤16∧∀ c∈l.classes.l,ClB c
 entries:l.entries.l.length≤128∧∀ x∈l.entries.l,EnB x
 spells:l.spells.l.length≤16∧∀ x∈l.spells.l,SpB x
 links:l.links.l.length≤8∧∀ x∈l.links.l,LiB x
theorem qd(s:Str):(bI s).length≤s.length+1:=by
 unfold bI;split<;>simp
theorem N0(n:Nat):(fq n).length≤3:=by
 unfold fq;split;· simp
 ·split<;>simp
theorem N1{B:Nat}:∀ {l:List Str},(∀ s∈l,s.length≤B)→jm l≤l.length*B
 |[],_=>by simp [jm]
 |x::l,h=>by
  have h1:=h x (.head _);have h2:=N1 (l:=l) fun y hy=>h y (.tail _ hy)
  simp only [jm,List.length_cons,Nat.succ_mul];omega
theorem lL(ws:List Str)(fs:List aJ):(qb ws fs).length≤ws.length+jm ws+(jQ fs).length+1:=by
 have:=IM ws;simp only [qb,List.length_append,List.length_cons,List.length_nil];omega
theorem TrB.ws{t:aV}(h:TrB t):(kTrait::t.name::t.values.l).length+jm (kTrait::t.name::t.values.l)≤500:=by
 have h1:=N1 (l:=t.values.l) h.2.2;have h2:=h.1;have h3:=h.2.1
 have:kTrait.length=5:=rfl
 simp only [List.length_cons,jm];omega
theorem TrB.len{t:aV}(h:TrB t):(uq t).length≤1000:=by
 have h1:=h.ws;have h2:=lL (kTrait::t.name::t.values.l) [];have h3:(jQ []).length=0:=rfl;unfold uq;omega
theorem SlB.ws{s:bF}(h:SlB s):([uk,fq s.cut.toNat,bI s.pre,bI s.add]:List Str).length+jm [uk,fq s.cut.toNat,bI s.pre,bI s.add]≤500:=by
 have h1:=qd s.pre;have h2:=qd s.add;have h3:=N0 s.cut.toNat;have:=h.2.1;have:=h.2.2.1
 have:uk.length=4:=rfl
 simp only [List.length_cons,List.length_nil,jm];omega
theorem SlB.len{s:bF}(h:SlB s):(CM s).length≤1000:=by
 have h1:=h.ws;have h2:=lL [uk,fq s.cut.toNat,bI s.pre,bI s.add] s.feats.l;have h3:=h.2.2.2.len;unfold CM;omega
theorem ClB.ws{c:aL}(h:ClB c):([mX,c.name]:List Str).length+jm [mX,c.name]≤500:=by
 have:=h.1
 have:mX.length=5:=rfl
 simp only [List.length_cons,List.length_nil,jm];omega
theorem ClB.len{c:aL}(h:ClB c):(nH c).length≤25000:=by
 have h1:=h.ws;have h2:=lL [mX,c.name] [];have h3:(jQ []).length=0:=rfl;have h4:=qc (f:=CM) (B:=1000) (l:=c.slots.l) fun s hs=>(h.2.2 s hs).len
 have h5:=h.2.1;unfold nH;rw [List.length_append];omega
theorem IrB.ws{f:bp}(h:IrB f):([um,fq f.slot.toNat,bI f.word]:List Str).length+jm [um,fq f.slot.toNat,bI f.word]≤500:=by
 have h1:=qd f.word;have h3:=N0 f.slot.toNat;have:=h.2
 have:um.length=4:=rfl
 simp only [List.length_cons,List.length_nil,jm];omega
theorem IrB.len{f:bp}(h:IrB f):(Ha f).length≤1000:=by
 have h1:=h.ws;have h2:=lL [um,fq f.slot.toNat,bI f.word] [];have h3:(jQ []).length=0:=rfl;unfold Ha;omega
theorem EnB.ws{x:aI}(h:EnB x):([mY,x.lem,x.cls]:List Str).length+jm [mY,x.lem,x.cls]≤500:=by
 have:=h.1;have:=h.2.1
 have:mY.length=5:=rfl
 simp only [List.length_cons,List.length_nil,jm];omega
theorem EnB.len{x:aI}(h:EnB x):(qV x).length≤25000:=by
 have h1:=h.ws;have h2:=lL [mY,x.lem,x.cls] x.feats.l;have h3:=h.2.2.1.len;have h4:=qc (f:=Ha) (B:=1000) (l:=x.forms.l) fun s hs=>(h.2.2.2.2 s hs).len
 have h5:=h.2.2.2.1;unfold qV;rw [List.length_append];omega
theorem SpB.ws{x:bq}(h:SpB x):([uo,x.frm,bI x.to,bI x.left,bI x.right]:List Str).length+jm [uo,x.frm,bI x.to,bI x.left,bI x.right]≤500:=by
 have h1:=qd x.to;have h2:=qd x.left;have h3:=qd x.right;obtain ⟨_,_,_,_,_⟩:=h
 have:uo.length=5:=rfl
 simp only [List.length_cons,List.length_nil,jm];omega
theorem SpB.len{x:bq}(h:SpB x):(yt x).length≤1000:=by
 have h1:=h.ws;have h2:=lL [uo,x.frm,bI x.to,bI x.left,bI x.right] [];have h3:(jQ []).length=0:=rfl;unfold yt;omega
theorem LiB.ws{x:cF}(h:LiB x):([AA,x.cls,bI x.glue]:List Str).length+jm [AA,x.cls,bI x.glue]≤500:=by
 have h1:=qd x.glue;have:=h.1;have:=h.2.1
 have:AA.length=4:=rfl
 simp only [List.length_cons,List.length_nil,jm];omega
theorem LiB.len{x:cF}(h:LiB x):(AB x).length≤1000:=by
 have h1:=h.ws;have h2:=lL [AA,x.cls,bI x.glue] x.feats.l;have h3:=h.2.2.len;unfold AB;omega
theorem Rf(G:List AObj){ws vs:List Str}(tg:Tag)(h:ws.length+vs.length≤1000):∃ tg' L,rap false G bg 1 16 false (.slice .full 1 (ws.map aE)) (.slice tg 1 (vs.map aE))=some (.slice tg' 1 ((ws++vs).map aE),G++L):=by
 cases vs with
 |nil=>
  refine ⟨.full,[], ?_⟩;simp [rap,zC,yF,r9];simp at h;omega
 |cons v vs=>
  refine ⟨.own G.length,[.tok ((ws.length+(v::vs).length)*1) bg], ?_⟩;have hr:r9 1 ((v::vs).map aE)=true:=by simp [r9,aE,AV.cell]
  have hs:((v::vs).map aE).map (·.map AV.strip)=(v::vs).map aE:=by simp [aE,AV.strip]
  have hl:((v::vs).map aE).length=vs.length+1:=by simp
  simp only [List.length_cons] at h;simp only [rap,zC,yF,or_true,if_true,true_and,hr,hs,List.length_map,List.length_cons];rw [if_pos ⟨by omega,by omega,trivial⟩];simp [aE,AV.strip]
end
section
attribute [local congr] aw aW cM bt aA bf aM aC ao aq aN aO
variable{E:bc}(M:cE bT E)
theorem okW:okB aD=true:=by decide
theorem SlB.fs{s:bF}(h:SlB s):FsB s.feats.l:=h.2.2.2
theorem EnB.fs{x:aI}(h:EnB x):FsB x.feats.l:=h.2.2.1
theorem LiB.fs{x:cF}(h:LiB x):FsB x.feats.l:=h.2.2
theorem SlB.num{s:bF}(h:SlB s):∃ n:Nat,s.cut=(n:Int)∧n<100∧s.cut.toNat=n:=⟨s.cut.toNat,by have:=h.1;omega,by have:=h.1;omega,rfl⟩
theorem IrB.num{s:bp}(h:IrB s):∃ n:Nat,s.slot=(n:Int)∧n<100∧s.slot.toNat=n:=⟨s.slot.toNat,by have:=h.1;omega,by have:=h.1;omega,rfl⟩
theorem pr0(hC:vL E)(hX:kY M)(hP:w8 E){N b p:Nat}{tg:Tag}{ts:List aV}(hts:ts.length≤128∧∀ t∈ts,TrB t)(H0:List AObj):∀ (n i:Nat) (w:Str) (G:List AObj),i+n=ts.length→jR aD N b G w→N≤G.length→w.length+n*1000≤100000000 →
  ∃ G',jR aD N b G' (w++gl uq (ts.drop i))∧jh N b G G'∧∀ (k:List Fra) (He:List AObj),M.go cC H0 (.c k6 :: .lp ⟨(some [1,5,31,32,33]),[],false⟩ k6 He :: .blk 0 :: .c (.lv [1,5])::k) (kv [(1,.ptr p 0),(5,.ptr b 0),(31,.slice tg 2 (ts.map aV.row)),(32,.int .i64 ts.length),(33,.int .i64 i)]) G=M.go cC H0 k (kv [(1,.ptr p 0),(5,.ptr b 0)]) G'
 |0,i,w,G,h,hb,hN,hw=>by
  have e:i=ts.length:=by omega
  subst e;rw [List.drop_length,gl,List.append_nil];refine ⟨G,hb,.refl _ _ _,fun k He => ?_⟩;rw [au M k6.eq_1];simp (maxSteps:=3000000) (maxDischargeDepth:=6) +contextual -implicitDefEqProofs only [amC M,↓amD,Nat.reduceBEq,Nat.reduceAdd,env,ag,cD,Nat.lt_irrefl]
 |n+1,i,w,G,h,hb,hN,hw=>by
  have hi:i<ts.length:=by omega
  have hx:ts[i]?=some ts[i]:=List.getElem?_eq_getElem hi;have hd:ts.drop i=ts[i]::ts.drop (i+1):=List.drop_eq_getElem_cons hi;have hm:=hts.2 ts[i] (List.getElem_mem hi);have hml:=hm.len;have hws:=hm.ws;have hil:=bG (row:=aV.row) (tag:=tg) (sz:=2) (k:=.i64) hi;have hwr:=cY hi (show ts.length≤bY by have:=hts.1;simp only [bY];omega);rw [hd,gl];have hN1:N≤(G++[AObj.cells ts[i].row bU]).length:=by simp;omega
  obtain ⟨tg',L,ha⟩:=Rf (G++[AObj.cells ts[i].row bU]) (ws:=[kTrait,ts[i].name]) (vs:=ts[i].values.l) ts[i].values.tag (by have:=hm.2.1;simp;omega);have ha:rap false (G++[AObj.cells ts[i].row bU]) bg 1 16 false (.slice .full 1 [[.str [116,114,97,105,116]],[.str ts[i].name]]) (.slice ts[i].values.tag 1 (ts[i].values.l.map aE))=_:=ha;have hN2:N≤((G++[AObj.cells ts[i].row bU])++L).length:=by rw [List.length_append];omega
  obtain ⟨G2,r2,b2,t2⟩:=rZ M hC hX hP okW ((hb.more [AObj.cells ts[i].row bU]).more L) hN2 (tf:=.nil) (fs:=[]) (tw:=tg') (ws:=[kTrait,ts[i].name]++ts[i].values.l) (by simp) (by simp only [List.cons_append,List.nil_append];omega) (by simp [jQ];omega);have r2:M.run bb [.ptr b 0,.slice .nil 2 [],.slice tg' 1 (([kTrait,ts[i].name]++ts[i].values.l).map aE)] ((G++[AObj.cells ts[i].row bU])++L)=some (.ret (.tuple []),G2):=r2
  simp only [List.append_assoc,List.cons_append,List.nil_append] at ha r2;have b2:jR aD N b G2 (w++uq ts[i]):=b2;have hd2:w.length+(n+1)*1000=w.length+1000+n*1000:=by rw [Nat.succ_mul];omega
  obtain ⟨G3,b3,t3,r3⟩:=pr0 hC hX hP (p:=p) (tg:=tg) hts H0 n (i+1) _ G2 (by omega) b2 (Nat.le_trans hN2 t2.len) (by rw [List.length_append];omega);refine ⟨G3,by simpa [List.append_assoc] using b3,(((jh.more N b G _ hN).trans (jh.more N b _ L hN1)).trans t2).trans t3,fun k He => ?_⟩;have r3:=r3 k;simp only [kv_cons,kv_nil] at r3;rw [au M k6.eq_1];simp (maxSteps:=3000000) (maxDischargeDepth:=6) +contextual -implicitDefEqProofs only [amC M,↓amD,Nat.reduceBEq,Nat.reduceAdd,env,ag,cD,amG,AV.cell,Nat.reduceMul,Nat.reduceLeDiff,rnc,hi,hx,qM,hwr,hil,r3,ha,r2]
theorem pr1(hC:vL E)(hX:kY M)(hP:w8 E){N b p:Nat}{x46 x47 x48:AV}{tg:Tag}{ts:List bF}(hts:ts.length≤24∧∀ t∈ts,SlB t)(H0:List AObj):∀ (n i:Nat) (w:Str) (G:List AObj),i+n=ts.length→jR aD N b G w→N≤G.length→w.length+n*1000≤100000000 →
  ∃ G',jR aD N b G' (w++gl CM (ts.drop i))∧jh N b G G'∧∀ (k:List Fra) (He:List AObj),M.go cC H0 (.c k7 :: .lp ⟨(some [1,5,46,47,48,57,58,59]),[],false⟩ k7 He :: .blk 4 :: .c (.lv [1,5,46,47,48])::k) (kv [(1,.ptr p 0),(5,.ptr b 0),(46,x46),(47,x47),(48,x48),(57,.slice tg 4 (ts.map bF.row)),(58,.int .i64 ts.length),(59,.int .i64 i)]) G=M.go cC H0 k (kv [(1,.ptr p 0),(5,.ptr b 0),(46,x46),(47,x47),(48,x48)]) G'
 |0,i,w,G,h,hb,hN,hw=>by
  have e:i=ts.length:=by omega
  subst e;rw [List.drop_length,gl,List.append_nil];refine ⟨G,hb,.refl _ _ _,fun k He => ?_⟩;rw [au M k7.eq_1];simp (maxSteps:=3000000) (maxDischargeDepth:=6) +contextual -implicitDefEqProofs only [amC M,↓amD,Nat.reduceBEq,Nat.reduceAdd,env,ag,cD,Nat.lt_irrefl]
 |n+1,i,w,G,h,hb,hN,hw=>by
  have hi:i<ts.length:=by omega
  have hx:ts[i]?=some ts[i]:=List.getElem?_eq_getElem hi;have hd:ts.drop i=ts[i]::ts.drop (i+1):=List.drop_eq_getElem_cons hi;have hm:=hts.2 ts[i] (List.getElem_mem hi);have hml:=hm.len;have hws:=hm.ws;have hil:=bG (row:=bF.row) (tag:=tg) (sz:=4) (k:=.i64) hi;have hwr:=cY hi (show ts.length≤bY by have:=hts.1;simp only [bY];omega);rw [hd,gl];have hN1:N≤(G++[AObj.cells ts[i].row bK]).length:=by simp;omega
  have dash:=fun s H=>Az M hP s H
  have hit:∀ H,M.run fy [.int .i64 ts[i].cut] H=some (.ret (.str (fq ts[i].cut.toNat)),H):=fun H=>by
   obtain ⟨m,h1,h2,h3⟩:=hm.num;rw [h3,h1];exact G8 M hX hP (by omega) H
  obtain ⟨G2,r2,b2,t2⟩:=rZ M hC hX hP okW (hb.more [AObj.cells ts[i].row bK]) hN1 (tf:=ts[i].feats.tag) (fs:=ts[i].feats.l) (tw:=.full) (ws:=[uk,fq ts[i].cut.toNat,bI ts[i].pre,bI ts[i].add]) (by have:=hm.fs.1;omega) (by omega) (by have:=hm.fs.len;omega);have r2:M.run bb [.ptr b 0,.slice ts[i].feats.tag 2 (ts[i].feats.l.map aJ.row),.slice .full 1 [[.str [115,108,111,116]],[.str (fq ts[i].cut.toNat)],[.str (bI ts[i].pre)],[.str (bI ts[i].add)]]] (G++[AObj.cells ts[i].row bK])=some (.ret (.tuple []),G2):=r2
  have b2:jR aD N b G2 (w++CM ts[i]):=b2;have hd2:w.length+(n+1)*1000=w.length+1000+n*1000:=by rw [Nat.succ_mul];omega
  obtain ⟨G3,b3,t3,r3⟩:=pr1 hC hX hP (p:=p) (x46:=x46) (x47:=x47) (x48:=x48) (tg:=tg) hts H0 n (i+1) _ G2 (by omega) b2 (Nat.le_trans hN1 t2.len) (by rw [List.length_append];omega);refine ⟨G3,by simpa [List.append_assoc] using b3,((jh.more N b G _ hN).trans t2).trans t3,fun k He => ?_⟩;have r3:=r3 k;simp only [kv_cons,kv_nil] at r3;rw [au M k7.eq_1];simp (maxSteps:=3000000) (maxDischargeDepth:=6) +contextual -implicitDefEqProofs only [amC M,↓amD,Nat.reduceBEq,Nat.reduceAdd,env,ag,cD,amG,AV.cell,Nat.reduceMul,Nat.reduceLeDiff,rnc,hi,hx,Gi,hwr,hil,r3,r2,dash,hit]
theorem pr3(hC:vL E)(hX:kY M)(hP:w8 E){N b p:Nat}{x46 x47 x48:AV}{tg:Tag}{ts:List bp}(hts:ts.length≤24∧∀ t∈ts,IrB t)(H0:List AObj):∀ (n i:Nat) (w:Str) (G:List AObj),i+n=ts.length→jR aD N b G w→N≤G.length→w.length+n*1000≤100000000 →
  ∃ G',jR aD N b G' (w++gl Ha (ts.drop i))∧jh N b G G'∧∀ (k:List Fra) (He:List AObj),M.go cC H0 (.c k9 :: .lp ⟨(some [1,5,79,80,81,94,95,96]),[],false⟩ k9 He :: .blk 8 :: .c (.lv [1,5,79,80,81])::k) (kv [(1,.ptr p 0),(5,.ptr b 0),(79,x46),(80,x47),(81,x48),(94,.slice tg 2 (ts.map bp.row)),(95,.int .i64 ts.length),(96,.int .i64 i)]) G=M.go cC H0 k (kv [(1,.ptr p 0),(5,.ptr b 0),(79,x46),(80,x47),(81,x48)]) G'
 |0,i,w,G,h,hb,hN,hw=>by
  have e:i=ts.length:=by omega
  subst e;rw [List.drop_length,gl,List.append_nil];refine ⟨G,hb,.refl _ _ _,fun k He => ?_⟩;rw [au M k9.eq_1];simp (maxSteps:=3000000) (maxDischargeDepth:=6) +contextual -implicitDefEqProofs only [amC M,↓amD,Nat.reduceBEq,Nat.reduceAdd,env,ag,cD,Nat.lt_irrefl]
 |n+1,i,w,G,h,hb,hN,hw=>by
  have hi:i<ts.length:=by omega
  have hx:ts[i]?=some ts[i]:=List.getElem?_eq_getElem hi;have hd:ts.drop i=ts[i]::ts.drop (i+1):=List.drop_eq_getElem_cons hi;have hm:=hts.2 ts[i] (List.getElem_mem hi);have hml:=hm.len;have hws:=hm.ws;have hil:=bG (row:=bp.row) (tag:=tg) (sz:=2) (k:=.i64) hi;have hwr:=cY hi (show ts.length≤bY by have:=hts.1;simp only [bY];omega);rw [hd,gl];have hN1:N≤(G++[AObj.cells ts[i].row bn]).length:=by simp;omega
  have dash:=fun s H=>Az M hP s H
  have hit:∀ H,M.run fy [.int .i64 ts[i].slot] H=some (.ret (.str (fq ts[i].slot.toNat)),H):=fun H=>by
   obtain ⟨m,h1,h2,h3⟩:=hm.num;rw [h3,h1];exact G8 M hX hP (by omega) H
  obtain ⟨G2,r2,b2,t2⟩:=rZ M hC hX hP okW (hb.more [AObj.cells ts[i].row bn]) hN1 (tf:=.nil) (fs:=[]) (tw:=.full) (ws:=[um,fq ts[i].slot.toNat,bI ts[i].word]) (by simp) (by omega) (by simp [jQ];omega);have r2:M.run bb [.ptr b 0,.slice .nil 2 [],.slice .full 1 [[.str [102,111,114,109]],[.str (fq ts[i].slot.toNat)],[.str (bI ts[i].word)]]] (G++[AObj.cells ts[i].row bn])=some (.ret (.tuple []),G2):=r2
  have b2:jR aD N b G2 (w++Ha ts[i]):=b2;have hd2:w.length+(n+1)*1000=w.length+1000+n*1000:=by rw [Nat.succ_mul];omega
  obtain ⟨G3,b3,t3,r3⟩:=pr3 hC hX hP (p:=p) (x46:=x46) (x47:=x47) (x48:=x48) (tg:=tg) hts H0 n (i+1) _ G2 (by omega) b2 (Nat.le_trans hN1 t2.len) (by rw [List.length_append];omega);refine ⟨G3,by simpa [List.append_assoc] using b3,((jh.more N b G _ hN).trans t2).trans t3,fun k He => ?_⟩;have r3:=r3 k;simp only [kv_cons,kv_nil] at r3;rw [au M k9.eq_1];simp (maxSteps:=3000000) (maxDischargeDepth:=6) +contextual -implicitDefEqProofs only [amC M,↓amD,Nat.reduceBEq,Nat.reduceAdd,env,ag,cD,amG,AV.cell,Nat.reduceMul,Nat.reduceLeDiff,rnc,hi,hx,De,hwr,hil,r3,r2,dash,hit]
theorem pr5(hC:vL E)(hX:kY M)(hP:w8 E){N b p:Nat}{tg:Tag}{ts:List bq}(hts:ts.length≤128∧∀ t∈ts,SpB t)(H0:List AObj):∀ (n i:Nat) (w:Str) (G:List AObj),i+n=ts.length→jR aD N b G w→N≤G.length→w.length+n*1000≤100000000 →
  ∃ G',jR aD N b G' (w++gl yt (ts.drop i))∧jh N b G G'∧∀ (k:List Fra) (He:List AObj),M.go cC H0 (.c lg :: .lp ⟨(some [1,5,111,112,113]),[],false⟩ lg He :: .blk 10 :: .c (.lv [1,5])::k) (kv [(1,.ptr p 0),(5,.ptr b 0),(111,.slice tg 4 (ts.map bq.row)),(112,.int .i64 ts.length),(113,.int .i64 i)]) G=M.go cC H0 k (kv [(1,.ptr p 0),(5,.ptr b 0)]) G'
 |0,i,w,G,h,hb,hN,hw=>by
  have e:i=ts.length:=by omega
  subst e;rw [List.drop_length,gl,List.append_nil];refine ⟨G,hb,.refl _ _ _,fun k He => ?_⟩;rw [au M lg.eq_1];simp (maxSteps:=3000000) (maxDischargeDepth:=6) +contextual -implicitDefEqProofs only [amC M,↓amD,Nat.reduceBEq,Nat.reduceAdd,env,ag,cD,Nat.lt_irrefl]
 |n+1,i,w,G,h,hb,hN,hw=>by
  have hi:i<ts.length:=by omega
  have hx:ts[i]?=some ts[i]:=List.getElem?_eq_getElem hi;have hd:ts.drop i=ts[i]::ts.drop (i+1):=List.drop_eq_getElem_cons hi;have hm:=hts.2 ts[i] (List.getElem_mem hi);have hml:=hm.len;have hws:=hm.ws;have hil:=bG (row:=bq.row) (tag:=tg) (sz:=4) (k:=.i64) hi;have hwr:=cY hi (show ts.length≤bY by have:=hts.1;simp only [bY];omega);rw [hd,gl];have hN1:N≤(G++[AObj.cells ts[i].row cL]).length:=by simp;omega
  have dash:=fun s H=>Az M hP s H
  obtain ⟨G2,r2,b2,t2⟩:=rZ M hC hX hP okW (hb.more [AObj.cells ts[i].row cL]) hN1 (tf:=.nil) (fs:=[]) (tw:=.full) (ws:=[uo,ts[i].frm,bI ts[i].to,bI ts[i].left,bI ts[i].right]) (by simp) (by omega) (by simp [jQ];omega);have r2:M.run bb [.ptr b 0,.slice .nil 2 [],.slice .full 1 [[.str [115,112,101,108,108]],[.str ts[i].frm],[.str (bI ts[i].to)],[.str (bI ts[i].left)],[.str (bI ts[i].right)]]] (G++[AObj.cells ts[i].row cL])=some (.ret (.tuple []),G2):=r2
  have b2:jR aD N b G2 (w++yt ts[i]):=b2;have hd2:w.length+(n+1)*1000=w.length+1000+n*1000:=by rw [Nat.succ_mul];omega
  obtain ⟨G3,b3,t3,r3⟩:=pr5 hC hX hP (p:=p) (tg:=tg) hts H0 n (i+1) _ G2 (by omega) b2 (Nat.le_trans hN1 t2.len) (by rw [List.length_append];omega);refine ⟨G3,by simpa [List.append_assoc] using b3,((jh.more N b G _ hN).trans t2).trans t3,fun k He => ?_⟩;have r3:=r3 k;simp only [kv_cons,kv_nil] at r3;rw [au M lg.eq_1];simp (maxSteps:=3000000) (maxDischargeDepth:=6) +contextual -implicitDefEqProofs only [amC M,↓amD,Nat.reduceBEq,Nat.reduceAdd,env,ag,cD,amG,AV.cell,Nat.reduceMul,Nat.reduceLeDiff,rnc,hi,hx,Gj,hwr,hil,r3,r2,dash]
theorem pr6(hC:vL E)(hX:kY M)(hP:w8 E){N b p:Nat}{tg:Tag}{ts:List cF}(hts:ts.length≤128∧∀ t∈ts,LiB t)(H0:List AObj):∀ (n i:Nat) (w:Str) (G:List AObj),i+n=ts.length→jR aD N b G w→N≤G.length→w.length+n*1000≤100000000 →
  ∃ G',jR aD N b G' (w++gl AB (ts.drop i))∧jh N b G G'∧∀ (k:List Fra) (He:List AObj),M.go cC H0 (.c lj :: .lp ⟨(some [5,132,133,134]),[],false⟩ lj He :: .blk 12 :: .c (.lv [5])::k) (kv [(5,.ptr b 0),(132,.slice tg 3 (ts.map cF.row)),(133,.int .i64 ts.length),(134,.int .i64 i)]) G=M.go cC H0 k (kv [(5,.ptr b 0)]) G'
 |0,i,w,G,h,hb,hN,hw=>by
  have e:i=ts.length:=by omega
  subst e;rw [List.drop_length,gl,List.append_nil];refine ⟨G,hb,.refl _ _ _,fun k He => ?_⟩;rw [au M lj.eq_1];simp (maxSteps:=3000000) (maxDischargeDepth:=6) +contextual -implicitDefEqProofs only [amC M,↓amD,Nat.reduceBEq,Nat.reduceAdd,env,ag,cD,Nat.lt_irrefl]
 |n+1,i,w,G,h,hb,hN,hw=>by
  have hi:i<ts.length:=by omega
  have hx:ts[i]?=some ts[i]:=List.getElem?_eq_getElem hi;have hd:ts.drop i=ts[i]::ts.drop (i+1):=List.drop_eq_getElem_cons hi;have hm:=hts.2 ts[i] (List.getElem_mem hi);have hml:=hm.len;have hws:=hm.ws;have hil:=bG (row:=cF.row) (tag:=tg) (sz:=3) (k:=.i64) hi;have hwr:=cY hi (show ts.length≤bY by have:=hts.1;simp only [bY];omega);rw [hd,gl];have hN1:N≤(G++[AObj.cells ts[i].row dE]).length:=by simp;omega
  have dash:=fun s H=>Az M hP s H
  obtain ⟨G2,r2,b2,t2⟩:=rZ M hC hX hP okW (hb.more [AObj.cells ts[i].row dE]) hN1 (tf:=ts[i].feats.tag) (fs:=ts[i].feats.l) (tw:=.full) (ws:=[AA,ts[i].cls,bI ts[i].glue]) (by have:=hm.fs.1;omega) (by omega) (by have:=hm.fs.len;omega);have r2:M.run bb [.ptr b 0,.slice ts[i].feats.tag 2 (ts[i].feats.l.map aJ.row),.slice .full 1 [[.str [108,105,110,107]],[.str ts[i].cls],[.str (bI ts[i].glue)]]] (G++[AObj.cells ts[i].row dE])=some (.ret (.tuple []),G2):=r2
  have b2:jR aD N b G2 (w++AB ts[i]):=b2;have hd2:w.length+(n+1)*1000=w.length+1000+n*1000:=by rw [Nat.succ_mul];omega
  obtain ⟨G3,b3,t3,r3⟩:=pr6 hC hX hP (p:=p) (tg:=tg) hts H0 n (i+1) _ G2 (by omega) b2 (Nat.le_trans hN1 t2.len) (by rw [List.length_append];omega);refine ⟨G3,by simpa [List.append_assoc] using b3,((jh.more N b G _ hN).trans t2).trans t3,fun k He => ?_⟩;have r3:=r3 k;simp only [kv_cons,kv_nil] at r3;rw [au M lj.eq_1];simp (maxSteps:=3000000) (maxDischargeDepth:=6) +contextual -implicitDefEqProofs only [amC M,↓amD,Nat.reduceBEq,Nat.reduceAdd,env,ag,cD,amG,AV.cell,Nat.reduceMul,Nat.reduceLeDiff,rnc,hi,hx,IB,hwr,hil,r3,r2,dash]
theorem jR.lt{T:TypeId}{N b:Nat}{G:List AObj}{w:Str}(h:jR T N b G w):b<G.length:=by
 obtain ⟨⟨_,_,hg,_⟩,_⟩:=h;exact eS hg
theorem pr2(hC:vL E)(hX:kY M)(hP:w8 E){N b p:Nat}{tg:Tag}{ts:List aL}(hts:ts.length≤16∧∀ t∈ts,ClB t)(H0:List AObj):∀ (n i:Nat) (w:Str) (G:List AObj),i+n=ts.length→jR aD N b G w→N≤G.length→w.length+n*25000≤100000000 →
  ∃ G',jR aD N b G' (w++gl nH (ts.drop i))∧jh N b G G'∧∀ (k:List Fra) (He:List AObj),M.go cC H0 (.c k8 :: .lp ⟨(some [1,5,46,47,48]),[],false⟩ k8 He :: .blk 2 :: .c (.lv [1,5])::k) (kv [(1,.ptr p 0),(5,.ptr b 0),(46,.slice tg 2 (ts.map aL.row)),(47,.int .i64 ts.length),(48,.int .i64 i)]) G=M.go cC H0 k (kv [(1,.ptr p 0),(5,.ptr b 0)]) G'
 |0,i,w,G,h,hb,hN,hw=>by
  have e:i=ts.length:=by omega
  subst e;rw [List.drop_length,gl,List.append_nil];refine ⟨G,hb,.refl _ _ _,fun k He => ?_⟩;rw [au M k8.eq_1];simp (maxSteps:=3000000) (maxDischargeDepth:=6) +contextual -implicitDefEqProofs only [amC M,↓amD,Nat.reduceBEq,Nat.reduceAdd,env,ag,cD,Nat.lt_irrefl]
 |n+1,i,w,G,h,hb,hN,hw=>by
  have hi:i<ts.length:=by omega
  have hx:ts[i]?=some ts[i]:=List.getElem?_eq_getElem hi;have hd:ts.drop i=ts[i]::ts.drop (i+1):=List.drop_eq_getElem_cons hi;have hm:=hts.2 ts[i] (List.getElem_mem hi);have hml:=hm.len;have hws:=hm.ws;have hil:=bG (row:=aL.row) (tag:=tg) (sz:=2) (k:=.i64) hi;have hwr:=cY hi (show ts.length≤bY by have:=hts.1;simp only [bY];omega);rw [hd,gl];have hN1:N≤(G++[AObj.cells ts[i].row aG]).length:=by simp;omega
  obtain ⟨Ga,ra,ba,ta⟩:=rZ M hC hX hP okW (hb.more [AObj.cells ts[i].row aG]) hN1 (tf:=.nil) (fs:=[]) (tw:=.full) (ws:=[mX,ts[i].name]) (by simp) (by omega) (by simp [jQ];omega);have ra:M.run bb [.ptr b 0,.slice .nil 2 [],.slice .full 1 [[.str [99,108,97,115,115]],[.str ts[i].name]]] (G++[AObj.cells ts[i].row aG])=some (.ret (.tuple []),Ga):=ra;have hga:Ga[G.length]?=some (.cells ts[i].row aG):=ta.obj G.length _ (by rw [eL];rfl) (by have:=hb.lt;omega) (by rintro (⟨_,e⟩ | ⟨_,e⟩)<;>cases e)
  have hsub:ts[i].slots.l.length≤24∧∀ s∈ts[i].slots.l,SlB s:=hm.2
  have hla:(qb [mX,ts[i].name] []).length≤1000:=by
   have:=lL [mX,ts[i].name] []
   have:(jQ []).length≤208:=by simp [jQ]
   omega
  obtain ⟨G2,b2,t2',r2⟩:=pr1 M hC hX hP (p:=p) (x46:=.slice tg 2 (ts.map aL.row)) (x47:=.int .i64 ts.length) (x48:=.int .i64 i) (tg:=ts[i].slots.tag) hsub H0 ts[i].slots.l.length 0 _ Ga (by omega) ba (Nat.le_trans hN1 ta.len) (by rw [List.length_append];have:=hsub.1;omega);rw [List.drop_zero] at b2;simp only [kv_cons,kv_nil,Int.ofNat_zero] at r2;have t2:=ta.trans t2';have b2:jR aD N b G2 (w++nH ts[i]):=by simpa [nH,List.append_assoc] using b2
  have hd2:w.length+(n+1)*25000=w.length+25000+n*25000:=by rw [Nat.succ_mul];omega
  obtain ⟨G3,b3,t3,r3⟩:=pr2 hC hX hP (p:=p) (tg:=tg) hts H0 n (i+1) _ G2 (by omega) b2 (Nat.le_trans hN1 t2.len) (by rw [List.length_append];omega);refine ⟨G3,by simpa [List.append_assoc] using b3,((jh.more N b G _ hN).trans t2).trans t3,fun k He => ?_⟩;have r3:=r3 k;simp only [kv_cons,kv_nil] at r3;rw [au M k8.eq_1];simp (maxSteps:=3000000) (maxDischargeDepth:=6) +contextual -implicitDefEqProofs only [amC M,↓amD,Nat.reduceBEq,Nat.reduceAdd,env,ag,cD,amG,AV.cell,Nat.reduceMul,Nat.reduceLeDiff,rnc,hi,hx,mM,hwr,hil,r3,ra,hga,r2]
theorem pr4(hC:vL E)(hX:kY M)(hP:w8 E){N b p:Nat}{tg:Tag}{ts:List aI}(hts:ts.length≤128∧∀ t∈ts,EnB t)(H0:List AObj):∀ (n i:Nat) (w:Str) (G:List AObj),i+n=ts.length→jR aD N b G w→N≤G.length→w.length+n*25000≤100000000 →
  ∃ G',jR aD N b G' (w++gl qV (ts.drop i))∧jh N b G G'∧∀ (k:List Fra) (He:List AObj),M.go cC H0 (.c lf :: .lp ⟨(some [1,5,79,80,81]),[],false⟩ lf He :: .blk 6 :: .c (.lv [1,5])::k) (kv [(1,.ptr p 0),(5,.ptr b 0),(79,.slice tg 4 (ts.map aI.row)),(80,.int .i64 ts.length),(81,.int .i64 i)]) G=M.go cC H0 k (kv [(1,.ptr p 0),(5,.ptr b 0)]) G'
 |0,i,w,G,h,hb,hN,hw=>by
  have e:i=ts.length:=by omega
  subst e;rw [List.drop_length,gl,List.append_nil];refine ⟨G,hb,.refl _ _ _,fun k He => ?_⟩;rw [au M lf.eq_1];simp (maxSteps:=3000000) (maxDischargeDepth:=6) +contextual -implicitDefEqProofs only [amC M,↓amD,Nat.reduceBEq,Nat.reduceAdd,env,ag,cD,Nat.lt_irrefl]
 |n+1,i,w,G,h,hb,hN,hw=>by
  have hi:i<ts.length:=by omega
  have hx:ts[i]?=some ts[i]:=List.getElem?_eq_getElem hi;have hd:ts.drop i=ts[i]::ts.drop (i+1):=List.drop_eq_getElem_cons hi;have hm:=hts.2 ts[i] (List.getElem_mem hi);have hml:=hm.len;have hws:=hm.ws;have hil:=bG (row:=aI.row) (tag:=tg) (sz:=4) (k:=.i64) hi;have hwr:=cY hi (show ts.length≤bY by have:=hts.1;simp only [bY];omega);rw [hd,gl];have hN1:N≤(G++[AObj.cells ts[i].row aS]).length:=by simp;omega
  obtain ⟨Ga,ra,ba,ta⟩:=rZ M hC hX hP okW (hb.more [AObj.cells ts[i].row aS]) hN1 (tf:=ts[i].feats.tag) (fs:=ts[i].feats.l) (tw:=.full) (ws:=[mY,ts[i].lem,ts[i].cls]) (by have:=hm.fs.1;omega) (by omega) (by have:=hm.fs.len;omega);have ra:M.run bb [.ptr b 0,.slice ts[i].feats.tag 2 (ts[i].feats.l.map aJ.row),.slice .full 1 [[.str [101,110,116,114,121]],[.str ts[i].lem],[.str ts[i].cls]]] (G++[AObj.cells ts[i].row aS])=some (.ret (.tuple []),Ga):=ra
  have hga:Ga[G.length]?=some (.cells ts[i].row aS):=ta.obj G.length _ (by rw [eL];rfl) (by have:=hb.lt;omega) (by rintro (⟨_,e⟩ | ⟨_,e⟩)<;>cases e);have hsub:ts[i].forms.l.length≤24∧∀ s∈ts[i].forms.l,IrB s:=hm.2.2.2
  have hla:(qb [mY,ts[i].lem,ts[i].cls] ts[i].feats.l).length≤1000:=by
   have:=lL [mY,ts[i].lem,ts[i].cls] ts[i].feats.l
   have:(jQ ts[i].feats.l).length≤208:=hm.fs.len
   omega
  obtain ⟨G2,b2,t2',r2⟩:=pr3 M hC hX hP (p:=p) (x46:=.slice tg 4 (ts.map aI.row)) (x47:=.int .i64 ts.length) (x48:=.int .i64 i) (tg:=ts[i].forms.tag) hsub H0 ts[i].forms.l.length 0 _ Ga (by omega) ba (Nat.le_trans hN1 ta.len) (by rw [List.length_append];have:=hsub.1;omega);rw [List.drop_zero] at b2;simp only [kv_cons,kv_nil,Int.ofNat_zero] at r2;have t2:=ta.trans t2';have b2:jR aD N b G2 (w++qV ts[i]):=by simpa [qV,List.append_assoc] using b2
  have hd2:w.length+(n+1)*25000=w.length+25000+n*25000:=by rw [Nat.succ_mul];omega
  obtain ⟨G3,b3,t3,r3⟩:=pr4 hC hX hP (p:=p) (tg:=tg) hts H0 n (i+1) _ G2 (by omega) b2 (Nat.le_trans hN1 t2.len) (by rw [List.length_append];omega);refine ⟨G3,by simpa [List.append_assoc] using b3,((jh.more N b G _ hN).trans t2).trans t3,fun k He => ?_⟩;have r3:=r3 k;simp only [kv_cons,kv_nil] at r3;rw [au M lf.eq_1];simp (maxSteps:=3000000) (maxDischargeDepth:=6) +contextual -implicitDefEqProofs only [amC M,↓amD,Nat.reduceBEq,Nat.reduceAdd,env,ag,cD,amG,AV.cell,Nat.reduceMul,Nat.reduceLeDiff,rnc,hi,hx,sg,hwr,hil,r3,ra,hga,r2]
end
section
attribute [local congr] aw aW cM bt aA bf aM aC ao aq aN aO
variable{E:bc}(M:cE bT E)
structure RefE (E:bc):Prop where
 truchmanref02_trait:E.fn lN=some qF
 truchmanref02_Class:E.fn iW=some qD
 truchmanref02_in:E.fn oJ=some tY
 truchmanref02_bundle:E.fn hU=some pL
 truchmanref02_traits:E.fn py=some pK
 truchmanref02_classes:E.fn oR=some oV
 truchmanref02_Unify:E.fn qw=some qH
 truchmanref02_entries:E.fn oS=some oW
 truchmanref02_Check:E.fn lM=some qB
end
section
attribute [local congr] aw aW cM bt aA bf aM aC ao aq aN aO
variable{E:bc}(M:cE bT E)
end
section
attribute [local congr] aw aW cM bt aA bf aM aC ao aq aN aO
variable{E:bc}(M:cE bT E)
end
section
attribute [local congr] aw aW cM bt aA bf aM aC ao aq aN aO
variable{E:bc}(M:cE bT E)
end
theorem qW{α:Type}{F:Nat→α→Int}:∀ {l:List α}{s:Nat},A5 F s l=0→∀ (k:Nat) (x:α),l[k]?=some x→F (s+k) x=0
 |[],_,_,k,x,h=>by simp at h
 |y::l,s,h,k,x,hx=>by
  rw [A5] at h;cases hy:F s y == 0 with
  |false=>
   rw [hy] at h;simp only [Bool.not_false,sel] at h;rw [h] at hy;simp at hy
  |true=>
   rw [hy] at h;simp only [Bool.not_true,sel] at h;cases k with
   |zero=>obtain rfl:y=x:=by simpa using hx
          exact eq_of_beq hy
   |succ k=>
    have:=qW h k x (by simpa using hx);rwa [show s+1+k=s+(k+1) by omega] at this
section
attribute [local congr] aw aW cM bt aA bf aM aC ao aq aN aO
variable{E:bc}(M:cE bT E)
theorem Hb{α:Type}(l:List α)(i:Nat):∀ k,k<(l.take i).length→l[k]?=(l.take i)[k]? := fun k hk=>by
 rw [List.getElem?_take_of_lt];simp at hk;omega
end
section
attribute [local congr] aw aW cM bt aA bf aM aC ao aq aN aO
variable{E:bc}(M:cE bT E)
end
section
attribute [local congr] aw aW cM bt aA bf aM aC ao aq aN aO
variable{E:bc}(M:cE bT E)
end
section
attribute [local congr] aw aW cM bt aA bf aM aC ao aq aN aO
variable{E:bc}(M:cE bT E)
end
section
attribute [local congr] aw aW cM bt aA bf aM aC ao aq aN aO
variable{E:bc}(M:cE bT E)
theorem ur{b:Bool}{x y:Int}(hx:x≠0)(h:sel b x y=0):b=false∧y=0:=by
 cases b with
 |false=>exact ⟨rfl,h⟩
 |true=>exact absurd h hx
theorem Hc{α:Type}{m:Nat}{F:Nat→α→Int}{l:List α}(h:kr (m:Int) F l=0):l.length≤m∧∀ (k:Nat) (x:α),l[k]?=some x→F k x=0:=by
 obtain ⟨h1,h2⟩:=ur (by decide) h;have:=of_decide_eq_false h1;refine ⟨by omega,fun k x hx => ?_⟩;have:=qW h2 k x hx;rwa [Nat.zero_add] at this
theorem uu{s:Str}(h:ks s=true):s.length≤12∧s≠[]:=by
 cases s with
 |nil=>simp [ks] at h
 |cons c t=>
  simp only [ks,Bool.and_eq_true,decide_eq_true_eq] at h;exact ⟨by omega,by simp⟩
theorem IP{s:Str}(h:oP s=true):s.length≤24:=by
 simp only [oP,Lu,Bool.and_eq_true,decide_eq_true_eq] at h;omega
theorem qX{p:UInt8→Bool}{s:Str}(h:iM p s=true):s.length≤6:=by
 simp only [iM,Bool.and_eq_true,decide_eq_true_eq] at h;omega
theorem Hd{α:Type}{l:List α}{x:α}(h:x∈l):∃ k:Nat,l[k]?=some x:=List.getElem?_of_mem h
theorem S5{l:Lex}(h:Q7 l=0):l.vowels.length≤256:=by
 have h1:∀ i (c:UInt8),l.vowels[i]?=some c→JT l.vowels i c=false:=fun i c hc=>by
  have:=qW h i c hc;rw [Nat.zero_add] at this;exact (ur (by decide) this).1
 have h2:∀ i (c:UInt8),l.vowels[i]?=some c→i≤c.toNat:=by
  intro i;induction i with
  |zero=>intro c _;omega
  |succ i ih=>
   intro c hc;have hlt:=(List.getElem?_eq_some_iff.1 hc).1;have hd:l.vowels[i]?=some l.vowels[i]:=List.getElem?_eq_getElem (by omega);have hb:=h1 _ c hc;simp only [JT,hd,Bool.or_eq_false_iff,decide_eq_false_iff_not] at hb;have:=ih _ hd;omega
 cases hn:l.vowels.length with
 |zero=>omega
 |succ n=>
  have:=h2 n l.vowels[n] (List.getElem?_eq_getElem (by omega));have:=l.vowels[n].toNat_lt;omega
theorem IQ{l:Lex}(h:mW l=0):Q7 l=0∧qS l=0∧uj l=0∧yq l=0∧Ax l=0∧yr l=0:=by
 have:=fun k x hx=>qW h k x hx
 exact ⟨this 0 _ rfl,this 1 _ rfl,this 2 _ rfl,this 3 _ rfl,this 4 _ rfl,this 5 _ rfl⟩
theorem S6{l:Lex}(h:qS l=0):l.traits.l.length≤8∧∀ t∈l.traits.l,TrB t∧ks t.name=true∧t.values.l≠[]∧∀ v∈t.values.l,ks v=true:=by
 obtain ⟨h1,h2⟩:=Hc (m:=8) h;refine ⟨h1,fun t ht => ?_⟩;obtain ⟨k,hk⟩:=Hd ht;have:=h2 k t hk;obtain ⟨a1,a2⟩:=ur (by decide) this;obtain ⟨a3,a4⟩:=ur (by decide) a2;obtain ⟨a5,a6⟩:=ur (by decide) a4;obtain ⟨a7,a8⟩:=ur (by decide) a6;have hn:ks t.name=true:=by simpa using a1
 have hv:∀ v∈t.values.l,ks v=true:=fun v hv=>by
  obtain ⟨j,hj⟩:=Hd hv;have:=qW a8 j v hj;simpa using (ur (by decide) this).1
 refine ⟨⟨(uu hn).1,by have:=of_decide_eq_false a5;omega,fun v h=>(uu (hv v h)).1⟩,hn,fun e => ?_,hv⟩;rw [e] at a7;exact absurd a7 (by decide)
theorem Rg{l:Lex}(h:qS l=0){fs:List aJ}(hf:jI l fs=0):FsB fs∧∀ f∈fs,ks f.name=true∧ks f.value=true:=by
 obtain ⟨h1,h2⟩:=Hc (m:=8) hf
 have key:∀ f∈fs,ks f.name=true∧ks f.value=true:=fun f hf=>by
  obtain ⟨k,hk⟩:=Hd hf;have:=h2 k f hk;unfold EJ at this;cases hc:l.traits.l.find? (fun t=>t.name == f.name) with
  |none=>rw [hc] at this;exact absurd (show (5:Int)=0 from this) (by decide)
  |some t=>
   rw [hc] at this;obtain ⟨a1,_⟩:=ur (by decide) this;have hm:=List.mem_of_find?_eq_some hc;have hq:=List.find?_some hc;obtain ⟨_,b2,_,b4⟩:=(S6 h).2 t hm;have e:t.name=f.name:=eq_of_beq hq;have a1:(t.values.l.any fun s=>f.value == s)=true:=by simpa using a1
   obtain ⟨v,hv,e2⟩:=List.any_eq_true.1 a1;exact ⟨e ▸ b2,(eq_of_beq e2) ▸ b4 v hv⟩
 exact ⟨⟨h1,fun f hf=>⟨(uu (key f hf).1).1,(uu (key f hf).2).1⟩⟩,key⟩
theorem Rh{l:Lex}(h:qS l=0)(h2:uj l=0):l.classes.l.length≤16∧∀ c∈l.classes.l,ClB c∧ks c.name=true∧c.slots.l≠[]∧∀ s∈c.slots.l,iM tA s.pre=true∧iM tA s.add=true∧jI l s.feats.l=0:=by
 obtain ⟨h1,h2⟩:=Hc (m:=16) h2;refine ⟨h1,fun c hc => ?_⟩;obtain ⟨k,hk⟩:=Hd hc;have:=h2 k c hk;obtain ⟨a1,a2⟩:=ur (by decide) this;obtain ⟨a3,a4⟩:=ur (by decide) a2;obtain ⟨a5,a6⟩:=ur (by decide) a4;obtain ⟨a7,a8⟩:=ur (by decide) a6;obtain ⟨_,a9⟩:=Hc (m:=24) a8;have hn:ks c.name=true:=by simpa using a1
 have hs:∀ s∈c.slots.l,SlB s∧iM tA s.pre=true∧iM tA s.add=true∧jI l s.feats.l=0:=fun s hs=>by
  obtain ⟨j,hj⟩:=Hd hs;have:=a9 j s hj;obtain ⟨b1,b2⟩:=ur (by decide) this;simp only [Bool.or_eq_false_iff,decide_eq_false_iff_not,Bool.not_eq_false'] at b1;obtain ⟨⟨⟨c1,c2⟩,c3⟩,c4⟩:=b1;exact ⟨⟨⟨by omega,by omega⟩,qX c3,qX c4,(Rg h b2).1⟩,c3,c4,b2⟩
 refine ⟨⟨(uu hn).1,by have:=of_decide_eq_false a5;omega,fun s h=>(hs s h).1⟩,hn,fun e => ?_,fun s h=>(hs s h).2⟩;rw [e] at a7;exact absurd a7 (by decide)
theorem pig:∀ (n:Nat) (l:List Int),(∀ x∈l,0≤x∧x<n)→l.Pairwise (·≠·)→l.length≤n
 |0,l,h,_=>by
  cases l with
  |nil=>simp
  |cons x l=>have:=h x (.head _);omega
 |n+1,l,h,hp=>by
  have h1:=pig n (l.filter (·≠(n:Int))) (fun x hx=>by
   have hm:=List.mem_filter.1 hx;have:=h x hm.1
   have:x≠n:=by simpa using hm.2
   omega) (hp.filter _)
  have h2:l.length≤(l.filter (·≠(n:Int))).length+1:=by
   clear h1 h;induction l with
   |nil=>simp
   |cons x l ih=>
    rw [List.pairwise_cons] at hp
    by_cases e:x=n
    ·have:l.filter (·≠(n:Int))=l:=List.filter_eq_self.2 fun y hy=>by
      have:=hp.1 y hy;simp only [ne_eq,decide_not,Bool.not_eq_true',decide_eq_false_iff_not];omega
     rw [List.filter_cons_of_neg (by simp [e]),this];simp
    ·have:=ih hp.2
     rw [List.filter_cons_of_pos (by simp [e])];simp only [List.length_cons];omega
  omega
theorem LQ{l:Lex}{s:Str}{c:aL}(h:u5 l s=some c):c∈l.classes.l∧c.name=s:=by
 unfold u5 at h;have h2:=List.find?_some h;exact ⟨List.mem_of_find?_eq_some h,eq_of_beq h2⟩
theorem Ph{n:Nat}{fs:List bp}(h:∀ (k:Nat) (x:bp),fs[k]?=some x→NY n fs k x=0):fs.length≤n∧∀ f∈fs,(0≤f.slot∧f.slot<n)∧(f.word=[]∨oP f.word=true):=by
 have key:∀ (k:Nat) (x:bp),fs[k]?=some x→((0≤x.slot∧x.slot<n)∧(x.word=[]∨oP x.word=true))∧∀ y∈fs.take k,y.slot≠x.slot:=fun k x hx=>by
  obtain ⟨a1,a2⟩:=ur (by decide) (h k x hx);obtain ⟨a3,a4⟩:=ur (by decide) a2;obtain ⟨a5,_⟩:=ur (by decide) a4;simp only [Bool.or_eq_false_iff,decide_eq_false_iff_not] at a1;refine ⟨⟨by omega, ?_⟩,fun y hy e => ?_⟩
  ·cases hw:(x.word == []) with
   |true=>exact .inl (eq_of_beq hw)
   |false=>rw [hw] at a5;exact .inr (by simpa using a5)
  ·rw [List.any_eq_false] at a3
   exact a3 y hy (by simp [e])
 refine ⟨?_,fun f hf=>by obtain ⟨k,hk⟩:=Hd hf;exact (key k f hk).1⟩
 have:=pig n (fs.map (·.slot)) (fun x hx=>by
  obtain ⟨f,hf,rfl⟩:=List.mem_map.1 hx;obtain ⟨k,hk⟩:=Hd hf;exact (key k f hk).1.1) (by
  rw [List.pairwise_map,List.pairwise_iff_getElem];intro i j hi hj hij;refine (key j fs[j] (List.getElem?_eq_getElem hj)).2 fs[i] ?_;rw [List.mem_take_iff_getElem];exact ⟨i,by omega,rfl⟩)
 rwa [List.length_map] at this
theorem U6{l:Lex}(h:qS l=0)(h2:uj l=0)(h3:yq l=0):l.entries.l.length≤128∧∀ x∈l.entries.l,EnB x∧oP x.lem=true∧ks x.cls=true∧jI l x.feats.l=0∧∀ f∈x.forms.l,f.word=[]∨oP f.word=true:=by
 obtain ⟨h1,h4⟩:=Hc (m:=128) h3;refine ⟨h1,fun x hx => ?_⟩;obtain ⟨k,hk⟩:=Hd hx;have:=h4 k x hk;unfold BP at this;cases hc:u5 l x.cls with
 |none=>
  rw [hc] at this;exact absurd (ur (by decide) this).2 (by decide)
 |some c=>
  rw [hc] at this;obtain ⟨hcm,hcn⟩:=LQ hc;obtain ⟨b1,b2,b3,b4⟩:=(Rh h h2).2 c hcm;obtain ⟨a1,a2⟩:=ur (by decide) this;obtain ⟨a3,a4⟩:=ur (by decide) a2
  have hb:jI l x.feats.l=0:=by
   cases hz:(jI l x.feats.l == 0) with
   |true=>exact eq_of_beq hz
   |false=>rw [hz] at a4;exact a4
  rw [hb] at a4;obtain ⟨a5,a6⟩:=ur (b:=c.slots.l.any _) (by decide) a4;obtain ⟨f1,f2⟩:=Ph (n:=c.slots.l.length) fun k x hx=>by have:=qW a6 k x hx;rwa [Nat.zero_add] at this
  have hl:oP x.lem=true:=by simpa using a1
  have hn:ks x.cls=true:=hcn ▸ b2;have hcl:=b1.2.1;refine ⟨⟨IP hl,(uu hn).1,(Rg h hb).1,by omega,fun f hf=>⟨by have:=(f2 f hf).1;omega, ?_⟩⟩,hl,hn,hb,fun f hf=>(f2 f hf).2⟩;rcases (f2 f hf).2 with e | e
  ·rw [e];simp
  ·exact IP e
theorem U7{l:Lex}(h:Ax l=0):l.spells.l.length≤16∧∀ x∈l.spells.l,SpB x∧iM CJ x.frm=true∧iM CJ x.to=true∧iM Eb x.left=true∧iM Eb x.right=true:=by
 obtain ⟨h1,h4⟩:=Hc (m:=16) h;refine ⟨h1,fun x hx => ?_⟩;obtain ⟨k,hk⟩:=Hd hx;obtain ⟨a1,_⟩:=ur (by decide) (h4 k x hk);simp only [Bool.or_eq_false_iff,Bool.not_eq_false'] at a1;obtain ⟨⟨⟨⟨c1,c2⟩,c3⟩,c4⟩,c5⟩:=a1;exact ⟨⟨by simpa using c1,qX c2,qX c3,qX c4,qX c5⟩,c2,c3,c4,c5⟩
theorem U8{l:Lex}(h:qS l=0)(h2:uj l=0)(h5:yr l=0):l.links.l.length≤8∧∀ x∈l.links.l,LiB x∧ks x.cls=true∧iM tA x.glue=true∧jI l x.feats.l=0:=by
 obtain ⟨h1,h4⟩:=Hc (m:=8) h5;refine ⟨h1,fun x hx => ?_⟩;obtain ⟨k,hk⟩:=Hd hx;have:=h4 k x hk;unfold GY at this;cases hc:u5 l x.cls with
 |none=>rw [hc] at this;exact absurd (show (5:Int)=0 from this) (by decide)
 |some c=>
  rw [hc] at this;obtain ⟨hcm,hcn⟩:=LQ hc;obtain ⟨_,b2,_⟩:=(Rh h h2).2 c hcm;obtain ⟨a1,a2⟩:=ur (by decide) this;have hg:iM tA x.glue=true:=by simpa using a1
  have hn:ks x.cls=true:=hcn ▸ b2;exact ⟨⟨(uu hn).1,qX hg,(Rg h a2).1⟩,hn,hg,a2⟩
theorem Ri{l:Lex}(h:mW l=0):TxB l:=by
 obtain ⟨h0,h1,h2,h3,h4,h5⟩:=IQ h;exact ⟨S5 h0,⟨(S6 h1).1,fun t ht=>((S6 h1).2 t ht).1⟩,⟨(Rh h1 h2).1,fun t ht=>((Rh h1 h2).2 t ht).1⟩,⟨(U6 h1 h2 h3).1,fun t ht=>((U6 h1 h2 h3).2 t ht).1⟩,⟨(U7 h4).1,fun t ht=>((U7 h4).2 t ht).1⟩,⟨(U8 h1 h2 h5).1,fun t ht=>((U8 h1 h2 h5).2 t ht).1⟩⟩
end
section
attribute [local congr] aw aW cM bt aA bf aM aC ao aq aN aO
variable{E:bc}(M:cE bT E)
def vM(l:Lex):Str:=sel (!(mW l == 0)) [] (sel (decide (65536<((mw l).length:Int))) [] (mw l))
def vN(l:Lex):Int:=sel (!(mW l == 0)) (mW l) (sel (decide (65536<((mw l).length:Int))) 3 0)
theorem TxB.tlen{l:Lex}(h:TxB l):(LP l.vowels).length≤300∧(gl uq l.traits.l).length≤8*1000∧(gl nH l.classes.l).length≤16*25000∧(gl qV l.entries.l).length≤128*25000∧(gl yt l.spells.l).length≤16*1000∧(gl AB l.links.l).length≤8*1000:=by
 have h0:(LP l.vowels).length≤300:=by
  have:=lL [G9,bI l.vowels] [];have:=qd l.vowels;have:=h.vow
  have:(jQ []).length=0:=rfl
  have:G9.length=6:=rfl
  unfold LP;simp only [List.length_cons,List.length_nil,jm] at *
  omega
 have h1:=qc (f:=uq) (B:=1000) (l:=l.traits.l) fun t ht=>(h.traits.2 t ht).len
 have h2:=qc (f:=nH) (B:=25000) (l:=l.classes.l) fun t ht=>(h.classes.2 t ht).len
 have h3:=qc (f:=qV) (B:=25000) (l:=l.entries.l) fun t ht=>(h.entries.2 t ht).len
 have h4:=qc (f:=yt) (B:=1000) (l:=l.spells.l) fun t ht=>(h.spells.2 t ht).len
 have h5:=qc (f:=AB) (B:=1000) (l:=l.links.l) fun t ht=>(h.links.2 t ht).len
 have:=h.traits.1;have:=h.classes.1;have:=h.entries.1;have:=h.spells.1;have:=h.links.1;exact ⟨h0,by omega,by omega,by omega,by omega,by omega⟩
theorem TxB.len{l:Lex}(h:TxB l):(mw l).length≤5000000:=by
 obtain ⟨h0,h1,h2,h3,h4,h5⟩:=h.tlen;simp only [mw,List.length_append];omega
theorem Hf(hN:gj E)(hE:lE E)(hC:vL E)(hX:kY M)(hP:w8 E){l:Lex}{n:Nat}(hl:l.ok n){H:List AObj}(hn:n≤H.length) :
  M.run nQ [.agg l.row] H=some (.ret (.tuple [.str (vM l),.int .u8 (vN l)]),H):=by
 have hck:=fun H (h:n≤H.length)=>DG M hN hE hl (H:=H) h
 have hc0:=hck (H++[AObj.cells l.row ah]) (by simp;omega);unfold vM vN;cases hv:(mW l == 0) with
 |false=>
  rw [aP M hP.morph_Print rfl (c:=jM) rfl,jM];simp (maxSteps:=3000000) (maxDischargeDepth:=6) +contextual -implicitDefEqProofs only [amC M,↓amD,Nat.reduceBEq,Nat.reduceAdd,env,ag,cD,amG,AV.cell,Nat.reduceMul,Nat.reduceLeDiff,jJ,hc0,hv,sel]
 |true=>
  have hv0:mW l=0:=eq_of_beq hv;have hT:=Ri hv0;obtain ⟨q0,q1,q2,q3,q4,q5⟩:=hT.tlen;have dsh:=fun H=>Az M hP l.vowels H
  have hA:(H++[AObj.cells l.row ah]).length=H.length+1:=by simp
  have b0:jR aD H.length (H.length+2) (H++[AObj.cells l.row ah,.tok 0 bM,.cells [.nilp,.slice (.own (H.length+1)) 1 []] aD]) []:=
   ⟨⟨_,_,by rw [hp_getk];rfl,.inl rfl,.inl (.inr ⟨H.length+1,by omega,rfl,by rw [hp_getk];rfl⟩)⟩,by decide⟩
  have g0:(H++[AObj.cells l.row ah,.tok 0 bM,.cells [.nilp,.slice (.own (H.length+1)) 1 []] aD])[H.length]?=some (.cells l.row ah):=by rw [eL];rfl
  have low0:∀ i,i<H.length→(H++[AObj.cells l.row ah,.tok 0 bM,.cells [.nilp,.slice (.own (H.length+1)) 1 []] aD])[i]?=H[i]? := fun i hi=>List.getElem?_append_left hi
  have len0:H.length≤(H++[AObj.cells l.row ah,.tok 0 bM,.cells [.nilp,.slice (.own (H.length+1)) 1 []] aD]).length:=by simp
  generalize hG0:H++[AObj.cells l.row ah,.tok 0 bM,.cells [.nilp,.slice (.own (H.length+1)) 1 []] aD]=G0 at *
  have nU:¬ isU (.cells l.row ah):=by rintro (⟨_,e⟩ | ⟨_,e⟩)<;>cases e
  obtain ⟨G1,r1,b1,t1⟩:=rZ M hC hX hP okW b0 len0 (tf:=.nil) (fs:=[]) (tw:=.full) (ws:=[G9,bI l.vowels]) (by simp) (by have:=qd l.vowels;have:=hT.vow;have:G9.length=6:=rfl;simp only [List.length_cons,List.length_nil,jm];omega) (by simp [jQ]);have r1:M.run bb [.ptr (H.length+2) 0,.slice .nil 2 [],.slice .full 1 [[.str [118,111,119,101,108,115]],[.str (bI l.vowels)]]] G0=some (.ret (.tuple []),G1):=r1
  have b1:jR aD H.length (H.length+2) G1 (LP l.vowels):=b1;have l1:=Nat.le_trans len0 t1.len;have e1:=t1.obj H.length _ g0 (by omega) nU;obtain ⟨G2,b2,t2,r2⟩:=pr0 M hC hX hP (p:=H.length) (tg:=l.traits.tag) ⟨by have:=hT.traits.1;omega,hT.traits.2⟩ H l.traits.l.length 0 _ G1 (by omega) b1 l1 (by have:=hT.traits.1;omega);have l2:=Nat.le_trans l1 t2.len;have e2:=t2.obj H.length _ e1 (by omega) nU;obtain ⟨G3,b3,t3,r3⟩:=pr2 M hC hX hP (p:=H.length) (tg:=l.classes.tag) hT.classes H l.classes.l.length 0 _ G2 (by omega) b2 l2 (by rw [List.drop_zero];simp only [List.length_append];have:=hT.classes.1;omega)
  have l3:=Nat.le_trans l2 t3.len;have e3:=t3.obj H.length _ e2 (by omega) nU;obtain ⟨G4,b4,t4,r4⟩:=pr4 M hC hX hP (p:=H.length) (tg:=l.entries.tag) hT.entries H l.entries.l.length 0 _ G3 (by omega) b3 l3 (by simp only [List.drop_zero,List.length_append];have:=hT.entries.1;omega);have l4:=Nat.le_trans l3 t4.len;have e4:=t4.obj H.length _ e3 (by omega) nU;obtain ⟨G5,b5,t5,r5⟩:=pr5 M hC hX hP (p:=H.length) (tg:=l.spells.tag) ⟨by have:=hT.spells.1;omega,hT.spells.2⟩ H l.spells.l.length 0 _ G4 (by omega) b4 l4 (by simp only [List.drop_zero,List.length_append];have:=hT.spells.1;omega)
  have l5:=Nat.le_trans l4 t5.len;have e5:=t5.obj H.length _ e4 (by omega) nU;obtain ⟨G6,b6,t6,r6⟩:=pr6 M hC hX hP (p:=H.length) (tg:=l.links.tag) ⟨by have:=hT.links.1;omega,hT.links.2⟩ H l.links.l.length 0 _ G5 (by omega) b5 l5 (by simp only [List.drop_zero,List.length_append];have:=hT.links.1;omega);have l6:=Nat.le_trans l5 t6.len
  have hw:LP l.vowels++gl uq (l.traits.l.drop 0)++gl nH (l.classes.l.drop 0)++gl qV (l.entries.l.drop 0)++gl yt (l.spells.l.drop 0)++gl AB (l.links.l.drop 0)=mw l:=by
   simp only [List.drop_zero,mw,List.append_assoc]
  rw [hw] at b6;have tt:=((((t1.trans t2).trans t3).trans t4).trans t5).trans t6;have low6:∀ i,i<H.length→G6[i]?=H[i]? := fun i hi=>(tt.low i hi (by omega)).trans (low0 i hi)
  have c1:=JX l6 low6;have c2:=G7 l6 low6;have hne:mw l≠[]:=by simp [mw,LP,qb,fw,G9]
  have hs:=LO M hC b6 hne (by have:=hT.len;omega);have hln:=S2 M hC b6;simp only [kv_cons,kv_nil,Int.ofNat_zero] at r2 r3 r4 r5 r6;have hG0':(H++[AObj.cells l.row ah])++[.tok 0 bM,.cells [.nilp,.slice (.own (H.length+1)) 1 []] aD]=G0:=by rw [List.append_assoc];exact hG0
  simp only [List.cons_append,List.nil_append,List.append_assoc] at hG0';cases hd:decide (65536<((mw l).length:Int)) with
  |true=>
   rw [aP M hP.morph_Print rfl (c:=jM) rfl,jM];simp (maxSteps:=3000000) (maxDischargeDepth:=6) +contextual -implicitDefEqProofs only [amC M,↓amD,Nat.reduceBEq,Nat.reduceAdd,env,ag,cD,amG,AV.cell,Nat.reduceMul,Nat.reduceLeDiff,jJ,qU,hc0,hv,hG0',hG0,hA,g0,(show H.length+1+1=H.length+2 from rfl),dsh,r1,r2,r3,r4,r5,r6,e1,e2,e3,e4,e5,hs,hln,c1,c2,hd,sel,rnc,List.set_cons_succ,List.set_cons_zero]
  |false=>
   rw [aP M hP.morph_Print rfl (c:=jM) rfl,jM];simp (maxSteps:=3000000) (maxDischargeDepth:=6) +contextual -implicitDefEqProofs only [amC M,↓amD,Nat.reduceBEq,Nat.reduceAdd,env,ag,cD,amG,AV.cell,Nat.reduceMul,Nat.reduceLeDiff,jJ,qU,hc0,hv,hG0',hG0,hA,g0,(show H.length+1+1=H.length+2 from rfl),dsh,r1,r2,r3,r4,r5,r6,e1,e2,e3,e4,e5,hs,hln,c1,c2,hd,sel,rnc,List.set_cons_succ,List.set_cons_zero]
end
section
attribute [local congr] aw aW cM bt aA bf aM aC ao aq aN aO
variable{E:bc}(M:cE bT E)
abbrev w64(n:Int):Int:=IntKind.i64.wrap n
theorem LR{H L:List AObj}{k k':IntKind}{a b:Int}{T T':TypeId}(L2:List AObj):dP (H++(.cells [.int k a] T::L)) (H++(.cells [.int k' b] T'::(L++L2))):=
 ⟨by simp,fun i x hi hx=>by
  rcases Nat.lt_trichotomy i H.length with h | h | h
  ·left;rw [List.getElem?_append_left h] at hx ⊢;exact hx
  ·subst h;rw [eL] at hx;right
   obtain rfl:_=x:=by simpa using hx
   intro c hc;simp only [List.mem_singleton] at hc;subst hc;exact wk_int _ _ _
  ·left
   obtain ⟨j,rfl⟩:∃ j,i=H.length+(j+1):=⟨i-H.length-1,by omega⟩
   rw [hp_getk] at hx ⊢;simp only [List.getElem?_cons_succ] at hx ⊢
   have:j<L.length:=by simp at hi;omega
   rwa [List.getElem?_append_left this] at hx⟩
theorem DH{H:List AObj}{k k':IntKind}{a b:Int}{T T':TypeId}(L2:List AObj):dP (H++[.cells [.int k a] T]) (H++(.cells [.int k' b] T'::L2)):=LR (L:=[]) L2
theorem Pj{H L:List AObj}{k k':IntKind}{a b:Int}{T T':TypeId}:dP (H++(.cells [.int k a] T::L)) (H++(.cells [.int k' b] T'::L)):=by
 have:=LR (H:=H) (L:=L) (k:=k) (k':=k') (a:=a) (b:=b) (T:=T) (T':=T') [];rwa [List.append_nil] at this
theorem U9(H L:List AObj)(y:AObj):(H++(y::L)).take (H.length+(L.length+1))=H++(y::L):=List.take_of_length_le (by simp)
theorem M4(H L:List AObj)(y:AObj):(H++(y::L)).take (H.length+1)=H++[y]:=by
 rw [List.take_append];simp;exact List.take_of_length_le (by omega)
def Rj(m:Int)(f:aJ):Int:=w64 (m+w64 (w64 (1+(f.name.length:Int))+(f.value.length:Int)))
def Hg(m:Int)(b:List aJ):Int:=w64 ((b.take 100).foldl Rj m+(b.length:Int))
theorem JY{n m:Nat}(h:m=min 100 n):(decide (m<n)&&decide ((m:Int)<100))=false:=by
 rw [Bool.eq_false_iff];simp;omega
theorem M5{i m n:Nat}(h:m=min 100 n)(hi:i<m):decide ((i:Int)<100)=true:=decide_eq_true (by omega)
theorem gr1{H H0:List AObj}{L:List AObj}{T:TypeId}{b Lf:List aJ}(hM:Lf.length=min 100 b.length)(hL:∀ k,k<Lf.length→b[k]?=Lf[k]?){tg:Tag}(k:List Fra):∀ (n i:Nat) (m:Int) (He:List AObj),i+n=Lf.length →
  M.go dQ H0 (.c ep :: .lp ⟨(some [0,1,3]),[],false⟩ ep He :: .blk 0 :: .c (.lv [0,1])::k) (kv [(0,.slice tg 2 (b.map aJ.row)),(1,.ptr H.length 0),(3,.int .i64 i)]) (H++(.cells [.int .i64 m] T::L)) =
   (M.go dQ H0 k (kv [(0,.slice tg 2 (b.map aJ.row)),(1,.ptr H.length 0)]) (H++(.cells [.int .i64 ((Lf.drop i).foldl Rj m)] T::L)))
 |0,i,m,He,h=>by
  have e:i=Lf.length:=by omega
  subst e;rw [au M ep.eq_1];simp (maxSteps:=3000000) (maxDischargeDepth:=6) +contextual -implicitDefEqProofs only [amC M,↓amD,Nat.reduceBEq,Nat.reduceAdd,env,ag,kb,Nat.lt_irrefl,List.drop_length,JY hM,List.foldl_nil]
 |n+1,i,m,He,h=>by
  have hi:i<Lf.length:=by omega
  have hx:Lf[i]?=some Lf[i]:=List.getElem?_eq_getElem hi;have hd:(Lf.drop i)=Lf[i]::Lf.drop (i+1):=List.drop_eq_getElem_cons hi;have hm:Lf[i]∈Lf:=List.getElem_mem hi;have ih:=fun m He=>gr1 (H:=H) (H0:=H0) (L:=L) (T:=T) (b:=b) (Lf:=Lf) (hM:=hM) (hL:=hL) (tg:=tg) k n (i+1) m He (by omega)
  simp only [kv_cons,kv_nil] at ih;have hib:i<b.length:=by omega
  have hxb:=(hL i hi).trans hx;rw [au M ep.eq_1];simp (maxSteps:=3000000) (maxDischargeDepth:=6) +contextual -implicitDefEqProofs only [amC M,↓amD,Nat.reduceBEq,Nat.reduceAdd,env,ag,kb,hx,hd,hi,ih,amG,AV.cell,hib,hxb,M5 hM hi,bG hib,zR,cY (n:=100) (show i<100 by omega) (by simp [bY]),List.foldl_cons,Rj]
theorem BR(hg:E.fn eV=some dQ){b:List aJ}{tg:Tag}(H L:List AObj)(m:Int)(T:TypeId) :
  M.run eV [.slice tg 2 (b.map aJ.row),.ptr H.length 0] (H++(.cells [.int .i64 m] T::L))=some (.ret (.tuple []),H++(.cells [.int .i64 (Hg m b)] T::L)):=by
 rw [aP M hg rfl (c:=ka) rfl,ka];have h1:=fun k He=>gr1 M (H:=H) (H0:=H++(.cells [.int .i64 m] T::L)) (L:=L) (T:=T) (b:=b) (Lf:=b.take 100) (by simp) (Hb b 100) (tg:=tg) k (b.take 100).length 0 m He (by omega)
 simp only [kv_cons,kv_nil,Int.ofNat_zero,List.drop_zero] at h1;simp (maxSteps:=3000000) (maxDischargeDepth:=6) +contextual -implicitDefEqProofs only [amC M,↓amD,Nat.reduceBEq,Nat.reduceAdd,env,ag,kb,amG,AV.cell,Nat.reduceMul,Nat.reduceLeDiff,h1,Pj,U9,wk_tuple,Hg,lr_row1,List.set_cons_zero]
end
section
attribute [local congr] aw aW cM bt aA bf aM aC ao aq aN aO
variable{E:bc}(M:cE bT E)
structure BS (E:bc):Prop where
 truchmanlaw02_Great_1:E.fn eV=some dQ
 truchmanlaw02_Great:E.fn iO=some aK
abbrev qe(m:Int):AObj:=.cells [.int .i64 m] ID
abbrev vO(n:Nat):AV:=.fn (.func eV) [] [.ptr n 0]
def Va(m:Int)(s:Str):Int:=w64 (m+w64 (1+(s.length:Int)))
def M6(m:Int)(t:aV):Int:=w64 ((t.values.l.take 100).foldl Va (w64 (m+w64 (1+(t.name.length:Int))))+(t.values.l.length:Int))
theorem gl0{H H0:List AObj}{l:Lex}{p:Nat}{T:TypeId}(hp:H[p]?=some (.cells l.row T)){i0:Nat}{t:aV}(ht:l.traits.l[i0]?=some t){Lf:List Str}(hM:Lf.length=min 100 t.values.l.length)(hL:∀ k,k<Lf.length→t.values.l[k]?=Lf[k]?)(k:List Fra):∀ (n i:Nat) (m:Int) (He:List AObj),i+n=Lf.length →
  M.go aK H0 (.c eY :: .lp ⟨(some [1,3,4,5,6]),[],false⟩ eY He :: .blk 2 :: .c (.lv [1,3,4,5])::k) (kv [(1,.ptr p 0),(3,.ptr H.length 0),(4,vO H.length),(5,.int .i64 i0),(6,.int .i64 i)]) (H++[qe m]) =
   (M.go aK H0 k (kv [(1,.ptr p 0),(3,.ptr H.length 0),(4,vO H.length),(5,.int .i64 i0)]) (H++[qe ((Lf.drop i).foldl Va m)]))
 |0,i,m,He,h=>by
  have e:i=Lf.length:=by omega
  subst e;rw [au M eY.eq_1];simp (maxSteps:=3000000) (maxDischargeDepth:=6) +contextual -implicitDefEqProofs only [amC M,↓amD,Nat.reduceBEq,Nat.reduceAdd,env,ag,aT,Nat.lt_irrefl,List.drop_length,JY hM,List.foldl_nil,cP hp,jJ,bG (List.getElem?_eq_some_iff.1 ht).1,ht,qM]
 |n+1,i,m,He,h=>by
  have hi:i<Lf.length:=by omega
  have hx:Lf[i]?=some Lf[i]:=List.getElem?_eq_getElem hi;have hd:(Lf.drop i)=Lf[i]::Lf.drop (i+1):=List.drop_eq_getElem_cons hi;have hm:Lf[i]∈Lf:=List.getElem_mem hi;have ih:=fun m He=>gl0 (H:=H) (H0:=H0) (l:=l) (p:=p) (T:=T) (hp:=hp) (i0:=i0) (t:=t) (ht:=ht) (Lf:=Lf) (hM:=hM) (hL:=hL) k n (i+1) m He (by omega)
  simp only [kv_cons,kv_nil] at ih;have hib:i<t.values.l.length:=by omega
  have hxb:=(hL i hi).trans hx;rw [au M eY.eq_1];simp (maxSteps:=3000000) (maxDischargeDepth:=6) +contextual -implicitDefEqProofs only [amC M,↓amD,Nat.reduceBEq,Nat.reduceAdd,env,ag,aT,hx,hd,hi,ih,amG,AV.cell,Nat.reduceMul,Nat.reduceLeDiff,cP hp,jJ,bG (List.getElem?_eq_some_iff.1 ht).1,ht,qM,gU,hib,hxb,M5 hM hi,bG hib,cY (n:=100) (show i<100 by omega) (by simp [bY]),List.foldl_cons,Va]
theorem gl1{H H0:List AObj}{l:Lex}{n0:Nat}(hl:l.ok n0){p:Nat}{T:TypeId}(hp:H[p]?=some (.cells l.row T))(k:List Fra):∀ (n i:Nat) (m:Int) (He:List AObj),i+n=(l.traits.l).length →
  M.go aK H0 (.c eZ :: .lp ⟨(some [1,3,4,5]),[],false⟩ eZ He :: .blk 0 :: .c (.lv [1,3,4])::k) (kv [(1,.ptr p 0),(3,.ptr H.length 0),(4,vO H.length),(5,.int .i64 i)]) (H++[qe m]) =
   (M.go aK H0 k (kv [(1,.ptr p 0),(3,.ptr H.length 0),(4,vO H.length)]) (H++[qe ((l.traits.l.drop i).foldl M6 m)]))
 |0,i,m,He,h=>by
  have e:i=(l.traits.l).length:=by omega
  subst e;rw [au M eZ.eq_1];simp (maxSteps:=3000000) (maxDischargeDepth:=6) +contextual -implicitDefEqProofs only [amC M,↓amD,Nat.reduceBEq,Nat.reduceAdd,env,ag,aT,Nat.lt_irrefl,List.drop_length,List.foldl_nil,cP hp,jJ]
 |n+1,i,m,He,h=>by
  have hi:i<(l.traits.l).length:=by omega
  have hx:(l.traits.l)[i]?=some (l.traits.l)[i]:=List.getElem?_eq_getElem hi;have hd:((l.traits.l).drop i)=(l.traits.l)[i]::(l.traits.l).drop (i+1):=List.drop_eq_getElem_cons hi;have hm:(l.traits.l)[i]∈(l.traits.l):=List.getElem_mem hi;have ih:=fun m He=>gl1 (H:=H) (H0:=H0) (l:=l) (n0:=n0) (hl:=hl) (p:=p) (T:=T) (hp:=hp) k n (i+1) m He (by omega)
  simp only [kv_cons,kv_nil] at ih;have h0:=fun m k He=>gl0 M (H0:=H0) hp (i0:=i) hx (Lf:=l.traits.l[i].values.l.take 100) (by simp) (Hb _ 100) k (l.traits.l[i].values.l.take 100).length 0 m He (by omega)
  simp only [kv_cons,kv_nil,Int.ofNat_zero,List.drop_zero] at h0;rw [au M eZ.eq_1];simp (maxSteps:=3000000) (maxDischargeDepth:=6) +contextual -implicitDefEqProofs only [amC M,↓amD,Nat.reduceBEq,Nat.reduceAdd,env,ag,aT,hx,hd,hi,ih,amG,AV.cell,Nat.reduceMul,Nat.reduceLeDiff,cP hp,jJ,bG hi,qM,h0,cY hi hl.traits.len,List.foldl_cons,M6]
def Rk(m:Int)(s:bF):Int:=Hg (w64 (m+w64 (w64 (1+(s.pre.length:Int))+(s.add.length:Int)))) s.feats.l
def Rl(c:aL):Bool:=decide ((12:Int)<(c.slots.l.length:Int))&&decide ((c.slots.l.length:Int)≤24)||decide ((60:Int)<(c.slots.l.length:Int))
def M7(m:Int)(c:aL):Int:=c.slots.l.foldl Rk (w64 (m+w64 (1+(c.name.length:Int))))
theorem gl2{H H0:List AObj}(hg:BS E){l:Lex}{n0:Nat}(hl:l.ok n0){p:Nat}{T:TypeId}(hp:H[p]?=some (.cells l.row T)){i0:Nat}{c:aL}(hci:l.classes.l[i0]?=some c)(k:List Fra):∀ (n i:Nat) (m:Int),i+n=(c.slots.l).length →
  M.go aK H0 (.c fb :: .lp ⟨(some [1,3,4,7,8]),[],true⟩ fb (H++[qe m]) :: .blk 6 :: .c (.lv [1,3,4,7])::k) (kv [(1,.ptr p 0),(3,.ptr H.length 0),(4,vO H.length),(7,.int .i64 i0),(8,.int .i64 i)]) (H++[qe m]) =
   (M.go aK H0 k (kv [(1,.ptr p 0),(3,.ptr H.length 0),(4,vO H.length),(7,.int .i64 i0)]) (H++[qe ((c.slots.l.drop i).foldl Rk m)]))
 |0,i,m,h=>by
  have e:i=(c.slots.l).length:=by omega
  subst e;rw [au M fb.eq_1];simp (maxSteps:=3000000) (maxDischargeDepth:=6) +contextual -implicitDefEqProofs only [amC M,↓amD,Nat.reduceBEq,Nat.reduceAdd,env,ag,aT,Nat.lt_irrefl,List.drop_length,List.foldl_nil,cP hp,jJ,bG (List.getElem?_eq_some_iff.1 hci).1,hci,mM]
 |n+1,i,m,h=>by
  have hi:i<(c.slots.l).length:=by omega
  have hx:(c.slots.l)[i]?=some (c.slots.l)[i]:=List.getElem?_eq_getElem hi;have hd:((c.slots.l).drop i)=(c.slots.l)[i]::(c.slots.l).drop (i+1):=List.drop_eq_getElem_cons hi;have hm:(c.slots.l)[i]∈(c.slots.l):=List.getElem_mem hi;have ih:=fun m=>gl2 (H:=H) (H0:=H0) (hg:=hg) (l:=l) (n0:=n0) (hl:=hl) (p:=p) (T:=T) (hp:=hp) (i0:=i0) (c:=c) (hci:=hci) k n (i+1) m (by omega)
  simp only [kv_cons,kv_nil] at ih;have hco:=hl.classes.all c (List.mem_of_getElem? hci);have hpl:=(List.getElem?_eq_some_iff.1 hp).1;have w1:Wk (H.length+1) (.ptr p 0) (.ptr p 0):=wk_ptr (by omega);have w2:Wk (H.length+1) (.ptr H.length 0) (.ptr H.length 0):=wk_ptr (by omega);have w3:Wk (H.length+1) (vO H.length) (vO H.length):=wk_fn trivial ⟨wk_ptr (by omega),trivial⟩;rw [au M fb.eq_1];simp (maxSteps:=3000000) (maxDischargeDepth:=6) +contextual -implicitDefEqProofs only [amC M,↓amD,Nat.reduceBEq,Nat.reduceAdd,env,ag,aT,hx,hd,hi,ih,amG,AV.cell,Nat.reduceMul,Nat.reduceLeDiff,cP hp,w1,w2,w3,DH,M4,jJ,bG (List.getElem?_eq_some_iff.1 hci).1,hci,mM,bG hi,Gi,BR M hg.truchmanlaw02_Great_1,cY hi hco.slots.len,List.foldl_cons,Rk]
theorem gl3{H H0:List AObj}(hg:BS E){l:Lex}{n0:Nat}(hl:l.ok n0){p:Nat}{T:TypeId}(hp:H[p]?=some (.cells l.row T))(hc:dP H0 H)(k:List Fra):∀ (n i:Nat) (m:Int),i+n=(l.classes.l).length →
  M.go aK H0 (.c fc :: .lp ⟨(some [1,3,4,7]),[],true⟩ fc (H++[qe m]) :: .blk 4 :: .c (.lv [1,3,4])::k) (kv [(1,.ptr p 0),(3,.ptr H.length 0),(4,vO H.length),(7,.int .i64 i)]) (H++[qe m]) =
   sel ((l.classes.l.drop i).any Rl) (some (.ret (.bool true),H.take H0.length)) (M.go aK H0 k (kv [(1,.ptr p 0),(3,.ptr H.length 0),(4,vO H.length)]) (H++[qe ((l.classes.l.drop i).foldl M7 m)]))
 |0,i,m,h=>by
  have e:i=(l.classes.l).length:=by omega
  subst e;rw [au M fc.eq_1];simp (maxSteps:=3000000) (maxDischargeDepth:=6) +contextual -implicitDefEqProofs only [amC M,↓amD,Nat.reduceBEq,Nat.reduceAdd,env,ag,aT,Nat.lt_irrefl,List.drop_length,List.foldl_nil,List.any_nil,cP hp,jJ]
 |n+1,i,m,h=>by
  have hi:i<(l.classes.l).length:=by omega
  have hx:(l.classes.l)[i]?=some (l.classes.l)[i]:=List.getElem?_eq_getElem hi;have hd:((l.classes.l).drop i)=(l.classes.l)[i]::(l.classes.l).drop (i+1):=List.drop_eq_getElem_cons hi;have hm:(l.classes.l)[i]∈(l.classes.l):=List.getElem_mem hi;have ih:=fun m=>gl3 (H:=H) (H0:=H0) (hg:=hg) (l:=l) (n0:=n0) (hl:=hl) (p:=p) (T:=T) (hp:=hp) hc k n (i+1) m (by omega)
  simp only [kv_cons,kv_nil] at ih;have hco:=hl.classes.all _ hm;have hpl:=(List.getElem?_eq_some_iff.1 hp).1;have w1:Wk (H.length+1) (.ptr p 0) (.ptr p 0):=wk_ptr (by omega);have w2:Wk (H.length+1) (.ptr H.length 0) (.ptr H.length 0):=wk_ptr (by omega);have w3:Wk (H.length+1) (vO H.length) (vO H.length):=wk_fn trivial ⟨wk_ptr (by omega),trivial⟩;have h0:=fun m k=>gl2 M (H0:=H0) hg hl hp (i0:=i) hx k l.classes.l[i].slots.l.length 0 m (by omega)
  simp only [kv_cons,kv_nil,Int.ofNat_zero,List.drop_zero] at h0;rw [au M fc.eq_1];simp (maxSteps:=3000000) (maxDischargeDepth:=6) +contextual -implicitDefEqProofs only [amC M,↓amD,Nat.reduceBEq,Nat.reduceAdd,env,ag,aT,hx,hd,hi,ih,amG,AV.cell,Nat.reduceMul,Nat.reduceLeDiff,cP hp,w1,w2,w3,DH,M4,jJ,bG hi,mM,h0,cY hi hl.classes.len,List.foldl_cons,List.any_cons,M7,Rl,hc];generalize (decide ((12:Int)<(l.classes.l[i].slots.l.length:Int))&&decide ((l.classes.l[i].slots.l.length:Int)≤24)||decide ((60:Int)<(l.classes.l[i].slots.l.length:Int)))=b
  cases b<;>simp only [slc,Bool.true_or,Bool.false_or]
end
section
attribute [local congr] aw aW cM bt aA bf aM aC ao aq aN aO
variable{E:bc}(M:cE bT E)
def irN(m:Int)(f:bp):Int:=w64 (m+(f.word.length:Int))
def M8(m:Int)(x:aI):Int:=(x.forms.l.take 100).foldl irN (Hg (w64 (m+w64 (w64 (w64 (1+(x.lem.length:Int))+(x.cls.length:Int))+(x.forms.l.length:Int)))) x.feats.l)
theorem gl4{H H0:List AObj}{x:aI}{T2:TypeId}{p i0:Nat}{Lf:List bp}(hM:Lf.length=min 100 x.forms.l.length)(hL:∀ k,k<Lf.length→x.forms.l[k]?=Lf[k]?)(k:List Fra):∀ (n i:Nat) (m:Int) (He:List AObj),i+n=Lf.length →
  M.go aK H0 (.c fe :: .lp ⟨(some [1,3,4,10,11,12]),[],false⟩ fe He :: .blk 10 :: .c (.lv [1,3,4,10])::k) (kv [(1,.ptr p 0),(3,.ptr H.length 0),(4,vO H.length),(10,.int .i64 i0),(11,.ptr (H.length+1) 0),(12,.int .i64 i)]) (H++[qe m,.cells x.row T2]) =
   (M.go aK H0 k (kv [(1,.ptr p 0),(3,.ptr H.length 0),(4,vO H.length),(10,.int .i64 i0)]) (H++[qe ((Lf.drop i).foldl irN m),.cells x.row T2]))
 |0,i,m,He,h=>by
  have e:i=Lf.length:=by omega
  subst e;rw [au M fe.eq_1];simp (maxSteps:=3000000) (maxDischargeDepth:=6) +contextual -implicitDefEqProofs only [amC M,↓amD,Nat.reduceBEq,Nat.reduceAdd,env,ag,aT,Nat.lt_irrefl,List.drop_length,JY hM,List.foldl_nil,sg]
 |n+1,i,m,He,h=>by
  have hi:i<Lf.length:=by omega
  have hx:Lf[i]?=some Lf[i]:=List.getElem?_eq_getElem hi;have hd:(Lf.drop i)=Lf[i]::Lf.drop (i+1):=List.drop_eq_getElem_cons hi;have hm:Lf[i]∈Lf:=List.getElem_mem hi;have ih:=fun m He=>gl4 (H:=H) (H0:=H0) (x:=x) (T2:=T2) (p:=p) (i0:=i0) (Lf:=Lf) (hM:=hM) (hL:=hL) k n (i+1) m He (by omega)
  simp only [kv_cons,kv_nil] at ih;have hib:i<x.forms.l.length:=by omega
  have hxb:=(hL i hi).trans hx;rw [au M fe.eq_1];simp (maxSteps:=3000000) (maxDischargeDepth:=6) +contextual -implicitDefEqProofs only [amC M,↓amD,Nat.reduceBEq,Nat.reduceAdd,env,ag,aT,hx,hd,hi,ih,amG,AV.cell,Nat.reduceMul,Nat.reduceLeDiff,sg,De,hib,hxb,M5 hM hi,bG hib,cY (n:=100) (show i<100 by omega) (by simp [bY]),List.foldl_cons,irN]
theorem gl5{H H0:List AObj}(hg:BS E){l:Lex}{n0:Nat}(hl:l.ok n0){p:Nat}{T:TypeId}(hp:H[p]?=some (.cells l.row T))(k:List Fra):∀ (n i:Nat) (m:Int),i+n=(l.entries.l).length →
  M.go aK H0 (.c fg :: .lp ⟨(some [1,3,4,10]),[],true⟩ fg (H++[qe m]) :: .blk 8 :: .c (.lv [1,3,4])::k) (kv [(1,.ptr p 0),(3,.ptr H.length 0),(4,vO H.length),(10,.int .i64 i)]) (H++[qe m]) =
   (M.go aK H0 k (kv [(1,.ptr p 0),(3,.ptr H.length 0),(4,vO H.length)]) (H++[qe ((l.entries.l.drop i).foldl M8 m)]))
 |0,i,m,h=>by
  have e:i=(l.entries.l).length:=by omega
  subst e;rw [au M fg.eq_1];simp (maxSteps:=3000000) (maxDischargeDepth:=6) +contextual -implicitDefEqProofs only [amC M,↓amD,Nat.reduceBEq,Nat.reduceAdd,env,ag,aT,Nat.lt_irrefl,List.drop_length,List.foldl_nil,cP hp,jJ]
 |n+1,i,m,h=>by
  have hi:i<(l.entries.l).length:=by omega
  have hx:(l.entries.l)[i]?=some (l.entries.l)[i]:=List.getElem?_eq_getElem hi;have hd:((l.entries.l).drop i)=(l.entries.l)[i]::(l.entries.l).drop (i+1):=List.drop_eq_getElem_cons hi;have hm:(l.entries.l)[i]∈(l.entries.l):=List.getElem_mem hi;have ih:=fun m=>gl5 (H:=H) (H0:=H0) (hg:=hg) (l:=l) (n0:=n0) (hl:=hl) (p:=p) (T:=T) (hp:=hp) k n (i+1) m (by omega)
  simp only [kv_cons,kv_nil] at ih;have hpl:=(List.getElem?_eq_some_iff.1 hp).1;have w1:Wk (H.length+1) (.ptr p 0) (.ptr p 0):=wk_ptr (by omega);have w2:Wk (H.length+1) (.ptr H.length 0) (.ptr H.length 0):=wk_ptr (by omega);have w3:Wk (H.length+1) (vO H.length) (vO H.length):=wk_fn trivial ⟨wk_ptr (by omega),trivial⟩;have h0:=fun m k He=>gl4 M (H:=H) (H0:=H0) (x:=l.entries.l[i]) (T2:=aS) (p:=p) (i0:=i) (Lf:=l.entries.l[i].forms.l.take 100) (by simp) (Hb _ 100) k (l.entries.l[i].forms.l.take 100).length 0 m He (by omega)
  simp only [kv_cons,kv_nil,Int.ofNat_zero,List.drop_zero] at h0;rw [au M fg.eq_1];simp (maxSteps:=3000000) (maxDischargeDepth:=6) +contextual -implicitDefEqProofs only [amC M,↓amD,Nat.reduceBEq,Nat.reduceAdd,env,ag,aT,hx,hd,hi,ih,amG,AV.cell,Nat.reduceMul,Nat.reduceLeDiff,cP hp,w1,w2,w3,DH,M4,jJ,bG hi,sg,h0,BR M hg.truchmanlaw02_Great_1,cY hi hl.entries.len,List.foldl_cons,M8]
def M9(m:Int)(x:bq):Int:=w64 (m+w64 (w64 (w64 ((x.frm.length:Int)+(x.to.length:Int))+(x.left.length:Int))+(x.right.length:Int)))
def Rm(m:Int)(x:cF):Int:=Hg (w64 (m+w64 ((x.cls.length:Int)+(x.glue.length:Int)))) x.feats.l
theorem gl6{H H0:List AObj}{l:Lex}{n0:Nat}(hl:l.ok n0){p:Nat}{T:TypeId}(hp:H[p]?=some (.cells l.row T))(k:List Fra):∀ (n i:Nat) (m:Int) (He:List AObj),i+n=(l.spells.l).length →
  M.go aK H0 (.c fh :: .lp ⟨(some [1,3,4,13]),[],false⟩ fh He :: .blk 12 :: .c (.lv [1,3,4])::k) (kv [(1,.ptr p 0),(3,.ptr H.length 0),(4,vO H.length),(13,.int .i64 i)]) (H++[qe m]) =
   (M.go aK H0 k (kv [(1,.ptr p 0),(3,.ptr H.length 0),(4,vO H.length)]) (H++[qe ((l.spells.l.drop i).foldl M9 m)]))
 |0,i,m,He,h=>by
  have e:i=(l.spells.l).length:=by omega
  subst e;rw [au M fh.eq_1];simp (maxSteps:=3000000) (maxDischargeDepth:=6) +contextual -implicitDefEqProofs only [amC M,↓amD,Nat.reduceBEq,Nat.reduceAdd,env,ag,aT,Nat.lt_irrefl,List.drop_length,List.foldl_nil,cP hp,jJ]
 |n+1,i,m,He,h=>by
  have hi:i<(l.spells.l).length:=by omega
  have hx:(l.spells.l)[i]?=some (l.spells.l)[i]:=List.getElem?_eq_getElem hi;have hd:((l.spells.l).drop i)=(l.spells.l)[i]::(l.spells.l).drop (i+1):=List.drop_eq_getElem_cons hi;have hm:(l.spells.l)[i]∈(l.spells.l):=List.getElem_mem hi;have ih:=fun m He=>gl6 (H:=H) (H0:=H0) (l:=l) (n0:=n0) (hl:=hl) (p:=p) (T:=T) (hp:=hp) k n (i+1) m He (by omega)
  simp only [kv_cons,kv_nil] at ih;rw [au M fh.eq_1];simp (maxSteps:=3000000) (maxDischargeDepth:=6) +contextual -implicitDefEqProofs only [amC M,↓amD,Nat.reduceBEq,Nat.reduceAdd,env,ag,aT,hx,hd,hi,ih,amG,AV.cell,Nat.reduceMul,Nat.reduceLeDiff,cP hp,jJ,bG hi,Gj,cY hi hl.spells.len,List.foldl_cons,M9]
theorem gl7{H H0:List AObj}(hg:BS E){l:Lex}{n0:Nat}(hl:l.ok n0){p:Nat}{T:TypeId}(hp:H[p]?=some (.cells l.row T))(k:List Fra):∀ (n i:Nat) (m:Int) (He:List AObj),i+n=(l.links.l).length →
  M.go aK H0 (.c fi :: .lp ⟨(some [1,3,4,14]),[],false⟩ fi He :: .blk 14 :: .c (.lv [3])::k) (kv [(1,.ptr p 0),(3,.ptr H.length 0),(4,vO H.length),(14,.int .i64 i)]) (H++[qe m]) =
   (M.go aK H0 k (kv [(3,.ptr H.length 0)]) (H++[qe ((l.links.l.drop i).foldl Rm m)]))
 |0,i,m,He,h=>by
  have e:i=(l.links.l).length:=by omega
  subst e;rw [au M fi.eq_1];simp (maxSteps:=3000000) (maxDischargeDepth:=6) +contextual -implicitDefEqProofs only [amC M,↓amD,Nat.reduceBEq,Nat.reduceAdd,env,ag,aT,Nat.lt_irrefl,List.drop_length,List.foldl_nil,cP hp,jJ]
 |n+1,i,m,He,h=>by
  have hi:i<(l.links.l).length:=by omega
  have hx:(l.links.l)[i]?=some (l.links.l)[i]:=List.getElem?_eq_getElem hi;have hd:((l.links.l).drop i)=(l.links.l)[i]::(l.links.l).drop (i+1):=List.drop_eq_getElem_cons hi;have hm:(l.links.l)[i]∈(l.links.l):=List.getElem_mem hi;have ih:=fun m He=>gl7 (H:=H) (H0:=H0) (hg:=hg) (l:=l) (n0:=n0) (hl:=hl) (p:=p) (T:=T) (hp:=hp) k n (i+1) m He (by omega)
  simp only [kv_cons,kv_nil] at ih;rw [au M fi.eq_1];simp (maxSteps:=3000000) (maxDischargeDepth:=6) +contextual -implicitDefEqProofs only [amC M,↓amD,Nat.reduceBEq,Nat.reduceAdd,env,ag,aT,hx,hd,hi,ih,amG,AV.cell,Nat.reduceMul,Nat.reduceLeDiff,cP hp,jJ,bG hi,IB,BR M hg.truchmanlaw02_Great_1,cY hi hl.links.len,List.foldl_cons,Rm]
def Na(l:Lex):Bool:=
 decide ((60:Int)<(l.entries.l.length:Int))&&decide ((l.entries.l.length:Int)≤128)||decide ((200:Int)<(l.entries.l.length:Int))||decide ((40:Int)<(l.traits.l.length:Int))||decide ((40:Int)<(l.classes.l.length:Int))||decide ((40:Int)<(l.spells.l.length:Int))||decide ((40:Int)<(l.links.l.length:Int)) ||
  (l.classes.l.any Rl||decide (6000<l.links.l.foldl Rm (l.spells.l.foldl M9 (l.entries.l.foldl M8 (l.classes.l.foldl M7 (l.traits.l.foldl M6 (l.vowels.length:Int)))))))
theorem Pk(hg:BS E){l:Lex}{n:Nat}(hl:l.ok n)(H:List AObj):M.run iO [.agg l.row] H=some (.ret (.bool (Na l)),H):=by
 rw [aP M hg.truchmanlaw02_Great rfl (c:=lQ) rfl,lQ];have hp:(H++[AObj.cells l.row ah])[H.length]?=some (.cells l.row ah):=by rw [eL];rfl
 have h1:=fun m k He=>gl1 M (H0:=H) hl hp k l.traits.l.length 0 m He (by omega)
 have h3:=fun m k=>gl3 M (H0:=H) hg hl hp (cut_app H _) k l.classes.l.length 0 m (by omega)
 have h5:=fun m k=>gl5 M (H0:=H) hg hl hp k l.entries.l.length 0 m (by omega)
 have h6:=fun m k He=>gl6 M (H0:=H) hl hp k l.spells.l.length 0 m He (by omega)
 have h7:=fun m k He=>gl7 M (H0:=H) hg hl hp k l.links.l.length 0 m He (by omega)
 simp only [kv_cons,kv_nil,Int.ofNat_zero,List.drop_zero,lo_app3,NO,lo_app0,lo_len,lo_len1,lo_len0,Nat.zero_add,hp_take] at h1 h3 h5 h6 h7;simp (maxSteps:=3000000) (maxDischargeDepth:=6) +contextual -implicitDefEqProofs only [amC M,↓amD,Nat.reduceBEq,Nat.reduceAdd,env,ag,aT,amG,AV.cell,Nat.reduceMul,Nat.reduceLeDiff,h1,h3,h5,h6,h7,jJ,Na,Bool.or_assoc]
end
end Go.Am
