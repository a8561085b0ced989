import Derived.Test.YtaigoffbhbpplaaGreatDoorA7
/-
  Part 8 of the tool: an abstract machine over the model, proved sound, and what it says of the functions that the law reaches. Condition: none but those that each theorem names.
-/
set_option linter.unusedVariables false
set_option linter.unusedSimpArgs false
set_option maxRecDepth 100000
set_option maxHeartbeats 4000000
namespace Go.Am
open Go.RowKit
section
attribute [local congr] al br aJ ao aH aA aq ah aj aC aD
variable{E:aX}(M:bR bN E)
theorem Oh{g g':Nat→Option (List (List AV)×List Nat)}(h:∀ k r,g k=some r→g' k=some r):∀ (n:Nat) (r:List (List AV)×List Nat),Bm g n=some r→Bm g' n=some r
 |0,_,e=>e
 |n+1,r,e=>by
  rw [Bm] at e ⊢;cases h1:g (25-n) with
  |none=>rw [h1] at e;cases e
  |some x=>
   rw [h1] at e;rw [h _ _ h1];cases h2:Bm g n with
   |none=>rw [h2] at e;cases e
   |some y=>
    rw [h2] at e;rw [Oh h n y h2];exact e
theorem KT{G:List AObj}(X:List AObj):∀ (d q:Nat) (p:Str) (r:List (List AV)×List Nat),vM G d q p=some r→vM (G++X) d q p=some r
 |0,_,_,_,e=>by cases e
 |d+1,q,p,r,e=>by
  rw [vM] at e ⊢
  by_cases hq:q<G.length
  ·rw [ZE hq]
   cases h1:DJ G[q]? with
   |none=>rw [h1] at e;cases e
   |some y=>
    obtain ⟨cs,m⟩:=y;rw [h1] at e;simp only at e ⊢;cases h2:Bm (fun k=>LL (fun q'=>vM G d q' (p++[UInt8.ofNat (97+k)])) cs[k]?) 26 with
    |none=>rw [h2] at e;cases e
    |some z=>
     rw [h2] at e;rw [Oh (g':=fun k=>LL (fun q'=>vM (G++X) d q' (p++[UInt8.ofNat (97+k)])) cs[k]?) (fun k r hr => ?_) 26 z h2]
     ·exact e
     ·unfold LL at hr ⊢
      split at hr
      ·exact hr
      ·exact KT X d _ _ _ hr
      ·cases hr
  ·rw [List.getElem?_eq_none (by omega)] at e
   cases e
theorem Jf:∀ (a b:List Str) (st:List (Str×Nat)),uD (a++b) st=uD b (uD a st)
 |[],_,_=>rfl
 |_::a,b,_=>Jf a b _
theorem KU:∀ (fs:List (List Str)) (st:List (Str×Nat)),fs.foldl (fun st ws=>uD ws st) st=uD fs.flatten st
 |[],_=>rfl
 |ws::fs,st=>by rw [List.foldl_cons,KU fs,Z1,Jf]
theorem Fv(l:Lex)(x:ak)(e:Nat):∀ (t:List aL) (i:Nat) (st:List (Str×Nat)),uD (Da l x i t) st=JV ((zb l x e i t).map dJ.w) st
 |[],_,_=>rfl
 |s::t,i,st=>by
  rw [Da,zb,uD];cases hw:vH l x s i == [] with
  |true=>exact Fv l x e t (i+1) st
  |false=>exact Fv l x e t (i+1) _
theorem UC(a b:List Str)(st:List (Str×Nat)):JV (a++b) st=JV b (JV a st):=List.foldl_append ..
theorem KV(l:Lex):∀ (t:List ak) (e:Nat) (st:List (Str×Nat)),uD (yd l t).flatten st=JV ((AN l e t).map dJ.w) st
 |[],_,_=>rfl
 |x::t,e,st=>by
  rw [yd,Z1,Jf,Fv l x e,AN,List.map_append,UC,KV l t (e+1)]<;>cases rV l x.cls<;>rfl
theorem UD(l:Lex):(yd l l.entries.l).foldl (fun st ws=>uD ws st) []=JV ((BO l).map dJ.w) []:=by
 rw [KU];exact KV l l.entries.l 0 []
theorem Oi:∀ (ws:List Str) (B:Nat) (st:List (Str×Nat)),Few B st→Few (B+ws.length) (JV ws st)
 |[],_,_,h=>h
 |w::ws,B,st,h=>BV (Oi ws (B+1) _ (QO h w)) (by simp;omega)
theorem Oj{l:Lex}(hk:c7 l=0):∀ t:List ak,(∀ x∈t,∃ c,vg l x c)→∀ ws∈yd l t,ws.length≤50
 |[],_,ws,h=>by cases h
 |x::t,ht,ws,h=>by
  rw [yd] at h;obtain ⟨c,hc⟩:=ht x (List.mem_cons_self ..);rcases ZY.1 h with rfl | h
  ·rw [hc.cls,NY]
   have:=za hk hc;show c.slots.l.length≤50;omega
  ·exact Oj hk t (fun y hy=>ht y (List.mem_cons_of_mem _ hy)) ws h
theorem Ol(b:Bool):req .bool (.bool b) (.bool b)=some true:=by cases b<;>rfl
def Ya(x:Str×Nat):List AV:=[.int .i64 (x.2:Int)]
def JW(w:Str)(o:Option (Str×Nat))(l:List (Str×Nat)):Option (Str×Nat):=match o with
 |some x=>some x
 |none=>l.find? fun x=>Op.bytesLess w x.1
def Ml(o:Option (Str×Nat)):Str:=match o with
 |some x=>x.1
 |none=>[]
theorem PP{st:List (Str×Nat)}(hl:st.length≤10000){w:Str}{a5:AV}{G H0:List AObj}(k:List Fra):∀ (n i:Nat) (tw:List (Str×Nat)) (o:Option (Str×Nat)) (He:List AObj),i+n=st.length→tw.length+n≤10000 →
  M.go fc H0 (.c bC :: .lp ⟨(some [1,5,7,8,9,10,11,12]),[(9,1,aE)],false⟩ bC He :: .blk 0 :: .c (.lv [1,5,7,9,10,11])::k) (kv [(1,.str w),(5,a5),(7,.slice .any 1 (st.map rowS)),(8,.slice .any 1 (st.map Ya)),(9,.slice (.own G.length) 1 (tw.map rowS)),(10,.str (Ml o)),(11,.bool o.isSome),(12,.int .i64 i)]) (G++[.tok (tw.length*1) aE]) =
   M.go fc H0 k (kv [(1,.str w),(5,a5),(7,.slice .any 1 (st.map rowS)),(9,.slice (.own G.length) 1 ((tw++(st.drop i).filter fun x=>decide (1<x.2)).map rowS)),(10,.str (Ml (JW w o (st.drop i)))),(11,.bool (JW w o (st.drop i)).isSome)])
    (G++[.tok ((tw++(st.drop i).filter fun x=>decide (1<x.2)).length*1) aE])
 |0,i,tw,o,He,h,ht=>by
  have e:i=st.length:=by omega
  subst e;have e2:JW w o []=o:=by cases o<;>rfl
  rw [List.drop_length,List.filter_nil,Z6,e2];rw [ag M bC.eq_1];simp (maxSteps:=3000000) (maxDischargeDepth:=6) +contextual -implicitDefEqProofs only [amC M,↓amD,Nat.reduceBEq,Nat.reduceAdd,env,ab,bg,Nat.lt_irrefl]
 |n+1,i,tw,o,He,h,ht=>by
  have hi:i<st.length:=by omega
  have hx:st[i]?=some st[i]:=ZC hi;have hd:st.drop i=st[i]::st.drop (i+1):=ZD hi;rw [hd,List.filter_cons];generalize st[i]=x at hx;have hws:=aZ hi (show st.length≤aQ by simp only [aQ];omega);have ap:=HV (row:=rowS) (l:=tw) (x:=x) (r:=[.str x.1]) (sz:=1) (bytes:=16) (e:=aE) G rfl rfl rfl (by omega) (by omega);have rS:rowS x=[.str x.1]:=rfl;have rM:Ya x=[.int .i64 (x.2:Int)]:=rfl;cases hc:decide (1<x.2) with
  |false=>
   have hc2:decide ((1:Int)<(x.2:Int))=false:=by
    have:=of_decide_eq_false hc;exact decide_eq_false (by omega)
   cases o with
   |some y=>
    have ih:=fun He=>PP hl (w:=w) (a5:=a5) (G:=G) (H0:=H0) k n (i+1) tw (some y) He (by omega) (by omega)
    simp only [JW,Ml,Option.isSome,Bool.false_eq_true,if_false,kv_cons,kv_nil] at ih ⊢;rw [ag M bC.eq_1];simp (maxSteps:=3000000) (maxDischargeDepth:=6) +contextual -implicitDefEqProofs only [amC M,↓amD,Nat.reduceBEq,Nat.reduceAdd,env,ab,bg,amG,AV.cell,Nat.reduceMul,Nat.reduceLeDiff,hi,hx,aF hi,rS,rM,hc2,ih,hws]
   |none=>
    cases hb:Op.bytesLess w x.1 with
    |true=>
     have ih:=fun He=>PP hl (w:=w) (a5:=a5) (G:=G) (H0:=H0) k n (i+1) tw (some x) He (by omega) (by omega)
     simp only [JW,Ml,Option.isSome,Bool.false_eq_true,if_false,kv_cons,kv_nil,List.find?_cons,hb] at ih ⊢;rw [ag M bC.eq_1];simp (maxSteps:=3000000) (maxDischargeDepth:=6) +contextual -implicitDefEqProofs only [amC M,↓amD,Nat.reduceBEq,Nat.reduceAdd,env,ab,bg,amG,AV.cell,Nat.reduceMul,Nat.reduceLeDiff,hi,hx,aF hi,rS,rM,hc2,KR,hb,ih,hws]
    |false=>
     have ih:=fun He=>PP hl (w:=w) (a5:=a5) (G:=G) (H0:=H0) k n (i+1) tw none He (by omega) (by omega)
     simp only [JW,Ml,Option.isSome,Bool.false_eq_true,if_false,kv_cons,kv_nil,List.find?_cons,hb] at ih ⊢;rw [ag M bC.eq_1];simp (maxSteps:=3000000) (maxDischargeDepth:=6) +contextual -implicitDefEqProofs only [amC M,↓amD,Nat.reduceBEq,Nat.reduceAdd,env,ab,bg,amG,AV.cell,Nat.reduceMul,Nat.reduceLeDiff,hi,hx,aF hi,rS,rM,hc2,KR,hb,ih,hws]
  |true=>
   have hc2:decide ((1:Int)<(x.2:Int))=true:=by
    have:=of_decide_eq_true hc;exact decide_eq_true (by omega)
   rw [if_pos rfl];cases o with
   |some y=>
    have ih:=fun He=>PP hl (w:=w) (a5:=a5) (G:=G) (H0:=H0) k n (i+1) (tw++[x]) (some y) He (by omega) (by simp;omega)
    simp only [JW,Ml,Option.isSome,kv_cons,kv_nil,List.append_assoc,List.cons_append,List.nil_append] at ih ⊢;rw [ag M bC.eq_1];simp (maxSteps:=3000000) (maxDischargeDepth:=6) +contextual -implicitDefEqProofs only [amC M,↓amD,Nat.reduceBEq,Nat.reduceAdd,env,ab,bg,amG,AV.cell,Nat.reduceMul,Nat.reduceLeDiff,hi,hx,aF hi,rS,rM,hc2,ap,ih,hws]
   |none=>
    cases hb:Op.bytesLess w x.1 with
    |true=>
     have ih:=fun He=>PP hl (w:=w) (a5:=a5) (G:=G) (H0:=H0) k n (i+1) (tw++[x]) (some x) He (by omega) (by simp;omega)
     simp only [JW,Ml,Option.isSome,kv_cons,kv_nil,List.find?_cons,hb,List.append_assoc,List.cons_append,List.nil_append] at ih ⊢;rw [ag M bC.eq_1];simp (maxSteps:=3000000) (maxDischargeDepth:=6) +contextual -implicitDefEqProofs only [amC M,↓amD,Nat.reduceBEq,Nat.reduceAdd,env,ab,bg,amG,AV.cell,Nat.reduceMul,Nat.reduceLeDiff,hi,hx,aF hi,rS,rM,hc2,KR,hb,ap,ih,hws]
    |false=>
     have ih:=fun He=>PP hl (w:=w) (a5:=a5) (G:=G) (H0:=H0) k n (i+1) (tw++[x]) none He (by omega) (by simp;omega)
     simp only [JW,Ml,Option.isSome,kv_cons,kv_nil,List.find?_cons,hb,List.append_assoc,List.cons_append,List.nil_append] at ih ⊢;rw [ag M bC.eq_1];simp (maxSteps:=3000000) (maxDischargeDepth:=6) +contextual -implicitDefEqProofs only [amC M,↓amD,Nat.reduceBEq,Nat.reduceAdd,env,ab,bg,amG,AV.cell,Nat.reduceMul,Nat.reduceLeDiff,hi,hx,aF hi,rS,rM,hc2,KR,hb,ap,ih,hws]
theorem Jg(hN:bu E)(hW:WdE M)(hE:mU E)(hg:C9 E)(hS:SpE E)(hX:sM M)(hY:GC M)(hB:s6 E)(hF:ui E)(hA:V0 E)
  (hR:V4 E) (hE2:uB E) (hQ:Cn E) (hO:XV E) (hZ:PN E) (h:E.fn lA=some fc)
  {l l':Lex} (hl:l.ok 0) (hl':l'.ok 0) (hkk:c7 l=0→c7 l'=0) {w:Str} (hw:w.length≤aQ) (hsh:BO l'=BO l) (hown:L0 l=false→c7 l=0→∀ H,M.run fp [.agg l.row] H=some (.ret (.agg l'.row),H)) {H:List AObj} (hlv:∀ H,M.run er [] H=some (.ret (.bool true),H)) :
  M.run lA [.agg l.row,.str w] H=some (.ret (.bool true),H):=by
 rw [aN M h rfl (c:=lC) rfl,lC];have c1:=fun H=>Pq M hN hE2 hl (Nat.zero_le (List.length (α:=AObj) H))
 cases hgr:L0 l with
 |true=>
  simp (maxSteps:=3000000) (maxDischargeDepth:=6) +contextual -implicitDefEqProofs only [amC M,↓amD,Nat.reduceBEq,Nat.reduceAdd,env,ab,bg,amG,AV.cell,Nat.reduceMul,Nat.reduceLeDiff,hlv,wg M hg hl,hgr,Bool.true_or,Nat.zero_le,bH,cut_app]
 |false=>
 cases hk:c7 l == 0 with
 |false=>
  cases hwl:decide ((1000:Int)<(w.length:Int)) with
  |true=>simp (maxSteps:=3000000) (maxDischargeDepth:=6) +contextual -implicitDefEqProofs only [amC M,↓amD,Nat.reduceBEq,Nat.reduceAdd,env,ab,bg,amG,AV.cell,Nat.reduceMul,Nat.reduceLeDiff,hlv,wg M hg hl,hgr,hwl,c1,hk,bne,Nat.zero_le,bH,cut_app]
  |false=>simp (maxSteps:=3000000) (maxDischargeDepth:=6) +contextual -implicitDefEqProofs only [amC M,↓amD,Nat.reduceBEq,Nat.reduceAdd,env,ab,bg,amG,AV.cell,Nat.reduceMul,Nat.reduceLeDiff,hlv,wg M hg hl,hgr,hwl,c1,hk,bne,Nat.zero_le,bH,cut_app]
 |true=>
  have hk0:=eq_of_beq hk;have hk2:=hkk hk0;have hown:=hown hgr hk0;cases hwl:decide ((1000:Int)<(w.length:Int)) with
  |true=>simp (maxSteps:=3000000) (maxDischargeDepth:=6) +contextual -implicitDefEqProofs only [amC M,↓amD,Nat.reduceBEq,Nat.reduceAdd,env,ab,bg,amG,AV.cell,Nat.reduceMul,Nat.reduceLeDiff,hlv,wg M hg hl,hgr,hwl,Nat.zero_le,bH,cut_app]
  |false=>
  obtain ⟨L,r,nd,d1,hget,htr,hnd⟩:=Ux M hN hW hE hS hX hY hB hF hA hO hl hl' hk0 hk2 hown (H++[.cells l.row ae]);have hcut:b4 H (H++[AObj.cells l.row ae]++L):=by rw [ZI];exact cut_app _ _
  have htk:(H++[AObj.cells l.row ae]++L).take H.length=H:=by rw [ZI,List.take_left]
  have hG0:(H++[AObj.cells l.row ae]++L)[H.length]?=some (.cells l.row ae):=by rw [List.append_assoc,List.getElem?_append_right (Nat.le_refl _)];simp
  generalize H++[AObj.cells l.row ae]++L=G at d1 hget htr hcut htk hG0;generalize (H++[AObj.cells l.row ae]).length+2=a at d1 hget;generalize (H++[AObj.cells l.row ae]).length=b at htr;rw [hsh] at htr;have hwk:=Sd (d:=30) htr.ok hnd (by omega);have hcl:=Od (BO l) Uw;have hst:=Sc hwk hcl;have hsl:=N0 hk0;have hfew:=Oi ((BO l).map dJ.w) 0 [] ⟨ZO _,fun _ h=>by cases h⟩;rw [ZL] at hfew;have hrw:=fun H=>PO M hN hR hE2 hQ hF hZ hl hk0 (by rw [N2];have:=D9 hk0;omega) (Oj hk0 _ (Ma hk0)) H
  simp only [UD,rZ,List.map_map] at hrw
  obtain ⟨L2,hwa,hL2⟩:=Oc htr (N:=G.length) (fun p q hq=>by
   obtain ⟨_,cs,h2,_⟩:=htr.leaf p q hq;exact (List.getElem?_eq_some_iff.1 h2).1) 30 [] r hnd (by simp)
  rw [hst] at hwa;have hwX:∀ X,vM (G++X) 30 r []=some ((JV ((BO l).map dJ.w) []).map zk,L2):=fun X=>KT X _ _ _ _ hwa
  generalize JV ((BO l).map dJ.w) []=st at hwX hfew hrw hwa;have hstl:st.length≤10000:=by have:=hfew.1;omega
  have hga:∀ X,(G++X)[a]?=some (.cells (l'.row++[.ptr r 0]) gX):=fun X=>by rw [ZE (ZB.1 hget).1];exact hget
  have aw:=fun X=>Oe M hZ (H:=G++X) (row:=l'.row) rfl (hga X) (fun Y=>by rw [List.append_assoc];exact hwX _) (fun id hid=>by have:=hL2 id hid;simp;omega) hstl
  have aa:=fun X=>GJ M hZ (H:=G++X) (row:=l'.row) rfl (hga X) (fun Y=>by rw [List.append_assoc];exact hwX _) (fun id hid=>by have:=hL2 id hid;simp;omega) hstl
  have af:=fun X=>Og M hZ (H:=G++X) (row:=l'.row) rfl (hga X) (fun Y=>by rw [List.append_assoc];exact hwX _) (fun id hid=>by have:=hL2 id hid;simp;omega) w
  have s1:∀ (m:List (Str×Nat)),m.length≤10000→∀ (ta tb:Tag) H,M.run eB [.slice ta 1 (m.map rowS),.slice tb 1 (m.map rowS)] H=some (.ret (.bool true),H):=fun m hm ta tb H=>by
   have:=GD M hF (l:=m.map Prod.fst) (ta:=ta) (tb:=tb) (by simp only [List.length_map,aQ];omega) H;rw [List.map_map] at this;exact this
  have hlw:=fun k He=>PP M hstl (w:=w) (a5:=.ptr a 0) (G:=G) (H0:=H) k st.length 0 [] none He (by omega) (by simpa using hstl)
  have hfl:(st.filter fun x=>decide (1<x.2)).length≤10000:=ZU (List.length_filter_le ..) hstl;have s2:=s1 _ hfl;have s1:=s1 st hstl;have hfo:JW w none st=st.find? fun x=>Op.bytesLess w x.1:=rfl
  rw [List.drop_zero,Z7,hfo] at hlw;change ∀ X,M.run kJ [.ptr a 0] (G++X)=some (.ret (.slice .any 1 (st.map rowS)),G++X) at aw;change ∀ X,M.run iO [.ptr a 0] (G++X)=some (.ret (.slice .any 1 ((st.filter fun x=>decide (1<x.2)).map rowS)),G++X) at aa;change ∀ H,M.run lL [.agg l.row] H=some (.ret (.tuple [.slice .any 1 (st.map rowS),.slice .any 1 (st.map Ya)]),H) at hrw;generalize (st.filter fun x=>decide (1<x.2))=tw at aa s2 hlw
  generalize (st.find? fun x=>Op.bytesLess w x.1)=o at af hlw;rw [hk0] at c1;simp only [Ml,List.map_nil,List.length_nil,Nat.zero_mul,Option.isSome,Int.ofNat_zero,kv_cons,kv_nil] at hlw;cases o with
  |none=>
   simp only [Uz] at af;simp (maxSteps:=3000000) (maxDischargeDepth:=6) +contextual -implicitDefEqProofs only [amC M,↓amD,Nat.reduceBEq,Nat.reduceAdd,env,ab,bg,amG,AV.cell,Nat.reduceMul,Nat.reduceLeDiff,hlv,wg M hg hl,hgr,hwl,c1,d1,hG0,hrw,hlw,af,aw,aa,s1,s2,hcut,htk,bne,beq_self_eq_true,Ol,Nat.zero_le,bH,cut_app]
  |some x=>
   simp only [Uz] at af;simp (maxSteps:=3000000) (maxDischargeDepth:=6) +contextual -implicitDefEqProofs only [amC M,↓amD,Nat.reduceBEq,Nat.reduceAdd,env,ab,bg,amG,AV.cell,Nat.reduceMul,Nat.reduceLeDiff,hlv,wg M hg hl,hgr,hwl,c1,d1,hG0,hrw,hlw,af,aw,aa,s1,s2,hcut,htk,bne,beq_self_eq_true,Ol,Nat.zero_le,bH,cut_app]
end
section
open Go.ChangeShapes Go.WideShapes
structure qt (P:Program):Prop where
 u_string:P.underlying aE=some .string
 c_string:P.cellsOf aE=1
 f_Feat:fieldsOf P bQ=some [(0,aE),(1,aE)]
 c_Feat:P.cellsOf bQ=2
 u_sl_string:P.underlying fb=some (.slice aE)
 c_sl_string:P.cellsOf fb=1
 f_Trait:fieldsOf P bO=some [(0,aE),(1,fb)]
 c_Trait:P.cellsOf bO=2
 u_sl_Feat:P.underlying eh=some (.slice bQ)
 c_sl_Feat:P.cellsOf eh=1
 u_int:P.underlying uR=some (.int .i64)
 c_int:P.cellsOf uR=1
 f_Slot:fieldsOf P aS=some [(0,uR),(1,aE),(2,aE),(3,eh)]
 c_Slot:P.cellsOf aS=4
 u_sl_Slot:P.underlying xN=some (.slice aS)
 c_sl_Slot:P.cellsOf xN=1
 f_Class:fieldsOf P aR=some [(0,aE),(1,xN)]
 c_Class:P.cellsOf aR=2
 f_Irreg:fieldsOf P cB=some [(0,uR),(1,aE)]
 c_Irreg:P.cellsOf cB=2
 u_sl_Irreg:P.underlying n9=some (.slice cB)
 c_sl_Irreg:P.cellsOf n9=1
 f_Entry:fieldsOf P aU=some [(0,aE),(1,aE),(2,eh),(3,n9)]
 c_Entry:P.cellsOf aU=4
 f_Spell:fieldsOf P b7=some [(0,aE),(1,aE),(2,aE),(3,aE)]
 c_Spell:P.cellsOf b7=4
 f_Link:fieldsOf P c6=some [(0,aE),(1,aE),(2,eh)]
 c_Link:P.cellsOf c6=3
 u_sl_Trait:P.underlying wL=some (.slice bO)
 c_sl_Trait:P.cellsOf wL=1
 u_sl_Class:P.underlying wM=some (.slice aR)
 c_sl_Class:P.cellsOf wM=1
 u_sl_Entry:P.underlying wN=some (.slice aU)
 c_sl_Entry:P.cellsOf wN=1
 u_sl_Spell:P.underlying tx=some (.slice b7)
 c_sl_Spell:P.cellsOf tx=1
 u_sl_Link:P.underlying xM=some (.slice c6)
 c_sl_Link:P.cellsOf xM=1
 f_Lex:fieldsOf P ae=some [(0,aE),(1,wL),(2,wM),(3,wN),(4,tx),(5,xM)]
 c_Lex:P.cellsOf ae=6
section
variable{P:Program}{W:World}{G:Nat→Option (List AV)}
theorem Sg(h:qt P):nP P W G bQ aI.row (aI.ok 0):=
 kI h.f_Feat h.c_Feat (bG (ga h.u_string) h.c_string (bG (ga h.u_string) h.c_string (nR _))) (fun a=>⟨a.1,a.2.1⟩) (fun a=>rfl) (fun a ha=>⟨ha.1,ha.2.1⟩)
theorem PQ(h:qt P):nP P W G cB bo.row (bo.ok 0):=
 kI h.f_Irreg h.c_Irreg (bG (Kk h.u_int) h.c_int (bG (ga h.u_string) h.c_string (nR _))) (fun a=>⟨a.1,a.2.1⟩) (fun a=>rfl) (fun a ha=>⟨ha.1,ha.2.1⟩)
theorem PR(h:qt P):nP P W G b7 aV.row (aV.ok 0):=
 kI h.f_Spell h.c_Spell (bG (ga h.u_string) h.c_string (bG (ga h.u_string) h.c_string (bG (ga h.u_string) h.c_string (bG (ga h.u_string) h.c_string (nR _))))) (fun a=>⟨a.1,a.2.1,a.2.2.1,a.2.2.2.1⟩) (fun a=>rfl) (fun a ha=>⟨ha.1,ha.2.1,ha.2.2.1,ha.2.2.2.1⟩)
end
end
section
open Go.ChangeShapes Go.WideShapes
section
variable{P:Program}{W:World}{G:Nat→Option (List AV)}
theorem ua{t e:TypeId}{α:Type}{row:α→List AV}{ok kt:α→Prop}{sz:Nat}(ht:P.underlying t=some (.slice e))(hsz:P.cellsOf e=sz)(hpos:0<sz)(hrow:∀ a,(row a).length=sz)(he:nP P W G e row (fun a=>ok a∧kt a)) :
  nP P W G t (fun s:Sl α=>[.slice s.tag sz (s.l.map row)]) (fun s=>s.ok 0 ok∧s.kn∧∀ x∈s.l,kt x):=
 HX (LO ht hsz hpos hrow he) fun s h=>⟨⟨h.1.tag,h.1.len,fun x hx=>(h.1.all x hx).1⟩,h.2,fun x hx=>(h.1.all x hx).2⟩
theorem GV{t:TypeId}{α:Type}{row:α→List AV}{ok:α→Prop}(h:nP P W G t row ok):nP P W G t row (fun a=>ok a∧True):=HX h fun a h=>⟨h,trivial⟩
theorem Mm(h:qt P):nP P W G fb (fun s:Sl Str=>[.slice s.tag 1 (s.l.map bJ)]) (fun s=>s.ok 0 (fun s=>s.length≤aQ)∧s.kn∧∀ x∈s.l,True):=ua h.u_sl_string h.c_string (by decide) (fun _=>rfl) (GV (ga h.u_string))
theorem yg(h:qt P):nP P W G eh (fun s:Sl aI=>[.slice s.tag 2 (s.l.map aI.row)]) (fun s=>s.ok 0 (aI.ok 0)∧s.kn∧∀ x∈s.l,True):=ua h.u_sl_Feat h.c_Feat (by decide) (fun _=>rfl) (GV (Sg h))
theorem Jh(h:qt P):nP P W G n9 (fun s:Sl bo=>[.slice s.tag 2 (s.l.map bo.row)]) (fun s=>s.ok 0 (bo.ok 0)∧s.kn∧∀ x∈s.l,True):=ua h.u_sl_Irreg h.c_Irreg (by decide) (fun _=>rfl) (GV (PQ h))
theorem Ji(h:qt P):nP P W G tx (fun s:Sl aV=>[.slice s.tag 4 (s.l.map aV.row)]) (fun s=>s.ok 0 (aV.ok 0)∧s.kn∧∀ x∈s.l,True):=ua h.u_sl_Spell h.c_Spell (by decide) (fun _=>rfl) (GV (PR h))
theorem Om(h:qt P):nP P W G bO aK.row (fun a=>aK.ok 0 a∧aK.kt a):=
 kI h.f_Trait h.c_Trait (bG (ga h.u_string) h.c_string (bG (Mm h) h.c_sl_string (nR _))) (fun a=>⟨a.1,a.2.1⟩) (fun a=>rfl) (fun a ha=>⟨⟨ha.1,ha.2.1.1⟩,ha.2.1.2.1⟩)
theorem PS(h:qt P):nP P W G aS aL.row (fun a=>aL.ok 0 a∧aL.kt a):=
 kI h.f_Slot h.c_Slot (bG (Kk h.u_int) h.c_int (bG (ga h.u_string) h.c_string (bG (ga h.u_string) h.c_string (bG (yg h) h.c_sl_Feat (nR _))))) (fun a=>⟨a.1,a.2.1,a.2.2.1,a.2.2.2.1⟩) (fun a=>rfl) (fun a ha=>⟨⟨ha.1,ha.2.1,ha.2.2.1,ha.2.2.2.1.1⟩,ha.2.2.2.1.2.1⟩)
theorem On(h:qt P):nP P W G aR aG.row (fun a=>aG.ok 0 a∧aG.kt a):=
 kI h.f_Class h.c_Class (bG (ga h.u_string) h.c_string (bG (ua h.u_sl_Slot h.c_Slot (by decide) (fun _=>rfl) (PS h)) h.c_sl_Slot (nR _))) (fun a=>⟨a.1,a.2.1⟩) (fun a=>rfl) (fun a ha=>⟨⟨ha.1,ha.2.1.1⟩,ha.2.1.2⟩)
theorem Oo(h:qt P):nP P W G aU ak.row (fun a=>ak.ok 0 a∧ak.kt a):=
 kI h.f_Entry h.c_Entry (bG (ga h.u_string) h.c_string (bG (ga h.u_string) h.c_string (bG (yg h) h.c_sl_Feat (bG (Jh h) h.c_sl_Irreg (nR _))))) (fun a=>⟨a.1,a.2.1,a.2.2.1,a.2.2.2.1⟩) (fun a=>rfl) (fun a ha=>⟨⟨ha.1,ha.2.1,ha.2.2.1.1,ha.2.2.2.1.1⟩,ha.2.2.1.2.1,ha.2.2.2.1.2.1⟩)
theorem PT(h:qt P):nP P W G c6 bF.row (fun a=>bF.ok 0 a∧bF.kt a):=
 kI h.f_Link h.c_Link (bG (ga h.u_string) h.c_string (bG (ga h.u_string) h.c_string (bG (yg h) h.c_sl_Feat (nR _)))) (fun a=>⟨a.1,a.2.1,a.2.2.1⟩) (fun a=>rfl) (fun a ha=>⟨⟨ha.1,ha.2.1,ha.2.2.1.1⟩,ha.2.2.1.2.1⟩)
theorem Si(h:qt P):nP P W G ae Lex.row (fun a=>Lex.ok 0 a∧Lex.kt a):=
 kI h.f_Lex h.c_Lex (bG (ga h.u_string) h.c_string (bG (ua h.u_sl_Trait h.c_Trait (by decide) (fun _=>rfl) (Om h)) h.c_sl_Trait (bG (ua h.u_sl_Class h.c_Class (by decide) (fun _=>rfl) (On h)) h.c_sl_Class
  (bG (ua h.u_sl_Entry h.c_Entry (by decide) (fun _=>rfl) (Oo h)) h.c_sl_Entry (bG (Ji h) h.c_sl_Spell (bG (ua h.u_sl_Link h.c_Link (by decide) (fun _=>rfl) (PT h)) h.c_sl_Link (nR _)))))))
  (fun a=>⟨a.1,a.2.1,a.2.2.1,a.2.2.2.1,a.2.2.2.2.1,a.2.2.2.2.2.1⟩) (fun a=>rfl) (fun a ha=>⟨⟨ha.1,ha.2.1.1,ha.2.2.1.1,ha.2.2.2.1.1,ha.2.2.2.2.1.1,ha.2.2.2.2.2.1.1⟩,⟨ha.2.1.2,ha.2.2.1.2,ha.2.2.2.1.2,ha.2.2.2.2.1.2.1,ha.2.2.2.2.2.1.2⟩⟩)
end
end
section
open Go.Proofs
def UE:List (Nat×AFn):=[(5,fc),(8,aT),(15,uH),(16,c9),(17,qK),(18,cg),(19,cC),(20,eH),(21,cS),(22,bL),(27,eS),(38,lW)]
theorem Yb:mX (cJ Tryz.prog G0) UE:=by repeat' first | (unfold cJ;kernel_rfl) | exact trivial | refine ⟨?_, ?_⟩
def UF:List (Nat×AFn):=[(39,jM),(43,po),(44,fy),(45,si),(46,dO),(47,gb),(48,sj),(49,dP),(50,lX),(51,sk),(52,dQ),(53,gd)]
theorem Yc:mX (cJ Tryz.prog G0) UF:=by repeat' first | (unfold cJ;kernel_rfl) | exact trivial | refine ⟨?_, ?_⟩
def UG:List (Nat×AFn):=[(54,sm),(55,dR),(56,lZ),(57,sn),(58,ew),(59,mE),(60,aY),(61,dS),(62,dF),(63,bz),(64,jB),(65,iW)]
theorem Yd:mX (cJ Tryz.prog G0) UG:=by repeat' first | (unfold cJ;kernel_rfl) | exact trivial | refine ⟨?_, ?_⟩
def UH:List (Nat×AFn):=[(66,bM),(67,dG),(68,fU),(69,oB),(71,rj),(73,bV),(77,gg),(86,fZ),(88,iJ),(91,iZ),(92,kZ),(93,b8)]
theorem Ye:mX (cJ Tryz.prog G0) UH:=by repeat' first | (unfold cJ;kernel_rfl) | exact trivial | refine ⟨?_, ?_⟩
def UI:List (Nat×AFn):=[(94,ka),(95,eY),(96,b9),(97,kb),(98,ey),(99,kd),(100,uI),(101,k6),(102,so),(103,pq),(104,ca),(105,kf)]
theorem Yf:mX (cJ Tryz.prog G0) UI:=by repeat' first | (unfold cJ;kernel_rfl) | exact trivial | refine ⟨?_, ?_⟩
def UJ:List (Nat×AFn):=[(106,cw),(107,kg),(108,uJ),(109,bD),(110,kh),(111,tz),(112,tA),(113,fA),(114,bW),(115,jE),(116,lE),(117,jF)]
theorem Yg:mX (cJ Tryz.prog G0) UJ:=by repeat' first | (unfold cJ;kernel_rfl) | exact trivial | refine ⟨?_, ?_⟩
def UK:List (Nat×AFn):=[(118,da),(119,gK),(120,gN),(121,gQ),(122,gT),(123,jd),(124,kq),(125,jg),(126,jj),(127,dV),(128,oH),(129,p9)]
theorem Yh:mX (cJ Tryz.prog G0) UK:=by repeat' first | (unfold cJ;kernel_rfl) | exact trivial | refine ⟨?_, ?_⟩
def UL:List (Nat×AFn):=[(130,ff),(133,fg),(134,lF),(138,l5),(139,fC),(140,mF),(142,sq),(143,sr),(155,iK),(156,k7),(158,jU),(159,lG)]
theorem Yi:mX (cJ Tryz.prog G0) UL:=by repeat' first | (unfold cJ;kernel_rfl) | exact trivial | refine ⟨?_, ?_⟩
def UM:List (Nat×AFn):=[(160,bh),(161,dn),(162,bk),(163,eA),(164,jN),(165,jn),(166,qp),(167,bn),(168,bp),(169,cA),(170,ss),(171,qq)]
theorem Yj:mX (cJ Tryz.prog G0) UM:=by repeat' first | (unfold cJ;kernel_rfl) | exact trivial | refine ⟨?_, ?_⟩
def UN:List (Nat×AFn):=[(172,aO),(173,qR),(174,gi),(177,vN),(180,iM),(181,fE),(182,jo),(183,mG),(184,mg),(186,gE),(190,k9),(195,bq)]
theorem Yk:mX (cJ Tryz.prog G0) UN:=by repeat' first | (unfold cJ;kernel_rfl) | exact trivial | refine ⟨?_, ?_⟩
def QQ:List (Nat×AFn):=[(196,iE),(197,yH),(198,tG),(199,mH),(201,nh),(202,gj),(203,fF),(204,kj),(205,eK),(207,qS),(208,jG),(218,dI)]
theorem Wt:mX (cJ Tryz.prog G0) QQ:=by repeat' first | (unfold cJ;kernel_rfl) | exact trivial | refine ⟨?_, ?_⟩
def QR:List (Nat×AFn):=[(219,wW),(220,ln),(221,CB),(222,eM),(223,lf),(225,mh),(233,iH),(234,mK),(235,mj),(237,Gj),(238,DW),(239,lI)]
theorem Wu:mX (cJ Tryz.prog G0) QR:=by repeat' first | (unfold cJ;kernel_rfl) | exact trivial | refine ⟨?_, ?_⟩
def QS:List (Nat×AFn):=[(240,ni),(244,na),(247,tK)]
theorem Wv:mX (cJ Tryz.prog G0) QS:=by repeat' first | (unfold cJ;kernel_rfl) | exact trivial | refine ⟨?_, ?_⟩
def UO:List (Nat×List (Nat×AFn)):=[(38,UE),(53,UF),(65,UG),(93,UH),(105,UI),(117,UJ),(129,UK),(159,UL),(171,UM),(195,UN),(218,QQ),(239,QR),(247,QS)]
def Ww(f:FuncId):Option AFn:=M8 UO f
theorem QT:∀ f af,Ww f=some af→cJ Tryz.prog G0 f af:=fun f af h=>HS (show LJ _ UO from ⟨Yb,Yc,Yd,Ye,Yf,Yg,Yh,Yi,Yj,Yk,Wt,Wu,Wv,trivial⟩) h
def QU(f:FuncId)(args:List AV)(H:List AObj):Option Out:=
 match args with
 |[]=>bif Nat.beq f er then some (.ret (.bool true),H) else none
 |_=>VI f args H
theorem Oq{f:FuncId}{args:List AV}{H H':List AObj}{r:s8}(h:QU f args H=some (r,H')):dC Tryz.prog G0 f args H fun r2 H2=>r2=r∧H2=H':=by
 unfold QU at h;split at h
 ·cases h1:Nat.beq f er with
  |true=>rw [h1] at h;cases h;rw [ZM h1];exact Ty H
  |false=>rw [h1] at h;cases h
 ·exact Qo h
noncomputable def EN0:aX := { P:=Tryz.prog,G:=G0,fn:=Ww,orc:=QU,dfn:=fun _=>none }
theorem UP:EN0.Ok:=aX.ok5 LU (fun f af h=>QT f af h) (fun _ _ _ h=>by cases h) (fun _ _ _ _ _ h=>by cases h) (fun _ _ _ _ _ h=>Oq h)
theorem Zu:w9 EN0:=by constructor<;>rfl
noncomputable def Yl(f:FuncId)(args:List AV)(H:List AObj):Option Out:=bif Nat.beq f fp then Ur args H else QU f args H
theorem Wx{f:FuncId}{args:List AV}{H H':List AObj}{r:s8}(h:Yl f args H=some (r,H')):dC Tryz.prog G0 f args H fun r2 H2=>r2=r∧H2=H':=by
 unfold Yl at h;cases h1:Nat.beq f fp with
 |true=>
  rw [h1] at h;rw [ZM h1];obtain ⟨M⟩:=FN bN EN0;exact Wi M UP (WdE.of M UP (fun _ _ _=>rfl)) Zu g0 h
 |false=>rw [h1] at h;exact Oq h
def UQ(f:FuncId):Option AFn:=bif Nat.beq f fp then none else Ww f
theorem UR{f:FuncId}{af:AFn}(h:UQ f=some af):Ww f=some af:=by
 unfold UQ at h;cases h1:Nat.beq f fp with
 |true=>rw [h1] at h;cases h
 |false=>rw [h1] at h;exact h
noncomputable def EN:aX := { P:=Tryz.prog,G:=G0,fn:=UQ,orc:=Yl,dfn:=fun _=>none,seq:=VM,sar:=fun _=>2 }
theorem Xa:EN.Ok:=⟨LU,fun f af h=>QT f af (UR h),(fun _ _ _ h=>by cases h),(fun _ _ _ _ _ h=>by cases h),fun _ _ _ _ _ h=>Wx h,(fun _ _ _ h=>by cases h),Qp⟩
theorem Ym(M:bR bN EN){l:Lex}(hk:l.kn)(H:List AObj):M.run fp [.agg l.row] H=some (.ret (.agg l.cl.row),H):=by
 rw [DG M rfl];exact Wh hk H
end
end Go.Am
