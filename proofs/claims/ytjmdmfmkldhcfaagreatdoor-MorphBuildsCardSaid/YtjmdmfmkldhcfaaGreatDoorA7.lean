import Derived.Test.YtjmdmfmkldhcfaaGreatDoorA6
import Derived.Test.YtjmdmfmkldhcfaaGreatDoorChecked
import Derived.Shelf.SlSortCmp.NoneTotal
import Derived.Laws.Externs
import Derived.KernelRfl
/-
  Part 7 of the tool: an abstract machine over the model, proved sound, and what it says of the functions that the law reaches. Condition: none but those that each theorem names.
-/
set_option linter.unusedVariables false
set_option linter.unusedSimpArgs false
set_option maxRecDepth 100000
set_option maxHeartbeats 4000000
namespace Go.Am
open Go.RowKit
section
attribute [local congr] aS eb bQ aT bv bb aU aC aD bc be
variable{E:bP}(M:dO d8 E)
def Cp(x y:au):Bool:=x.name == y.name&&x.value == y.value
theorem ixq{H H0:List ag}{v:au}{tg:Tag}{l:List au}(hs:l.length≤aZ){q:Nat}{T:TypeId}(hq:H[q]?=some (.cells v.row T))(hc:bO H0 H)(k:List Fra):∀ (n i:Nat) (He:List ag),i+n=l.length →
  M.go bF H0 (.c dw :: .lp ⟨(some [0,3,7,8]),[],false⟩ dw He :: .blk 0 :: .c (.lv [])::k) (kv [(0,.slice tg 2 (l.map au.row)),(3,.ptr q 0),(7,.int .i64 l.length),(8,.int .i64 i)]) H =
   orE (bI (wX fun s=>Cp v s) i (l.drop i)) (H.take H0.length) (M.go bF H0 k .leaf H)
 |0,i,He,h=>by
  have e:i=l.length:=by omega
  subst e
  rw [ao M dw.eq_1]
  simp (maxSteps:=3000000) (maxDischargeDepth:=6) +contextual -implicitDefEqProofs only [amA M,amB,↓ae,↓aa,↓aj,↓ah,Nat.reduceBEq,Nat.reduceAdd,env,am,iN,Nat.lt_irrefl,List.drop_length]
 |n+1,i,He,h=>by
  have hi:i<l.length:=by omega
  have hx:l[i]?=some l[i]:=List.getElem?_eq_getElem hi
  have hd:(l.drop i)=l[i]::l.drop (i+1):=List.drop_eq_getElem_cons hi
  have hm:l[i]∈l:=List.getElem_mem hi
  have ih:=fun He=>ixq (H:=H) (H0:=H0) (v:=v) (tg:=tg) (l:=l) (hs:=hs) (q:=q) (T:=T) (hq:=hq) hc k n (i+1)  He (by omega)
  simp only [kv_cons,kv_nil] at ih
  rw [ao M dw.eq_1]
  simp (maxSteps:=3000000) (maxDischargeDepth:=6) +contextual -implicitDefEqProofs only [amA M,amB,↓ae,↓aa,↓aj,↓ah,Nat.reduceBEq,Nat.reduceAdd,env,am,iN,hx,hd,hi,ih,bq hi hs,az hi,mE,wX,hc,hq,um,Cp]
theorem JQ(hU:wt E){v:au}{tg:Tag}{l:List au}(hs:l.length≤aZ)(H:List ag):M.run gj [.slice tg 2 (l.map au.row),.agg v.row] H=some (.ret (.bool (l.any fun s=>Cp v s)),H):=by
 have h1:∀ H,M.run iB [.slice tg 2 (l.map au.row),.agg v.row] H=some (.ret (.int .i64 (uP (fun s=>Cp v s) 0 l)),H):=fun H=>by
  rw [aM M hU.slices_Index_api_Feat_api_Feat rfl (c:=iM) rfl,iM]
  have hl:=fun k He=>ixq M (H:=H++[.cells v.row aQ]) (H0:=H) (tg:=tg) (v:=v) hs (q:=H.length) (T:=aQ) (by rw [cu];rfl) (cut_app H _) k l.length 0 He (by omega)
  simp only [kv_cons,kv_nil,Int.ofNat_zero,List.drop_zero,hp_take] at hl
  simp (maxSteps:=3000000) (maxDischargeDepth:=6) +contextual -implicitDefEqProofs only [amA M,amB,↓ae,↓aa,↓aj,↓ah,Nat.reduceBEq,Nat.reduceAdd,env,am,iN,hl,mE]
  exact mq _ l 0 H
 rw [aM M hU.slices_Contains_api_Feat_api_Feat rfl (c:=gy) rfl,gy]
 simp (maxSteps:=3000000) (maxDischargeDepth:=6) +contextual -implicitDefEqProofs only [amA M,amB,↓ae,↓aa,↓aj,↓ah,Nat.reduceBEq,Nat.reduceAdd,env,am,qo,h1,vj,mE,cu]
theorem Jh(hU:wt E)(f:au){b:Sl au}(hb:b.l.length≤aZ){H:List ag}{q:Nat}{T:TypeId}(hq:H[q]?=some (.cells [.slice b.tag 2 (b.l.map au.row)] T)) :
  M.run mT [.agg f.row,.ptr q 0] H=some (.ret (.bool (!(b.l.any fun g=>Cp f g))),H):=by
 rw [aM M hU.morph_Subsumes_1 rfl (c:=re) rfl,re]
 simp (maxSteps:=3000000) (maxDischargeDepth:=6) +contextual -implicitDefEqProofs only [amA M,amB,↓ae,↓aa,↓aj,↓ah,Nat.reduceBEq,Nat.reduceAdd,env,am,DP,JQ M hU hb,mE,cf hq]
def Qx(a b:List au):Bool := !(a.any fun f => !(b.any fun g=>Cp f g))
theorem LM(hE:lG E)(hU:wt E){a b:Sl au}(ha:a.l.length≤aZ)(hb:b.l.length≤aZ)(H:List ag) :
  M.run pM [.slice a.tag 2 (a.l.map au.row),.slice b.tag 2 (b.l.map au.row)] H=some (.ret (.bool (Qx a.l b.l)),H):=by
 rw [aM M hU.morph_Subsumes rfl (c:=tt) rfl,tt]
 have hcf:=oZ M hE.slices_IndexFunc_api_Feat_api_Feat hE.slices_ContainsFunc_api_Feat_api_Feat (g:=mT) (fr:=[]) (cap:=[.ptr H.length 0]) (p:=fun f => !(b.l.any fun g=>Cp f g)) (tg:=a.tag) ha (H:=H++[.cells [.slice b.tag 2 (b.l.map au.row)] dK]) (fun x _=>Jh M hU x hb (T:=dK) (by rw [cu];rfl))
 simp (maxSteps:=3000000) (maxDischargeDepth:=6) +contextual -implicitDefEqProofs only [amA M,amB,↓ae,↓aa,↓aj,↓ah,Nat.reduceBEq,Nat.reduceAdd,env,am,FZ,hcf,Qx]
theorem UI{H H0:List ag}{a b:Sl au}(hb:b.l.length≤aZ){j:Nat}(hj:j<a.l.length)(k:List Fra):∀ (n i:Nat) (o:Bool) (He:List ag),i+n=(b.l).length →
  M.go b8 H0 (.c fq :: .lp ⟨(some [0,1,5,6,7]),[],false⟩ fq He :: .blk 2 :: .c (.lv [0,1,5,6])::k) (kv [(0,.slice a.tag 2 (a.l.map au.row)),(1,.slice b.tag 2 (b.l.map au.row)),(5,.int .i64 j),(6,.bool o),(7,.int .i64 i)]) H =
   (M.go b8 H0 k (kv [(0,.slice a.tag 2 (a.l.map au.row)),(1,.slice b.tag 2 (b.l.map au.row)),(5,.int .i64 j),(6,.bool (o||(b.l.drop i).any fun g=>Cp a.l[j] g))]) H)
 |0,i,o,He,h=>by
  have e:i=(b.l).length:=by omega
  subst e
  rw [ao M fq.eq_1]
  simp (maxSteps:=3000000) (maxDischargeDepth:=6) +contextual -implicitDefEqProofs only [amA M,amB,↓ae,↓aa,↓aj,↓ah,Nat.reduceBEq,Nat.reduceAdd,env,am,gr,Nat.lt_irrefl,List.drop_length,List.any_nil]
 |n+1,i,o,He,h=>by
  have hi:i<(b.l).length:=by omega
  have hx:(b.l)[i]?=some (b.l)[i]:=List.getElem?_eq_getElem hi
  have hd:((b.l).drop i)=(b.l)[i]::(b.l).drop (i+1):=List.drop_eq_getElem_cons hi
  have hm:(b.l)[i]∈(b.l):=List.getElem_mem hi
  have ih:=fun o He=>UI (H:=H) (H0:=H0) (a:=a) (b:=b) (hb:=hb) (j:=j) (hj:=hj) k n (i+1) o He (by omega)
  simp only [kv_cons,kv_nil] at ih
  have hxj:a.l[j]?=some a.l[j]:=List.getElem?_eq_getElem hj
  rw [ao M fq.eq_1]
  simp (maxSteps:=3000000) (maxDischargeDepth:=6) +contextual -implicitDefEqProofs only [amA M,amB,↓ae,↓aa,↓aj,↓ah,Nat.reduceBEq,Nat.reduceAdd,env,am,gr,hx,hd,hi,ih,hxj,az hj,az hi,mE,um,Cp,bq hi hb,List.any_cons,Bool.or_assoc]
def S5(b:List au):Nat→au→Option AV:=fun _ f=>sel (b.any fun g=>Cp f g) none (some (.bool false))
theorem UJ{H H0:List ag}{a b:Sl au}(ha:a.l.length≤aZ)(hb:b.l.length≤aZ)(hc:bO H0 H)(k:List Fra):∀ (n i:Nat) (He:List ag),i+n=(a.l).length →
  M.go b8 H0 (.c ft :: .lp ⟨(some [0,1,5]),[],false⟩ ft He :: .blk 0 :: .c (.lv [])::k) (kv [(0,.slice a.tag 2 (a.l.map au.row)),(1,.slice b.tag 2 (b.l.map au.row)),(5,.int .i64 i)]) H =
   orE (bI (S5 b.l) i (a.l.drop i)) (H.take H0.length) (M.go b8 H0 k .leaf H)
 |0,i,He,h=>by
  have e:i=(a.l).length:=by omega
  subst e
  rw [ao M ft.eq_1]
  simp (maxSteps:=3000000) (maxDischargeDepth:=6) +contextual -implicitDefEqProofs only [amA M,amB,↓ae,↓aa,↓aj,↓ah,Nat.reduceBEq,Nat.reduceAdd,env,am,gr,Nat.lt_irrefl,List.drop_length]
 |n+1,i,He,h=>by
  have hi:i<(a.l).length:=by omega
  have hx:(a.l)[i]?=some (a.l)[i]:=List.getElem?_eq_getElem hi
  have hd:((a.l).drop i)=(a.l)[i]::(a.l).drop (i+1):=List.drop_eq_getElem_cons hi
  have hm:(a.l)[i]∈(a.l):=List.getElem_mem hi
  have ih:=fun He=>UJ (H:=H) (H0:=H0) (a:=a) (b:=b) (ha:=ha) (hb:=hb) hc k n (i+1)  He (by omega)
  simp only [kv_cons,kv_nil] at ih
  have h0:=fun k He=>UI M (H:=H) (H0:=H0) (a:=a) (b:=b) hb hi k b.l.length 0 false He (by omega)
  simp only [kv_cons,kv_nil,Int.ofNat_zero,List.drop_zero,Bool.false_or] at h0
  rw [ao M ft.eq_1]
  simp (maxSteps:=3000000) (maxDischargeDepth:=6) +contextual -implicitDefEqProofs only [amA M,amB,↓ae,↓aa,↓aj,↓ah,Nat.reduceBEq,Nat.reduceAdd,env,am,gr,hx,hd,hi,ih,h0,bq hi ha,hc,S5]
theorem KO(b:List au)(H:List ag)(x:Option Out):∀ (a:List au) (i:Nat),orE (bI (S5 b) i a) H x=sel (Qx a b) x (some (.ret (.bool false),H))
 |[],_=>rfl
 |f::a,i=>by
  rw [jl,HE,KO b H x a,S5,z8,It,vD]
  simp only [Qx,List.any_cons]
  cases (b.any fun g=>Cp f g)<;>simp [sel]
theorem JR(hU:wt E){a b:Sl au}(ha:a.l.length≤aZ)(hb:b.l.length≤aZ)(H:List ag) :
  M.run jf [.slice a.tag 2 (a.l.map au.row),.slice b.tag 2 (b.l.map au.row)] H=some (.ret (.bool (Qx a.l b.l)),H):=by
 rw [aM M hU.truchmanref02_Subsumes rfl (c:=lA) rfl,lA]
 have h1:=fun k He=>UJ M ha hb (cut_refl H) k a.l.length 0 He (by omega)
 simp only [kv_cons,kv_nil,Int.ofNat_zero,List.drop_zero,KO] at h1
 simp (maxSteps:=3000000) (maxDischargeDepth:=6) +contextual -implicitDefEqProofs only [amA M,amB,↓ae,↓aa,↓aj,↓ah,Nat.reduceBEq,Nat.reduceAdd,env,am,gr,h1]
end
section
attribute [local congr] aS eb bQ aT bv bb aU aC aD bc be
variable{E:bP}(M:dO d8 E)
structure tG (E:bP):Prop where
 morph_language_slot:E.fn eT=some eY
 morph_language_feats:E.fn j7=some fH
 truchmanref02_slot:E.fn gO=some il
 truchmanref02_Feats:E.fn th=some oI
 morph_language_underlying:E.fn ka=some de
 morph_language_steps:E.fn mS=some db
 truchmanref02_steps:E.fn og=some dC
 truchmanlaw02_SameStrings:E.fn o3=some ke
 strings_Index:E.fn nJ=some jS
 strings_Count:E.fn kT=some jR
 strings_Builder_grow:E.fn mV=some eH
 strings_Builder_Grow:E.fn j9=some eF
 strings_Replace:E.fn r5=some ey
 strings_ReplaceAll:E.fn po=some fw
 internal_stringslite_Index:E.fn gF=some cV
 morph_language_form:E.fn gf=some dB
 truchmanref02_form:E.fn gN=some dk
 morph_language_slots:E.fn r3=some nf
 truchmanref02_Slots:E.fn tf=some oH
def Oy:bC:=⟨0,[],[],⟨.nil,[]⟩⟩
theorem jV:Oy.row=[AV.int .i64 0,.str [],.str [],.slice .nil 2 []]:=rfl
def Cq(l:Lex)(e:Int):Option aR:=if e<0 then none else l.entries.l[e.toNat]?
def slC(c:Option aX)(q:Int):Option bC:=
 match c with
 |none=>none
 |some c=>if q<0 then none else c.slots.l[q.toNat]?
def slF(l:Lex)(e q:Int):Option bC:=
 match Cq l e with
 |none=>none
 |some x=>slC (zC l x.cls) q
theorem n9(n:Nat):Wk n (.slice .nil 2 []) (.slice .nil 2 []):=wk_slice trivial (i9 n)
theorem Ji(hW:WdE M)(hE:lG E)(hF:tG E){l:Lex}(hl:l.ok 0)(e q:Int)(H:List ag) :
  M.run eT [.agg l.row,.int .i64 e,.int .i64 q] H=some (.ret (.tuple [.agg ((slF l e q).getD Oy).row,.bool (slF l e q).isSome]),H):=by
 rw [aM M hF.morph_language_slot rfl (c:=oF) rfl,oF]
 cases hr1:decide (e<0) with
 |true=>
  have e1:slF l e q=none:=by simp [slF,Cq,of_decide_eq_true hr1]
  rw [e1]
  simp (maxSteps:=3000000) (maxDischargeDepth:=6) +contextual -implicitDefEqProofs only [amA M,amB,↓ae,↓aa,↓aj,↓ah,Nat.reduceBEq,Nat.reduceAdd,env,am,eZ,amG,AV.cell,Nat.reduceMul,Nat.reduceLeDiff,hr1,bp,jV,n9,wk_tuple,wk_agg,Option.getD_none,Option.isSome_none]
 |false=>
  have hr0:¬ e<0:=of_decide_eq_false hr1
  cases hr2:decide ((l.entries.l.length:Int)≤e) with
  |true=>
   have hrl:l.entries.l.length≤e.toNat:=by have:=of_decide_eq_true hr2;omega
   have e1:slF l e q=none:=by simp [slF,Cq,hr0,List.getElem?_eq_none hrl]
   rw [e1]
   simp (maxSteps:=3000000) (maxDischargeDepth:=6) +contextual -implicitDefEqProofs only [amA M,amB,↓ae,↓aa,↓aj,↓ah,Nat.reduceBEq,Nat.reduceAdd,env,am,eZ,amG,AV.cell,Nat.reduceMul,Nat.reduceLeDiff,hr1,hr2,bp,jV,n9,wk_tuple,wk_agg,Option.getD_none,Option.isSome_none]
  |false=>
   have hrl:e.toNat<l.entries.l.length:=by have:=of_decide_eq_false hr2;omega
   have hx:l.entries.l[e.toNat]?=some l.entries.l[e.toNat]:=List.getElem?_eq_getElem hrl
   generalize hxx:l.entries.l[e.toNat]=x at hx
   have e0:Cq l e=some x:=by simp [Cq,hr0,hx]
   cases hc:zC l x.cls with
   |none=>
    have e1:slF l e q=none:=by simp [slF,e0,hc,slC]
    have hcl:=fun H=>tA M hE hl hc H
    have hw:=fun H T L=>O3 hW (g:=gD) (first:=[]) (cap:=[]) (args:=[.agg l.row,.str x.cls]) (v:=.tuple [.agg xE.row,.bool false]) hcl H T L
    have z:(((xE.slots.l.length:Nat):Int))=0:=rfl
    rw [e1]
    cases hq:decide (q<0) with
    |true=>
     simp (maxSteps:=3000000) (maxDischargeDepth:=6) +contextual -implicitDefEqProofs only [amA M,amB,↓ae,↓aa,↓aj,↓ah,Nat.reduceBEq,Nat.reduceAdd,env,am,eZ,amG,AV.cell,Nat.reduceMul,Nat.reduceLeDiff,hr1,hr2,hq,hx,di (Int.not_lt.1 hr0) hrl,BK hW,hcl,hw,bp,cY,iy,jV,lj,n9,wk_tuple,wk_agg,Option.getD_none,Option.isSome_none]
    |false=>
     have hq2:decide ((0:Int)≤q)=true:=decide_eq_true (Int.not_lt.1 (of_decide_eq_false hq))
     simp (maxSteps:=3000000) (maxDischargeDepth:=6) +contextual -implicitDefEqProofs only [amA M,amB,↓ae,↓aa,↓aj,↓ah,Nat.reduceBEq,Nat.reduceAdd,env,am,eZ,amG,AV.cell,Nat.reduceMul,Nat.reduceLeDiff,hr1,hr2,hq,hq2,z,hx,di (Int.not_lt.1 hr0) hrl,BK hW,hcl,hw,bp,cY,iy,jV,lj,n9,wk_tuple,wk_agg,Option.getD_none,Option.isSome_none]
   |some c=>
    have hcl:=fun H=>tB M hE hl hc (H:=H) (Nat.zero_le _)
    have hw:=fun H T L=>O3 hW (g:=gD) (first:=[]) (cap:=[]) (args:=[.agg l.row,.str x.cls]) (v:=.tuple [.agg c.row,.bool true]) hcl H T L
    cases hq:decide (q<0) with
    |true=>
     have e1:slF l e q=none:=by simp [slF,e0,hc,slC,of_decide_eq_true hq]
     rw [e1]
     simp (maxSteps:=3000000) (maxDischargeDepth:=6) +contextual -implicitDefEqProofs only [amA M,amB,↓ae,↓aa,↓aj,↓ah,Nat.reduceBEq,Nat.reduceAdd,env,am,eZ,amG,AV.cell,Nat.reduceMul,Nat.reduceLeDiff,hr1,hr2,hq,hx,di (Int.not_lt.1 hr0) hrl,BK hW,hcl,hw,bp,cY,iy,jV,lj,n9,wk_tuple,wk_agg,Option.getD_none,Option.isSome_none]
    |false=>
     have hq0:¬ q<0:=of_decide_eq_false hq
     cases hq2:decide ((c.slots.l.length:Int)≤q) with
     |true=>
      have hql:c.slots.l.length≤q.toNat:=by have:=of_decide_eq_true hq2;omega
      have e1:slF l e q=none:=by simp [slF,e0,hc,slC,hq0,List.getElem?_eq_none hql]
      rw [e1]
      simp (maxSteps:=3000000) (maxDischargeDepth:=6) +contextual -implicitDefEqProofs only [amA M,amB,↓ae,↓aa,↓aj,↓ah,Nat.reduceBEq,Nat.reduceAdd,env,am,eZ,amG,AV.cell,Nat.reduceMul,Nat.reduceLeDiff,hr1,hr2,hq,hq2,hx,di (Int.not_lt.1 hr0) hrl,BK hW,hcl,hw,bp,cY,iy,jV,lj,n9,wk_tuple,wk_agg,Option.getD_none,Option.isSome_none]
     |false=>
      have hql:q.toNat<c.slots.l.length:=by have:=of_decide_eq_false hq2;omega
      have hs:c.slots.l[q.toNat]?=some c.slots.l[q.toNat]:=List.getElem?_eq_getElem hql
      have hcm:c∈l.classes.l:=List.mem_of_find?_eq_some hc
      have hsk:=((hl.classes.all c hcm).slots.all _ (List.getElem_mem hql)).mono (Nat.zero_le H.length)
      generalize c.slots.l[q.toNat]=s at hs hsk
      have e1:slF l e q=some s:=by simp [slF,e0,hc,slC,hq0,hs]
      rw [e1]
      simp (maxSteps:=3000000) (maxDischargeDepth:=6) +contextual -implicitDefEqProofs only [amA M,amB,↓ae,↓aa,↓aj,↓ah,Nat.reduceBEq,Nat.reduceAdd,env,am,eZ,amG,AV.cell,Nat.reduceMul,Nat.reduceLeDiff,hr1,hr2,hq,hq2,hx,hs,di (Int.not_lt.1 hr0) hrl,di (Int.not_lt.1 hq0) hql,BK hW,hcl,hw,bp,cY,iy,fk,jV,lj,hsk.wk,wk_tuple,wk_agg,Option.getD_some,Option.isSome_some]
end
section
attribute [local congr] aS eb bQ aT bv bb aU aC aD bc be
variable{E:bP}(M:dO d8 E)
theorem CJ{l:Lex}(h:iU l=0):tD l=0∧wq l=0∧yd l=0∧Aw l=0:=
 ⟨tF h 2 _ rfl,tF h 3 _ rfl,tF h 4 _ rfl,tF h 5 _ rfl⟩
structure Pu (l:Lex) (x:aR) (c:aX):Prop where
 cls:zC l x.cls=some c
 lem:wn x.lem=true
 short:x.feats.l.length≤8∧uQ x.feats.l=true
 clash:∀ s∈c.slots.l,kS x.feats.l s.feats.l=false
 forms:ul (IZ c.slots.l.length x.forms.l) 0 x.forms.l=0
theorem mt{b:Bool}{x y:Int}(hx:x≠0)(h:sel b x y=0):b=false∧y=0:=by
 cases b with
 |true=>exact absurd h hx
 |false=>exact ⟨rfl,h⟩
theorem R7{l:Lex}(h:iU l=0){k:Nat}{x:aR}(hx:l.entries.l[k]?=some x):∃ c,Pu l x c:=by
 have h3:=(pR (CJ h).2.1).2 k x hx
 unfold yb at h3
 cases hc:zC l x.cls with
 |none=>
  rw [hc] at h3
  exact absurd (mt (by decide) h3).2 (by decide)
 |some c=>
  rw [hc] at h3
  obtain ⟨a1,h3⟩:=mt (by decide) h3
  obtain ⟨_,h3⟩:=mt (by decide) h3
  cases hb:pa l x.feats.l == 0 with
  |false=>
   rw [hb] at h3
   rw [show pa l x.feats.l=0 from h3] at hb
   exact absurd hb (by decide)
  |true=>
   rw [hb] at h3
   obtain ⟨a2,h3⟩:=mt (b:=c.slots.l.any fun s=>kS x.feats.l s.feats.l) (by decide) h3
   exact ⟨c,hc,by simpa using a1,bundle_ok (eq_of_beq hb),by simpa using a2,h3⟩
theorem S6{l:Lex}(h:iU l=0){c:aX}(hc:c∈l.classes.l){s:bC}(hs:s∈c.slots.l):Ce l s=0:=by
 obtain ⟨k,hk⟩:=List.getElem?_of_mem hc
 have h2:=(pR (CJ h).1).2 k c hk
 unfold Cf at h2
 have h3:=(mt (by decide) (mt (by decide) (mt (by decide) (mt (by decide) h2).2).2).2).2
 obtain ⟨j,hj⟩:=List.getElem?_of_mem hs
 exact (pR h3).2 j s hj
structure T5 (s:bC):Prop where
 cut:0≤s.cut∧s.cut≤24
 pre:s.pre.length≤6∧s.pre.all jb=true
 add:s.add.length≤6∧s.add.all jb=true
 feats:s.feats.l.length≤8∧uQ s.feats.l=true
theorem UK{l:Lex}{s:bC}(h:Ce l s=0):T5 s:=by
 unfold Ce at h
 obtain ⟨h1,h2⟩:=mt (by decide) h
 simp only [Bool.or_eq_false_iff,decide_eq_false_iff_not,Bool.not_eq_false',pE,Bool.and_eq_true,decide_eq_true_eq] at h1
 refine ⟨⟨by omega,by omega⟩,⟨by omega, ?_⟩,⟨by omega, ?_⟩,bundle_ok h2⟩
 ·simp_all
 ·simp_all
structure At (l:Lex) (e q:Int) (x:aR) (c:aX) (s:bC):Prop where
 e0:0≤e
 q0:0≤q
 el:e.toNat<l.entries.l.length
 ex:l.entries.l[e.toNat]?=some x
 ent:Pu l x c
 cm:c∈l.classes.l
 ql:q.toNat<c.slots.l.length
 sx:c.slots.l[q.toNat]?=some s
 sok:T5 s
theorem KP{l:Lex}(h:iU l=0){e q:Int}{s:bC}(hs:slF l e q=some s):∃ x c,At l e q x c s:=by
 unfold slF at hs
 cases hx:Cq l e with
 |none=>rw [hx] at hs;exact absurd hs (by simp)
 |some x=>
  rw [hx] at hs
  simp only at hs
  unfold Cq at hx
  split at hx
  ·exact absurd hx (by simp)
  ·rename_i he
   obtain ⟨c,hc⟩:=R7 h hx
   rw [hc.cls] at hs
   simp only [slC] at hs
   split at hs
   ·exact absurd hs (by simp)
   ·rename_i hq
    have hcm:c∈l.classes.l:=List.mem_of_find?_eq_some hc.cls
    exact ⟨x,c,by omega,by omega,(List.getElem?_eq_some_iff.1 hx).1,hx,hc,hcm,(List.getElem?_eq_some_iff.1 hs).1,hs,UK (S6 h hcm (List.mem_of_getElem? hs))⟩
theorem T6(n k:Nat):Wk n (.slice .nil k []) (.slice .nil k []):=wk_slice trivial (i9 n)
end
section
attribute [local congr] aS eb bQ aT bv bb aU aC aD bc be
variable{E:bP}(M:dO d8 E)
def Nk(x:aR)(s:bC):List au:=(uR x.feats.l s.feats.l).getD []
theorem At.clash{l:Lex}{e q:Int}{x:aR}{c:aX}{s:bC}(h:At l e q x c s):kS x.feats.l s.feats.l=false:=h.ent.clash s (List.mem_of_getElem? h.sx)
theorem At.uni{l:Lex}{e q:Int}{x:aR}{c:aX}{s:bC}(h:At l e q x c s):uR x.feats.l s.feats.l=some (Nk x s):=by
 have:=GT h.ent.short.2 h.sok.feats.2
 rw [h.clash] at this
 unfold Nk
 cases hu:uR x.feats.l s.feats.l with
 |none=>rw [hu] at this;simp at this
 |some r=>rfl
theorem At.comp{srt:List au→List au}(hs:Srt srt){l:Lex}{e q:Int}{x:aR}{c:aX}{s:bC}(h:At l e q x c s):xG (srt (x.feats.l++s.feats.l))=Nk x s:=by
 have h1:=R2 hs x.feats.l s.feats.l
 rw [h.uni,Ow,h.ent.short.2,h.sok.feats.2,h.clash] at h1
 exact Option.some.inj h1
theorem At.sl{l:Lex}{e q:Int}{x:aR}{c:aX}{s:bC}(hk:iU l=0)(h:At l e q x c s):slF l e q=some s:=by
 have h0:¬ e<0:=by have:=h.e0;omega
 have h1:¬ q<0:=by have:=h.q0;omega
 simp only [slF,Cq,h0,if_false,h.ex,h.ent.cls,slC,h1,h.sx]
theorem Oz(hU:wt E){srt:List au→List au}(hS:GV M srt)(hs:Srt srt)(hF:tG E){l:Lex}{e q:Int}{x:aR}{c:aX}{s:bC}(hA:At l e q x c s)(H:List ag) :
  M.run j7 [.agg l.row,.int .i64 e,.agg s.row] H=some (.ret (.slice .any 2 ((Nk x s).map au.row)),H):=by
 rw [aM M hF.morph_language_feats rfl (c:=ng) rfl,ng]
 have hu:=fun H=>Qw M hU hS (a:=x.feats) (b:=s.feats) (by have:=hA.ent.short.1;have:=hA.sok.feats.1;omega) H
 rw [hA.comp hs] at hu
 simp (maxSteps:=3000000) (maxDischargeDepth:=6) +contextual -implicitDefEqProofs only [amA M,amB,↓ae,↓aa,↓aj,↓ah,Nat.reduceBEq,Nat.reduceAdd,env,am,Af,hu,hA.ex,di hA.e0 hA.el,bp,cY,fk,Pg,implies_true]
theorem At.ent'{l:Lex}{e q:Int}{x:aR}{c:aX}{s:bC}(h:At l e q x c s):Cq l e=some x:=by
 have h0:¬ e<0:=by have:=h.e0;omega
 simp only [Cq,h0,if_false,h.ex]
theorem CL(hR:tE E)(hF:tG E){l:Lex}(hl:l.ok 0)(hk:iU l=0)(e q:Int)(H:List ag) :
  M.run gO [.agg l.row,.int .i64 e,.int .i64 q] H=some (.ret (.tuple [.agg ((slF l e q).getD Oy).row,.bool (slF l e q).isSome]),H):=by
 rw [aM M hF.truchmanref02_slot rfl (c:=py) rfl,py]
 cases hr1:decide (e<0) with
 |true=>
  have e1:slF l e q=none:=by simp [slF,Cq,of_decide_eq_true hr1]
  rw [e1]
  simp (maxSteps:=3000000) (maxDischargeDepth:=6) +contextual -implicitDefEqProofs only [amA M,amB,↓ae,↓aa,↓aj,↓ah,Nat.reduceBEq,Nat.reduceAdd,env,am,js,amG,AV.cell,Nat.reduceMul,Nat.reduceLeDiff,hr1,bp,jV,n9,wk_tuple,wk_agg,Option.getD_none,Option.isSome_none]
 |false=>
  have hr0:¬ e<0:=of_decide_eq_false hr1
  cases hr2:decide ((l.entries.l.length:Int)≤e) with
  |true=>
   have hrl:l.entries.l.length≤e.toNat:=by have:=of_decide_eq_true hr2;omega
   have e1:slF l e q=none:=by simp [slF,Cq,hr0,List.getElem?_eq_none hrl]
   rw [e1]
   simp (maxSteps:=3000000) (maxDischargeDepth:=6) +contextual -implicitDefEqProofs only [amA M,amB,↓ae,↓aa,↓aj,↓ah,Nat.reduceBEq,Nat.reduceAdd,env,am,js,amG,AV.cell,Nat.reduceMul,Nat.reduceLeDiff,hr1,hr2,bp,jV,n9,wk_tuple,wk_agg,Option.getD_none,Option.isSome_none]
  |false=>
   have hrl:e.toNat<l.entries.l.length:=by have:=of_decide_eq_false hr2;omega
   have hx:l.entries.l[e.toNat]?=some l.entries.l[e.toNat]:=List.getElem?_eq_getElem hrl
   generalize l.entries.l[e.toNat]=x at hx
   have e0:Cq l e=some x:=by simp [Cq,hr0,hx]
   obtain ⟨c,hE⟩:=R7 hk hx
   have hcl:=fun H=>Ax M hR hl x.cls H
   rcases pD (fun c:aX=>c.name == x.cls) l.classes.l 0 with ⟨h1,h2⟩ | ⟨j,c',h1,h2,h3⟩
   ·exact absurd (hE.cls.symm.trans h2) (by simp)
   obtain rfl:c=c':=Option.some.inj (hE.cls.symm.trans h3)
   rw [h1,Nat.zero_add] at hcl
   have hj:j<l.classes.l.length:=(List.getElem?_eq_some_iff.1 h2).1
   cases hq:decide (q<0) with
   |true=>
    have e1:slF l e q=none:=by simp [slF,e0,hE.cls,slC,of_decide_eq_true hq]
    rw [e1]
    simp (maxSteps:=3000000) (maxDischargeDepth:=6) +contextual -implicitDefEqProofs only [amA M,amB,↓ae,↓aa,↓aj,↓ah,Nat.reduceBEq,Nat.reduceAdd,env,am,js,amG,AV.cell,Nat.reduceMul,Nat.reduceLeDiff,hr1,hr2,hq,hx,h2,di (Int.not_lt.1 hr0) hrl,az hj,hcl,bp,cY,iy,jV,n9,wk_tuple,wk_agg,Option.getD_none,Option.isSome_none]
   |false=>
    have hq0:¬ q<0:=of_decide_eq_false hq
    cases hq2:decide ((c.slots.l.length:Int)≤q) with
    |true=>
     have hql:c.slots.l.length≤q.toNat:=by have:=of_decide_eq_true hq2;omega
     have e1:slF l e q=none:=by simp [slF,e0,hE.cls,slC,hq0,List.getElem?_eq_none hql]
     rw [e1]
     simp (maxSteps:=3000000) (maxDischargeDepth:=6) +contextual -implicitDefEqProofs only [amA M,amB,↓ae,↓aa,↓aj,↓ah,Nat.reduceBEq,Nat.reduceAdd,env,am,js,amG,AV.cell,Nat.reduceMul,Nat.reduceLeDiff,hr1,hr2,hq,hq2,hx,h2,di (Int.not_lt.1 hr0) hrl,az hj,hcl,bp,cY,iy,jV,n9,wk_tuple,wk_agg,Option.getD_none,Option.isSome_none]
    |false=>
     have hql:q.toNat<c.slots.l.length:=by have:=of_decide_eq_false hq2;omega
     have hs:c.slots.l[q.toNat]?=some c.slots.l[q.toNat]:=List.getElem?_eq_getElem hql
     have hcm:c∈l.classes.l:=List.mem_of_find?_eq_some hE.cls
     have hsk:=((hl.classes.all c hcm).slots.all _ (List.getElem_mem hql)).mono (Nat.zero_le H.length)
     generalize c.slots.l[q.toNat]=s at hs hsk
     have e1:slF l e q=some s:=by simp [slF,e0,hE.cls,slC,hq0,hs]
     rw [e1]
     simp (maxSteps:=3000000) (maxDischargeDepth:=6) +contextual -implicitDefEqProofs only [amA M,amB,↓ae,↓aa,↓aj,↓ah,Nat.reduceBEq,Nat.reduceAdd,env,am,js,amG,AV.cell,Nat.reduceMul,Nat.reduceLeDiff,hr1,hr2,hq,hq2,hx,hs,h2,di (Int.not_lt.1 hr0) hrl,di (Int.not_lt.1 hq0) hql,az hj,hcl,bp,cY,iy,fk,jV,hsk.wk,wk_tuple,wk_agg,Option.getD_some,Option.isSome_some]
end
section
attribute [local congr] aS eb bQ aT bv bb aU aC aD bc be
variable{E:bP}(M:dO d8 E)
def Fy(s:bC)(a:Str):Str:=sel (s.pre == []) a ((s.pre++[43])++a)
def yf(s:bC)(b:Str):Str:=sel (s.add == []) b (b++([43]++s.add))
def JS(lem:Str)(s:bC):Str:=yf s (Fy s (lem.take (lem.length-s.cut.toNat)))
def Hs(lem:Str)(s:bC):Option Str:=sel (decide ((lem.length:Int)<s.cut)) none (some (JS lem s))
def OA(o:Option Str):AV:=.tuple [.str (o.getD []),.bool o.isSome]
theorem zF{s:Str}(h:wn s=true):s.length≤24:=by
 simp only [wn,Ko,Bool.and_eq_true,decide_eq_true_eq] at h
 omega
theorem Jj(s:bC)(a:Str)(h:s.pre.length≤6):(Fy s a).length≤a.length+7:=by
 unfold Fy;cases s.pre == []<;>simp [sel]<;>omega
theorem R8(s:bC)(a:Str)(h:s.add.length≤6):(yf s a).length≤a.length+7:=by
 unfold yf;cases s.add == []<;>simp [sel];omega
theorem Jk{lem:Str}{s:bC}(h:lem.length≤24)(hs:T5 s):(JS lem s).length≤38:=by
 have h1:=R8 s (Fy s (lem.take (lem.length-s.cut.toNat))) hs.add.1
 have h2:=Jj s (lem.take (lem.length-s.cut.toNat)) hs.pre.1
 unfold JS
 simp at h2
 omega
theorem run_underlying(hF:tG E){l:Lex}{e q:Int}{x:aR}{c:aX}{s:bC}(hA:At l e q x c s)(H:List ag) :
  M.run ka [.agg l.row,.int .i64 e,.agg s.row] H=some (.ret (OA (Hs x.lem s)),H):=by
 rw [aM M hF.morph_language_underlying rfl (c:=kg) rfl,kg]
 have hl:=zF hA.ent.lem
 have hp:=hA.sok.pre.1
 have ha:=hA.sok.add.1
 cases hd:decide ((x.lem.length:Int)<s.cut) with
 |true=>
  have e1:OA (Hs x.lem s) = .tuple [.str [],.bool false]:=by simp [OA,Hs,hd,sel]
  rw [e1]
  simp (maxSteps:=3000000) (maxDischargeDepth:=6) +contextual -implicitDefEqProofs only [amA M,amB,↓ae,↓aa,↓aj,↓ah,Nat.reduceBEq,Nat.reduceAdd,env,am,ff,amG,AV.cell,Nat.reduceMul,Nat.reduceLeDiff,hd,hA.ex,di hA.e0 hA.el,bp,cY,fk,wk_tuple]
 |false=>
  obtain ⟨m,hm⟩:=Int.eq_ofNat_of_zero_le hA.sok.cut.1
  have hml:m≤x.lem.length:=by have:=of_decide_eq_false hd;omega
  have hw:IntKind.i64.wrap ((x.lem.length:Int)-(m:Int))=((x.lem.length-m:Nat):Int):=by rw [dt (by omega) (by omega)];omega
  have hsl:=Oj (s:=x.lem) (k:=.i64) (i:=x.lem.length-m) (by omega)
  have e1:OA (Hs x.lem s) = .tuple [.str (JS x.lem s),.bool true]:=by simp [OA,Hs,hd,sel]
  have e2:JS x.lem s=yf s (Fy s (x.lem.take (x.lem.length-m))):=by rw [JS,hm];rfl
  have hal:(x.lem.take (x.lem.length-m)).length≤24:=by simp;omega
  rw [e1,e2]
  generalize x.lem.take (x.lem.length-m)=a at hsl hal
  rw [hm] at hd
  have hdn:decide (x.lem.length<m)=false:=decide_eq_false (by omega)
  have hbl:=Jj s a hp
  cases hp0:s.pre == [] with
  |true=>
   have e3:Fy s a=a:=by simp [Fy,hp0,sel]
   rw [e3] at hbl ⊢
   cases ha0:s.add == [] with
   |true=>
    have e4:yf s a=a:=by simp [yf,ha0,sel]
    rw [e4]
    simp (maxSteps:=3000000) (maxDischargeDepth:=6) +contextual -implicitDefEqProofs only [amA M,amB,↓ae,↓aa,↓aj,↓ah,Nat.reduceBEq,Nat.reduceAdd,env,am,ff,amG,AV.cell,Nat.reduceMul,Nat.reduceLeDiff,hd,hdn,hm,hw,hsl,hp0,ha0,hA.ex,di hA.e0 hA.el,bp,cY,fk,wk_tuple]
   |false=>
    have e4:yf s a=a++([43]++s.add):=by simp [yf,ha0,sel]
    rw [e4]
    simp (maxSteps:=3000000) (maxDischargeDepth:=6) +contextual -implicitDefEqProofs only [amA M,amB,↓ae,↓aa,↓aj,↓ah,Nat.reduceBEq,Nat.reduceAdd,env,am,ff,amG,AV.cell,Nat.reduceMul,Nat.reduceLeDiff,hd,hdn,hm,hw,hsl,hp0,ha0,gH (s:=[43]) (t:=s.add) (by simp;omega),gH (s:=a) (t:=43::s.add) (by simp;omega),hA.ex,di hA.e0 hA.el,bp,cY,fk,wk_tuple]
  |false=>
   have e3:Fy s a=(s.pre++[43])++a:=by simp [Fy,hp0,sel]
   rw [e3] at hbl ⊢
   cases ha0:s.add == [] with
   |true=>
    have e4:yf s ((s.pre++[43])++a)=(s.pre++[43])++a:=by simp [yf,ha0,sel]
    rw [e4]
    simp (maxSteps:=3000000) (maxDischargeDepth:=6) +contextual -implicitDefEqProofs only [amA M,amB,↓ae,↓aa,↓aj,↓ah,Nat.reduceBEq,Nat.reduceAdd,env,am,ff,amG,AV.cell,Nat.reduceMul,Nat.reduceLeDiff,hd,hdn,hm,hw,hsl,hp0,ha0,gH (s:=s.pre) (t:=[43]) (by simp;omega),gH (s:=s.pre++[43]) (t:=a) (by simp;omega),hA.ex,di hA.e0 hA.el,bp,cY,fk,wk_tuple]
   |false=>
    have e4:yf s ((s.pre++[43])++a)=((s.pre++[43])++a)++([43]++s.add):=by simp [yf,ha0,sel]
    rw [e4]
    simp (maxSteps:=3000000) (maxDischargeDepth:=6) +contextual -implicitDefEqProofs only [amA M,amB,↓ae,↓aa,↓aj,↓ah,Nat.reduceBEq,Nat.reduceAdd,env,am,ff,amG,AV.cell,Nat.reduceMul,Nat.reduceLeDiff,hd,hdn,hm,hw,hsl,hp0,ha0,gH (s:=s.pre) (t:=[43]) (by simp;omega),gH (s:=s.pre++[43]) (t:=a) (by simp;omega),gH (s:=[43]) (t:=s.add) (by simp;omega),gH (s:=s.pre++[43]++a) (t:=43::s.add) (by simp at hbl ⊢;omega),hA.ex,di hA.e0 hA.el,bp,cY,fk,wk_tuple]
def wu(v:Str):List Str→Str→List br→Option (List Str)
 |o,_,[]=>some o
 |o,u,x::l=>sel (decide (((ur v x u).length:Int)≤512)) (wu v (o++[ur v x u]) (ur v x u) l) none
def noS:AV:=.tuple [.slice .any 1 [],.bool false]
def Cr(o:Option (List Str)):AV:=.tuple [.slice .any 1 ((o.getD []).map jk),.bool o.isSome]
theorem S7{H0:List ag}(n m:Nat)(T:TypeId)(L:List ag):bO (H0++[.tok n T]) (H0++(.tok m T::L)):=⟨by simp,fun i x hi hx=>by
 rw [List.length_append] at hi
 by_cases h:i<H0.length
 ·rw [List.getElem?_append_left h] at hx ⊢;exact .inl hx
 ·obtain rfl:i=H0.length:=by simp at hi;omega
  rw [cu] at hx
  obtain rfl:=Option.some.inj hx
  exact .inr trivial⟩
theorem R9(H0:List ag)(o:ag)(L:List ag):(H0++(o::L)).take (H0.length+1)=H0++[o]:=by
 rw [show H0++(o::L)=(H0++[o])++L by simp,show H0.length+1=(H0++[o]).length by simp,List.take_left]
theorem LN(n:Nat)(l:List Str):pi n (l.map jk):=by
 rw [rowsWk_map];exact fun _ _=>⟨wk_str _ _,trivial⟩
theorem Sa(n:Nat)(s:Str):WkL n (jk s) (jk s):=⟨wk_str _ _,trivial⟩
def JT(M:dO d8 E)(fn:AFn)(d:Nat)(H0:List ag)(k:List Fra)(r:Option (List Str))(H:List ag):Option Out:=
 match r with
 |none=>some (.ret noS,H.take H0.length)
 |some r=>M.go fn H0 k (kv [(d,.slice (.own H.length) 1 (r.map jk))]) (H++[.tok (r.length*1) bg])
theorem Pv{α:Type}{row:α→List AV}{l:List α}{x:α}{r:List AV}{sz bytes:Nat}{e:TypeId}(H L:List ag)(h1:r.length=sz)(h2:r.all AV.cell=true)(h3:r.map AV.strip=row x)
  (hl:(l.length+1)*bytes≤140737488355328) (hl2:l.length+1≤4611686018427387904) :
  rap false (H++(.tok (l.length*sz) e::L)) e sz bytes false (.slice (.own H.length) sz (l.map row)) (.slice .full sz [r])=some (.slice (.own H.length) sz ((l++[x]).map row),H++(.tok ((l++[x]).length*sz) e::L)):=by
 have hr:(r.length=sz∧∀ x∈r,x.cell=true):=⟨h1,by simpa using h2⟩
 simp only [rap,EJ,DH,List.length_map,List.length_cons,List.length_nil,Nat.zero_add,or_true,if_true,hl,hl2,Iu h1 h2,and_true,true_and,cu,List.getElem?_cons_zero,hp_set0,List.set_cons_zero,List.map_cons,List.map_nil,h3,List.map_append,List.length_append,Nat.add_mul,Nat.one_mul]
 rw [Nat.add_mul,Nat.one_mul] at hl
 rw [if_pos hl]
theorem stl(hN:bz E)(hS:SpE E)(hX:rN M)(hB:sQ E){l:Lex}(hl:l.ok 0)(hV:Na l){H H0:List ag}(hc:bO H0 H){p:Nat}{T:TypeId}(hp:H[p]?=some (.cells l.row T))(k:List Fra) :
  ∀ (n i:Nat) (o:List Str) (u:Str) (He:List ag),He=H++[.tok (o.length*1) bg]→i+n=l.spells.l.length→u.length≤1000→o.length+n≤1000 →
  M.go db H0 (.c eQ :: .lp ⟨(some [3,8,10,26,27,28]),[(10,1,bg)],true⟩ eQ He :: .blk 0 :: .c (.lv [10])::k) (kv [(3,.ptr p 0),(8,.str u),(10,.slice (.own H.length) 1 (o.map jk)),(26,.slice l.spells.tag 4 (l.spells.l.map br.row)),(27,.int .i64 l.spells.l.length),(28,.int .i64 i)]) (H++[.tok (o.length*1) bg]) =
   JT M db 10 H0 k (wu l.vowels o u (l.spells.l.drop i)) H
 |0,i,o,u,He,hHe,h,hu,ho=>by
  have e:i=l.spells.l.length:=by omega
  subst e
  rw [List.drop_length,wu,JT]
  rw [ao M eQ.eq_1]
  simp (maxSteps:=3000000) (maxDischargeDepth:=6) +contextual -implicitDefEqProofs only [amA M,amB,↓ae,↓aa,↓aj,↓ah,Nat.reduceBEq,Nat.reduceAdd,env,am,fL,Nat.lt_irrefl]
 |n+1,i,o,u,He,hHe,h,hu,ho=>by
  subst hHe
  have hi:i<l.spells.l.length:=by omega
  have hx:l.spells.l[i]?=some l.spells.l[i]:=List.getElem?_eq_getElem hi
  have hd:(l.spells.l.drop i)=l.spells.l[i]::l.spells.l.drop (i+1):=List.drop_eq_getElem_cons hi
  have hm:l.spells.l[i]∈l.spells.l:=List.getElem_mem hi
  obtain ⟨p1,p2,p3,p4,p5⟩:=Nc (hV.spells _ hm)
  have hx0:=hl.spells.all _ hm
  have hsp:=fun H=>Qr M hN hS hX hB (l:=l) hx0 p1 p2 p3 p4 (s:=u) (by omega) H
  have hp':=fun L=>cf (L:=L) hp
  have hpl:=(List.getElem?_eq_some_iff.1 hp).1
  have w1:Wk (H.length+1) (.ptr p 0) (.ptr p 0):=wk_ptr (by omega)
  have w2:Wk (H.length+1) (.slice l.spells.tag 4 (l.spells.l.map br.row)) (.slice l.spells.tag 4 (l.spells.l.map br.row)):=(hl.spells.mono (Nat.zero_le _) (fun _ h=>h.mono (Nat.zero_le _))).wk (fun _ h=>h.wk)
  have w3:=fun l:List Str=>wk_slice (n:=H.length+1) (esz:=1) (tag:=.own H.length) (by simp [Kk]) (LN _ l)
  have hcm:=fun L=>pm hc L
  have htm:=fun L=>yT hc L
  rw [hd,wu]
  generalize l.spells.l[i]=x at hx hsp
  generalize ur l.vowels x u=u' at hsp
  cases hdl:decide ((u'.length:Int)≤512) with
  |false=>
   simp only [sel,JT]
   simp only [hdl] at hsp
   rw [ao M eQ.eq_1]
   simp (maxSteps:=3000000) (maxDischargeDepth:=6) +contextual -implicitDefEqProofs only [amA M,amB,↓ae,↓aa,↓aj,↓ah,Nat.reduceBEq,Nat.reduceAdd,env,am,fL,amG,AV.cell,Nat.reduceMul,Nat.reduceLeDiff,hx,hi,hsp,hp',az hi,bp,lq,hcm,htm,noS,i9,wk_tuple]
  |true=>
   simp only [hdl] at hsp
   have hul:u'.length≤1000:=by have:=of_decide_eq_true hdl;omega
   have ap:=fun L=>Pv (row:=jk) (l:=o) (x:=u') (r:=[.str u']) (sz:=1) (bytes:=16) (e:=bg) H L rfl rfl rfl (by omega) (by omega)
   have ih:=stl hN hS hX hB hl hV hc hp k n (i+1) (o++[u']) u' _ rfl (by omega) hul (by simp;omega)
   simp only [kv_cons,kv_nil] at ih
   simp only [sel]
   rw [ao M eQ.eq_1]
   simp (maxSteps:=3000000) (maxDischargeDepth:=6) +contextual -implicitDefEqProofs only [amA M,amB,↓ae,↓aa,↓aj,↓ah,Nat.reduceBEq,Nat.reduceAdd,env,am,fL,amG,AV.cell,Nat.reduceMul,Nat.reduceLeDiff,hx,hi,hsp,hp',ap,ih,w1,w2,w3,S7,R9,bq hi hl.spells.len,az hi,bp,lq]
def pG(l:Lex)(x:aR)(s:bC):Option (List Str):=
 match Hs x.lem s with
 |none=>none
 |some u=>wu l.vowels [u] u l.spells.l
theorem Qy(hN:bz E)(hS:SpE E)(hX:rN M)(hB:sQ E)(hF:tG E){l:Lex}(hl:l.ok 0)(hV:Na l){e q:Int}{x:aR}{c:aX}{s:bC}(hA:At l e q x c s)(hsl:l.spells.l.length≤900)(H:List ag) :
  M.run mS [.agg l.row,.int .i64 e,.agg s.row] H=some (.ret (Cr (pG l x s)),H):=by
 rw [aM M hF.morph_language_steps rfl (c:=nm) rfl,nm]
 have hu:=fun H=>run_underlying M hF hA H
 cases ho:Hs x.lem s with
 |none=>
  have e1:Cr (pG l x s)=noS:=by simp [Cr,pG,ho,noS]
  rw [e1]
  simp only [ho,OA,Option.getD_none,Option.isSome_none] at hu
  simp (maxSteps:=3000000) (maxDischargeDepth:=6) +contextual -implicitDefEqProofs only [amA M,amB,↓ae,↓aa,↓aj,↓ah,Nat.reduceBEq,Nat.reduceAdd,env,am,fL,amG,AV.cell,Nat.reduceMul,Nat.reduceLeDiff,hu,bp,fk,noS,i9,wk_tuple]
 |some u=>
  have e1:pG l x s=wu l.vowels [u] u l.spells.l:=by simp [pG,ho]
  have hul:u.length≤1000:=by
   have:=Jk (zF hA.ent.lem) hA.sok
   unfold Hs at ho
   revert ho
   cases decide ((x.lem.length:Int)<s.cut) with
   |true=>simp [sel]
   |false=>intro ho;rw [← Option.some.inj ho];omega
  rw [e1]
  simp only [ho,OA,Option.getD_some,Option.isSome_some] at hu
  have h1:=fun k=>stl M hN hS hX hB hl hV (H:=H++[.cells l.row aK,.cells s.row bR]) (H0:=H) (cut_app H _) (p:=H.length) (T:=aK) (by rw [cu];rfl) k l.spells.l.length 0 [u] u _ rfl (by omega) hul (by simp;omega)
  simp only [kv_cons,kv_nil,Int.ofNat_zero,List.drop_zero,List.length_append,List.length_cons,List.length_nil,Nat.zero_add,Nat.reduceAdd,List.append_assoc,List.cons_append,List.nil_append,List.map_cons,List.map_nil,jk] at h1
  simp (maxSteps:=3000000) (maxDischargeDepth:=6) +contextual -implicitDefEqProofs only [amA M,amB,↓ae,↓aa,↓aj,↓ah,Nat.reduceBEq,Nat.reduceAdd,env,am,fL,amG,AV.cell,Nat.reduceMul,Nat.reduceLeDiff,hu,h1,bp,fk,wk_tuple,jk]
  generalize wu l.vowels [u] u l.spells.l=r
  cases r with
  |none=>simp only [JT,hp_take];rfl
  |some r=>
   simp only [JT,kv_cons,kv_nil]
   simp (maxSteps:=3000000) (maxDischargeDepth:=6) +contextual -implicitDefEqProofs only [amA M,amB,↓ae,↓aa,↓aj,↓ah,Nat.reduceBEq,Nat.reduceAdd,env,am,fL,LN,Sa,cut_app,implies_true,wk_tuple]
   rfl
theorem yg{l:Lex}(h:iU l=0):l.spells.l.length≤16:=by
 have:=(pR (CJ h).2.2.1).1
 omega
end
section
attribute [local congr] aS eb bQ aT bv bb aU aC aD bc be
variable{E:bP}(M:dO d8 E)
theorem UL(hN:bz E)(hS:Eb E){l:Lex}(hl:l.ok 0)(hV:Na l){H H0:List ag}(hc:bO H0 H){p:Nat}{T:TypeId}(hp:H[p]?=some (.cells l.row T))(k:List Fra) :
  ∀ (n i:Nat) (o:List Str) (u:Str) (He:List ag),i+n=l.spells.l.length→u.length≤1000→o.length+n≤1000 →
  M.go dC H0 (.c dG :: .lp ⟨(some [3,11,12,13]),[(12,1,bg)],false⟩ dG He :: .blk 0 :: .c (.lv [12])::k) (kv [(3,.ptr p 0),(11,.str u),(12,.slice (.own H.length) 1 (o.map jk)),(13,.int .i64 i)]) (H++[.tok (o.length*1) bg]) =
   JT M dC 12 H0 k (wu l.vowels o u (l.spells.l.drop i)) H
 |0,i,o,u,He,h,hu,ho=>by
  have e:i=l.spells.l.length:=by omega
  subst e
  have hp':=fun L=>cf (L:=L) hp
  rw [List.drop_length,wu,JT]
  rw [ao M dG.eq_1]
  simp (maxSteps:=3000000) (maxDischargeDepth:=6) +contextual -implicitDefEqProofs only [amA M,amB,↓ae,↓aa,↓aj,↓ah,Nat.reduceBEq,Nat.reduceAdd,env,am,dD,Nat.lt_irrefl,hp',bp]
 |n+1,i,o,u,He,h,hu,ho=>by
  have hi:i<l.spells.l.length:=by omega
  have hx:l.spells.l[i]?=some l.spells.l[i]:=List.getElem?_eq_getElem hi
  have hd:(l.spells.l.drop i)=l.spells.l[i]::l.spells.l.drop (i+1):=List.drop_eq_getElem_cons hi
  have hm:l.spells.l[i]∈l.spells.l:=List.getElem_mem hi
  obtain ⟨p1,p2,p3,p4,p5⟩:=Nc (hV.spells _ hm)
  have hx0:=hl.spells.all _ hm
  have hsp:=fun H=>LL M hN hS hl hV.vowels hx0 p1 p2 p3 p4 (s:=u) (by omega) H
  have hp':=fun L=>cf (L:=L) hp
  have hcm:=fun L=>pm hc L
  have htm:=fun L=>yT hc L
  rw [hd,wu]
  generalize l.spells.l[i]=x at hx hsp
  generalize ur l.vowels x u=u' at hsp
  cases hdl:decide ((u'.length:Int)≤512) with
  |false=>
   simp only [sel,JT]
   simp only [hdl] at hsp
   rw [ao M dG.eq_1]
   simp (maxSteps:=3000000) (maxDischargeDepth:=6) +contextual -implicitDefEqProofs only [amA M,amB,↓ae,↓aa,↓aj,↓ah,Nat.reduceBEq,Nat.reduceAdd,env,am,dD,amG,AV.cell,Nat.reduceMul,Nat.reduceLeDiff,hx,hi,hsp,hp',az hi,bp,lq,hcm,htm,noS,i9,wk_tuple]
  |true=>
   simp only [hdl] at hsp
   have hul:u'.length≤1000:=by have:=of_decide_eq_true hdl;omega
   have ap:=fun L=>Pv (row:=jk) (l:=o) (x:=u') (r:=[.str u']) (sz:=1) (bytes:=16) (e:=bg) H L rfl rfl rfl (by omega) (by omega)
   have ih:=fun He=>UL hN hS hl hV hc hp k n (i+1) (o++[u']) u' He (by omega) hul (by simp;omega)
   simp only [kv_cons,kv_nil] at ih
   simp only [sel]
   rw [ao M dG.eq_1]
   simp (maxSteps:=3000000) (maxDischargeDepth:=6) +contextual -implicitDefEqProofs only [amA M,amB,↓ae,↓aa,↓aj,↓ah,Nat.reduceBEq,Nat.reduceAdd,env,am,dD,amG,AV.cell,Nat.reduceMul,Nat.reduceLeDiff,hx,hi,hsp,hp',ap,ih,bq hi hl.spells.len,az hi,bp,lq]
theorem OB(hN:bz E)(hS:Eb E){l:Lex}(hl:l.ok 0)(hV:Na l)(hsl:l.spells.l.length≤900){s:bC}{u:Str}(hul:u.length≤1000)(H:List ag) :
  M.go dC H [.c dG,.lp ⟨some [3,11,12,13],[(12,1,bg)],false⟩ dG (H++[.cells l.row aq,.cells s.row bR,.tok 1 bg]),.blk 0,.c (.lv [12]),.c (Sh.Q (Sh.O [Sh.m 86 12,Sh.m 6 86,Sh.mc 7 Sh.T]) Sh.R)]
   (rP (rP (rP (rP Env.leaf 13 (.int .i64 0)) 12 (.slice (.own (H.length+2)) 1 [[.str u]])) 11 (.str u)) 3 (.ptr H.length 0)) (H++[.cells l.row aq,.cells s.row bR,.tok 1 bg])=some (.ret (Cr (wu l.vowels [u] u l.spells.l)),H):=by
 have h1:=fun k He=>UL M hN hS hl hV (H:=H++[.cells l.row aq,.cells s.row bR]) (H0:=H) (cut_app H _) (p:=H.length) (T:=aq) (by rw [cu];rfl) k l.spells.l.length 0 [u] u He (by omega) hul (by simp;omega)
 simp only [kv_cons,kv_nil,Int.ofNat_zero,List.drop_zero,List.length_append,List.length_cons,List.length_nil,Nat.zero_add,Nat.reduceAdd,List.append_assoc,List.cons_append,List.nil_append,List.map_cons,List.map_nil,jk,Nat.mul_one] at h1
 rw [h1]
 generalize wu l.vowels [u] u l.spells.l=r
 cases r with
 |none=>simp only [JT,hp_take];rfl
 |some r=>
  simp only [JT,kv_cons,kv_nil]
  simp (maxSteps:=3000000) (maxDischargeDepth:=6) +contextual -implicitDefEqProofs only [amA M,amB,↓ae,↓aa,↓aj,↓ah,Nat.reduceBEq,Nat.reduceAdd,env,am,dD,LN,Sa,cut_app,implies_true,wk_tuple]
  rfl
theorem OC(hN:bz E)(hR:tE E)(hS:Eb E)(hF:tG E){l:Lex}(hl:l.ok 0)(hk:iU l=0){e q:Int}{x:aR}{c:aX}{s:bC}(hA:At l e q x c s)(H:List ag) :
  M.run og [.agg l.row,.int .i64 e,.int .i64 q] H=some (.ret (Cr (pG l x s)),H):=by
 rw [aM M hF.truchmanref02_steps rfl (c:=oQ) rfl,oQ]
 have hV:=Nb hk
 have hsl:=yg hk
 have ha':=fun H=>CL M hR hF hl hk e q H
 simp only [hA.sl hk,Option.getD_some,Option.isSome_some] at ha'
 have hl4:=zF hA.ent.lem
 have hp:=hA.sok.pre.1
 have ha:=hA.sok.add.1
 cases hd:decide ((x.lem.length:Int)<s.cut) with
 |true=>
  have e1:Cr (pG l x s)=noS:=by simp [Cr,pG,Hs,hd,sel,noS]
  rw [e1]
  simp (maxSteps:=3000000) (maxDischargeDepth:=6) +contextual -implicitDefEqProofs only [amA M,amB,↓ae,↓aa,↓aj,↓ah,Nat.reduceBEq,Nat.reduceAdd,env,am,dD,amG,AV.cell,Nat.reduceMul,Nat.reduceLeDiff,ha',hd,hA.ex,di hA.e0 hA.el,bp,cY,fk,noS,i9,wk_tuple]
 |false=>
  obtain ⟨m,hm⟩:=Int.eq_ofNat_of_zero_le hA.sok.cut.1
  have hml:m≤x.lem.length:=by have:=of_decide_eq_false hd;omega
  have hw:IntKind.i64.wrap ((x.lem.length:Int)-(m:Int))=((x.lem.length-m:Nat):Int):=by rw [dt (by omega) (by omega)];omega
  have hsc:=Oj (s:=x.lem) (k:=.i64) (i:=x.lem.length-m) (by omega)
  have e1:pG l x s=wu l.vowels [JS x.lem s] (JS x.lem s) l.spells.l:=by simp [pG,Hs,hd,sel]
  have e2:JS x.lem s=yf s (Fy s (x.lem.take (x.lem.length-m))):=by rw [JS,hm];rfl
  have hul:=Jk hl4 hA.sok
  have hal:(x.lem.take (x.lem.length-m)).length≤24:=by simp;omega
  have hend:=fun (u:Str) (hu:u.length≤38)=>OB M hN hS hl hV (s:=s) (u:=u) (by omega) (by omega) H
  rw [e1]
  rw [e2] at hul ⊢
  generalize x.lem.take (x.lem.length-m)=a at hsc hal hul
  rw [hm] at hd
  have hdn:decide (x.lem.length<m)=false:=decide_eq_false (by omega)
  have hbl:=Jj s a hp
  cases hp0:s.pre == [] with
  |true=>
   have e3:Fy s a=a:=by simp [Fy,hp0,sel]
   rw [e3] at hbl hul ⊢
   cases ha0:s.add == [] with
   |true=>
    have e4:yf s a=a:=by simp [yf,ha0,sel]
    rw [e4] at hul ⊢
    simp (maxSteps:=3000000) (maxDischargeDepth:=6) +contextual -implicitDefEqProofs only [amA M,amB,↓ae,↓aa,↓aj,↓ah,Nat.reduceBEq,Nat.reduceAdd,env,am,dD,amG,AV.cell,Nat.reduceMul,Nat.reduceLeDiff,ha',hend _ hul,hd,hdn,hm,hw,hsc,hp0,ha0,hA.ex,di hA.e0 hA.el,bp,cY,fk,wk_tuple]
   |false=>
    have e4:yf s a=(a++[43])++s.add:=by simp [yf,ha0,sel]
    rw [e4] at hul ⊢
    simp (maxSteps:=3000000) (maxDischargeDepth:=6) +contextual -implicitDefEqProofs only [amA M,amB,↓ae,↓aa,↓aj,↓ah,Nat.reduceBEq,Nat.reduceAdd,env,am,dD,amG,AV.cell,Nat.reduceMul,Nat.reduceLeDiff,ha',hend _ hul,hd,hdn,hm,hw,hsc,hp0,ha0,gH (s:=a) (t:=[43]) (by simp;omega),gH (s:=a++[43]) (t:=s.add) (by simp;omega),hA.ex,di hA.e0 hA.el,bp,cY,fk,wk_tuple]
  |false=>
   have e3:Fy s a=(s.pre++[43])++a:=by simp [Fy,hp0,sel]
   rw [e3] at hbl hul ⊢
   cases ha0:s.add == [] with
   |true=>
    have e4:yf s ((s.pre++[43])++a)=(s.pre++[43])++a:=by simp [yf,ha0,sel]
    rw [e4] at hul ⊢
    simp (maxSteps:=3000000) (maxDischargeDepth:=6) +contextual -implicitDefEqProofs only [amA M,amB,↓ae,↓aa,↓aj,↓ah,Nat.reduceBEq,Nat.reduceAdd,env,am,dD,amG,AV.cell,Nat.reduceMul,Nat.reduceLeDiff,ha',hend _ hul,hd,hdn,hm,hw,hsc,hp0,ha0,gH (s:=s.pre) (t:=[43]) (by simp;omega),gH (s:=s.pre++[43]) (t:=a) (by simp;omega),hA.ex,di hA.e0 hA.el,bp,cY,fk,wk_tuple]
   |false=>
    have e4:yf s ((s.pre++[43])++a)=(((s.pre++[43])++a)++[43])++s.add:=by simp [yf,ha0,sel]
    rw [e4] at hul ⊢
    simp (maxSteps:=3000000) (maxDischargeDepth:=6) +contextual -implicitDefEqProofs only [amA M,amB,↓ae,↓aa,↓aj,↓ah,Nat.reduceBEq,Nat.reduceAdd,env,am,dD,amG,AV.cell,Nat.reduceMul,Nat.reduceLeDiff,ha',hend _ hul,hd,hdn,hm,hw,hsc,hp0,ha0,gH (s:=s.pre) (t:=[43]) (by simp;omega),gH (s:=s.pre++[43]) (t:=a) (by simp;omega),gH (s:=s.pre++[43]++a) (t:=[43]) (by simp at hbl ⊢;omega),gH (s:=s.pre++[43]++a++[43]) (t:=s.add) (by simp at hbl ⊢;omega),hA.ex,di hA.e0 hA.el,bp,cY,fk,wk_tuple]
end
section
attribute [local congr] aS eb bQ aT bv bb aU aC aD bc be
variable{E:bP}(M:dO d8 E)
structure Jl (M:dO d8 E):Prop where
 count:∀ (s:Str) (c:UInt8) (H:List ag),M.run ej [.str s,.int .u8 c.toNat] H=some (.ret (.int .i64 (Lib.countByte s c:Nat)),H)
 noZero:∀ (n:Nat) (H:List ag),n≤281474976710656→M.run dF [.int .i64 n] H=some (.ret (.rslice H.length 0 n 1 true),H++[.cells (List.replicate n .unk) dN])
theorem Nl{H L L':List ag}(h:L.length≤L'.length)(hw:∀ x∈L',OX (H++L).length x):bO (H++L) (H++L'):=⟨by simp;omega,fun i x hi hx=>by
 by_cases h1:i<H.length
 ·left;rw [List.getElem?_append_left h1] at hx ⊢;exact hx
 ·right;rw [List.getElem?_append_right (by omega)] at hx;exact hw x (List.mem_of_getElem? hx)⟩
abbrev qH(a x:AV):ag:=.cells [a,x] bt
theorem Pw(hB:sQ E)(hX:rN M)(H:List ag) :
  M.run cC [.ptr H.length 0] (H++[qH .nilp (.slice .nil 1 [])])=some (.ret (.tuple []),H++[qH (.ptr H.length 0) (.slice .nil 1 [])]):=by
 rw [aM M hB.strings_Builder_copyCheck rfl (c:=bX) rfl,bX]
 have h1:=hX.same H.length 0
 have hc:bO (H++[qH .nilp (.slice .nil 1 [])]) (H++[qH (.ptr H.length 0) (.slice .nil 1 [])]):=Nl (by simp) (by
  intro x hx
  obtain rfl:x=_:=by simpa using hx
  intro c hc
  simp only [List.mem_cons,List.not_mem_nil,or_false] at hc
  rcases hc with rfl | rfl
  ·exact wk_ptr (by simp)
  ·exact T6 _ _)
 have ht:(H++[qH (.ptr H.length 0) (.slice .nil 1 [])]).take (H.length+1)=H++[qH (.ptr H.length 0) (.slice .nil 1 [])]:=List.take_of_length_le (by simp)
 have e1:Nz (H++[qH .nilp (.slice .nil 1 [])]) (.ptr H.length 0)=some (.ptr H.length 0):=by simp [Nz,cu]
 have e2:NA (H++[qH .nilp (.slice .nil 1 [])]) bt 2 (.ptr H.length 0)=some (.ptr H.length 0):=by simp [NA,cu]
 simp (maxSteps:=3000000) (maxDischargeDepth:=6) +contextual -implicitDefEqProofs only [amA M,amB,↓ae,↓aa,↓aj,↓ah,Nat.reduceBEq,Nat.reduceAdd,env,am,iu,amG,AV.cell,Nat.reduceMul,Nat.reduceLeDiff,h1,qU,M7,rnc,e1,e2,hc,ht,wk_tuple]
theorem S8(hB:sQ E)(H L:List ag)(x:AV) :
  M.run cC [.ptr H.length 0] (H++(qH (.ptr H.length 0) x::L))=some (.ret (.tuple []),H++(qH (.ptr H.length 0) x::L)):=by
 rw [aM M hB.strings_Builder_copyCheck rfl (c:=bX) rfl,bX]
 have ht:(H++(qH (.ptr H.length 0) x::L)).take (H.length+(L.length+1))=H++(qH (.ptr H.length 0) x::L):=List.take_of_length_le (by simp)
 simp (maxSteps:=3000000) (maxDischargeDepth:=6) +contextual -implicitDefEqProofs only [amA M,amB,↓ae,↓aa,↓aj,↓ah,Nat.reduceBEq,Nat.reduceAdd,env,am,iu,I5,M8,rnc,ht,wk_tuple]
theorem OD{g:FuncId}{first cap args:List AV}{H H':List ag}{v:AV}(h:H'.take H.length=H)(T L:List Nat):DL d8 E .keep (.fn (.func g) first cap) args H T L (some (.ret v,H'))=some (v,H',T,L):=by
 unfold DL xw
 simp only [Ki h,BE.b,if_true]
theorem Sb(hF:tG E)(hX:Jl M)(H:List ag){n:Nat}(hn:n≤281474976710656) :
  M.run mV [.ptr H.length 0,.int .i64 n] (H++[qH (.ptr H.length 0) (.slice .nil 1 [])])=some (.ret (.tuple []),H++[qH (.ptr H.length 0) (.rslice (H.length+1) 0 0 1 true),.cells (List.replicate n .unk) dN]):=by
 rw [aM M hF.strings_Builder_grow rfl (c:=nr) rfl,nr]
 have w1:IntKind.i64.wrap (2*0)=0:=by decide
 have w2:IntKind.i64.wrap (0+(n:Int))=(n:Int):=by rw [dt (by omega) (by omega)];omega
 have h1:=fun H=>hX.noZero n H hn
 have e0:((0:Nat):Int)=0:=rfl
 have e1:Me (.slice .nil 1 [])=some (.int .i64 0):=rfl
 have e2:CM 1 (.rslice (H.length+1) 0 n 1 true) none (some (.int .i64 0)) none=some (.rslice (H.length+1) 0 0 1 true):=by simp [CM,fD]
 have e3:rcp (H++[qH (.ptr H.length 0) (.slice .nil 1 []),.cells (List.replicate n .unk) dN]) 1 false (.rslice (H.length+1) 0 0 1 true) (.slice .nil 1 [])=some (.int .i64 0,H++[qH (.ptr H.length 0) (.slice .nil 1 []),.cells (List.replicate n .unk) dN]):=by
  simp only [rcp,DH,true_or,if_true,hp_getk,List.getElem?_cons_succ,List.getElem?_cons_zero,List.length_nil,Nat.le_refl,Nat.zero_le,Nat.zero_mul,Nat.add_zero,true_and,and_true,List.flatten_nil,aP]
  rw [if_pos (by rfl)]
  rw [List.set_append_right _ _ (by omega)]
  simp
 have hdk:=fun T L=>OD (E:=E) (g:=dF) (first:=[]) (cap:=[]) (args:=[.int .i64 n]) (H:=H++[qH (.ptr H.length 0) (.slice .nil 1 [])]) (H':=H++[qH (.ptr H.length 0) (.slice .nil 1 []),.cells (List.replicate n .unk) dN]) (v:=.rslice (H.length+1) 0 n 1 true) (by
  rw [show H++[qH (.ptr H.length 0) (.slice .nil 1 []),ag.cells (List.replicate n .unk) dN]=(H++[qH (.ptr H.length 0) (.slice .nil 1 [])])++[.cells (List.replicate n .unk) dN] by simp,List.take_left]) T L
 simp (maxSteps:=3000000) (maxDischargeDepth:=6) +contextual -implicitDefEqProofs only [amA M,amB,↓ae,↓aa,↓aj,↓ah,Nat.reduceBEq,Nat.reduceAdd,env,am,Aj,amG,AV.cell,Nat.reduceMul,Nat.reduceLeDiff,rnc,w1,w2,h1,e0,e1,e2,e3,hdk]
theorem Qz(hB:sQ E)(hE:rN M)(hF:tG E)(hX:Jl M)(H:List ag){n:Nat}(h0:0<n)(hn:n≤281474976710656) :
  M.run j9 [.ptr H.length 0,.int .i64 n] (H++[qH .nilp (.slice .nil 1 [])])=some (.ret (.tuple []),H++[qH (.ptr H.length 0) (.rslice (H.length+1) 0 0 1 true),.cells (List.replicate n .unk) dN]):=by
 rw [aM M hF.strings_Builder_Grow rfl (c:=iI) rfl,iI]
 have w1:IntKind.i64.wrap (0-0)=0:=by decide
 have e0:((0:Nat):Int)=0:=rfl
 have e1:Me (.slice .nil 1 [])=some (.int .i64 0):=rfl
 have d1:decide ((n:Int)<0)=false:=decide_eq_false (by omega)
 have d2:decide ((0:Int)<(n:Int))=true:=decide_eq_true (by omega)
 have d3:decide (0<n)=true:=decide_eq_true h0
 simp (maxSteps:=3000000) (maxDischargeDepth:=6) +contextual -implicitDefEqProofs only [amA M,amB,↓ae,↓aa,↓aj,↓ah,Nat.reduceBEq,Nat.reduceAdd,env,am,sd,amG,AV.cell,Nat.reduceMul,Nat.reduceLeDiff,rnc,Pw M hB hE,Sb M hF hX H hn,w1,e0,e1,d1,d2,d3]
theorem OE(hB:sQ E)(hE:rN M)(hF:tG E)(H:List ag) :
  M.run j9 [.ptr H.length 0,.int .i64 0] (H++[qH .nilp (.slice .nil 1 [])])=some (.ret (.tuple []),H++[qH (.ptr H.length 0) (.slice .nil 1 [])]):=by
 rw [aM M hF.strings_Builder_Grow rfl (c:=iI) rfl,iI]
 have w1:IntKind.i64.wrap (0-0)=0:=by decide
 have e0:((0:Nat):Int)=0:=rfl
 have e1:Me (.slice .nil 1 [])=some (.int .i64 0):=rfl
 have d1:decide ((0:Int)<0)=false:=rfl
 simp (maxSteps:=3000000) (maxDischargeDepth:=6) +contextual -implicitDefEqProofs only [amA M,amB,↓ae,↓aa,↓aj,↓ah,Nat.reduceBEq,Nat.reduceAdd,env,am,sd,amG,AV.cell,Nat.reduceMul,Nat.reduceLeDiff,rnc,Pw M hB hE,w1,e0,e1,d1]
end
section
attribute [local congr] aS eb bQ aT bv bb aU aC aD bc be
variable{E:bP}(M:dO d8 E)
def s9(s:Str):Str:=s.filter fun c => !(c == 43)
inductive BL where
 |nil
 |room (n:Nat)
 |own (w:Str)
def BL.str:BL→Str
 |.own w=>w
 |_=>[]
def BL.wr:BL→Str→BL
 |.nil,_=>.nil
 |.room _,s=>.own s
 |.own w,s=>.own (w++s)
def BL.heap(H:List ag):BL→List ag
 |.nil=>H++[qH (.ptr H.length 0) (.slice .nil 1 [])]
 |.room n=>H++[qH (.ptr H.length 0) (.rslice (H.length+1) 0 0 1 true),.cells (List.replicate n .unk) dN]
 |.own w=>H++[qH (.ptr H.length 0) (.slice (.own (H.length+1)) 1 (gC w)),bTok w]
theorem Nm(H:List ag):BL.heap H .nil=H++[qH (.ptr H.length 0) (.slice .nil 1 [])]:=rfl
theorem KQ(H:List ag)(n:Nat):BL.heap H (.room n)=H++[qH (.ptr H.length 0) (.rslice (H.length+1) 0 0 1 true),.cells (List.replicate n .unk) dN]:=rfl
theorem BL.wr_str(b:BL)(s:Str)(h:b = .nil→s=[]):(b.wr s).str=b.str++s:=by
 cases b with
 |nil=>rw [h rfl];rfl
 |room n=>rfl
 |own w=>rfl
theorem BL.wr_nil{b:BL}{s:Str}(h:b.wr s = .nil):b = .nil:=by cases b<;>simp [BL.wr] at h ⊢
theorem ap2(H:List ag)(x:ag){w s:Str}(h:w.length+s.length≤140737488355328) :
  rap false (H++[x,bTok w]) dN 1 1 true (.slice (.own (H.length+1)) 1 (gC w)) (.str s)=some (.slice (.own (H.length+1)) 1 (gC (w++s)),H++[x,bTok (w++s)]):=by
 have:=Oi (H++[x]) [] h
 rw [List.append_assoc,List.append_assoc,List.length_append] at this
 exact this
theorem apR(H:List ag)(x:ag)(n:Nat){s:Str}(h:s.length≤140737488355328) :
  rap false (H++[x,.cells (List.replicate n .unk) dN]) dN 1 1 true (.rslice (H.length+1) 0 0 1 true) (.str s)=some (.slice (.own (H.length+1)) 1 (gC s),H++[x,bTok s]):=by
 have h2:=ap2 H x (w:=[]) (s:=s) (by simpa using h)
 have e:(H++[x,ag.cells (List.replicate n .unk) dN]).set (H.length+1) (.tok 0 dN)=H++[x,bTok []]:=by
  rw [List.set_append_right _ _ (by omega)];simp
 rw [List.nil_append] at h2
 rw [← h2]
 show (match (H++[x,ag.cells (List.replicate n .unk) dN])[H.length+1]? with
  |some (.cells _ T)=>EJ ((H++[x,ag.cells (List.replicate n .unk) dN]).set (H.length+1) (.tok 0 T)) dN 1 1 true (.slice (.own (H.length+1)) 1 []) (.str s)
  |_=>none)=_
 rw [hp_getk]
 simp only [List.getElem?_cons_succ,List.getElem?_cons_zero]
 rw [e]
 rfl
theorem apN(H:List ag):rap false H dN 1 1 true (.slice .nil 1 []) (.str [])=some (.slice .nil 1 [],H):=by
 simp [rap,EJ,DH,qY]
theorem Sc(H:List ag)(x y:ag)(w:Str):bO (H++[x,y]) (H++[qH (.ptr H.length 0) (.slice (.own (H.length+1)) 1 (gC w)),bTok w]):=Nl (by simp) (by
 intro z hz
 simp only [List.mem_cons,List.not_mem_nil,or_false] at hz
 rcases hz with rfl | rfl
 ·intro c hc
  simp only [List.mem_cons,List.not_mem_nil,or_false] at hc
  rcases hc with rfl | rfl
  ·exact wk_ptr (by simp)
  ·exact wk_slice (show H.length+1<_ by simp) (M6 _ _)
 ·trivial)
theorem LO(H:List ag)(x y:ag):(H++[x,y]).take (H.length+2)=H++[x,y]:=List.take_of_length_le (by simp)
theorem Px(H:List ag)(x:ag):(H++[x]).take (H.length+1)=H++[x]:=List.take_of_length_le (by simp)
theorem OF(hB:sQ E)(H:List ag)(b:BL){s:Str}(h:b.str.length+s.length≤140737488355328)(hn:b = .nil→s=[]) :
  M.run aF [.ptr H.length 0,.str s] (b.heap H)=some (.ret (.tuple [.int .i64 s.length,.nilif]),(b.wr s).heap H):=by
 rw [aM M hB.strings_Builder_WriteString rfl (c:=cL) rfl,cL]
 have hc1:=fun L x=>S8 M hB H L x
 cases b with
 |nil=>
  rw [hn rfl]
  simp only [BL.heap,BL.wr]
  have a1:=fun H=>apN H
  simp (maxSteps:=3000000) (maxDischargeDepth:=6) +contextual -implicitDefEqProofs only [amA M,amB,↓ae,↓aa,↓aj,↓ah,Nat.reduceBEq,Nat.reduceAdd,env,am,eB,amG,AV.cell,Nat.reduceMul,Nat.reduceLeDiff,hc1,rnc,a1,Px,cut_refl,wk_tuple]
 |room n=>
  simp only [BL.heap,BL.wr]
  have a1:=fun x=>apR H x n (s:=s) (by simp [BL.str] at h;omega)
  have hcut:=fun x y=>Sc H x y s
  simp (maxSteps:=3000000) (maxDischargeDepth:=6) +contextual -implicitDefEqProofs only [amA M,amB,↓ae,↓aa,↓aj,↓ah,Nat.reduceBEq,Nat.reduceAdd,env,am,eB,amG,AV.cell,Nat.reduceMul,Nat.reduceLeDiff,hc1,rnc,a1,hcut,LO,wk_tuple]
 |own w=>
  simp only [BL.heap,BL.wr]
  have a1:=fun x=>ap2 H x (w:=w) (s:=s) h
  have hcut:=fun x y=>Sc H x y (w++s)
  simp (maxSteps:=3000000) (maxDischargeDepth:=6) +contextual -implicitDefEqProofs only [amA M,amB,↓ae,↓aa,↓aj,↓ah,Nat.reduceBEq,Nat.reduceAdd,env,am,eB,amG,AV.cell,Nat.reduceMul,Nat.reduceLeDiff,hc1,rnc,a1,hcut,LO,wk_tuple]
theorem Sd(hB:sQ E)(H:List ag)(b:BL)(h:b.str.length≤9223372036854775807)(hr:∀ n,b≠.room n) :
  M.run dj [.ptr H.length 0] (b.heap H)=some (.ret (.str b.str),b.heap H):=by
 rw [aM M hB.strings_Builder_String rfl (c:=gl) rfl,gl]
 cases b with
 |room n=>exact absurd rfl (hr n)
 |nil=>
  simp only [BL.heap,BL.str]
  have e1:PG (.slice .nil 1 [])=some (.sdp 0 []):=rfl
  have e2:∀ H,Lc H dN (.sdp 0 []) (.int .i64 0)=some (.str []):=fun H=>rfl
  have e0:((0:Nat):Int)=0:=rfl
  simp (maxSteps:=3000000) (maxDischargeDepth:=6) +contextual -implicitDefEqProofs only [amA M,amB,↓ae,↓aa,↓aj,↓ah,Nat.reduceBEq,Nat.reduceAdd,env,am,lw,amG,AV.cell,Nat.reduceMul,Nat.reduceLeDiff,qU,rnc,e0,e1,e2,Px]
 |own w=>
  simp only [BL.heap,BL.str] at h ⊢
  have e2:∀ x,Lc (H++[x,bTok w]) dN (.sdp (H.length+1) (gC w)) (.int .i64 (w.length:Int))=some (.str w):=fun x=>by
   have:=Ts (H++[x]) [] w h
   rw [List.append_assoc,List.length_append] at this
   exact this
  simp (maxSteps:=3000000) (maxDischargeDepth:=6) +contextual -implicitDefEqProofs only [amA M,amB,↓ae,↓aa,↓aj,↓ah,Nat.reduceBEq,Nat.reduceAdd,env,am,lw,amG,AV.cell,Nat.reduceMul,Nat.reduceLeDiff,qU,rnc,Tt,e2,LO]
theorem OG(hF:tG E)(hS:SpE E)(hX:rN M)(s:Str)(c:UInt8)(H:List ag):M.run nJ [.str s,.str [c]] H=some (.ret (.int .i64 (Lib.indexByte s c)),H):=by
 have h1:M.run cP [.str s,.int .u8 c.toNat] H=some (.ret (.int .i64 (Lib.indexByte s c)),H):=by
  rw [aM M hS.internal_stringslite_IndexByte rfl (c:=dW) rfl,dW]
  have h2:=hX.index s c H
  simp (maxSteps:=3000000) (maxDischargeDepth:=6) +contextual -implicitDefEqProofs only [amA M,amB,↓ae,↓aa,↓aj,↓ah,Nat.reduceBEq,Nat.reduceAdd,env,am,k8,h2]
 have h2:M.run gF [.str s,.str [c]] H=some (.ret (.int .i64 (Lib.indexByte s c)),H):=by
  rw [aM M hF.internal_stringslite_Index rfl (c:=jU) rfl,jU]
  have e0:((([c].length:Nat):Int) == 0)=false:=rfl
  have e1:((([c].length:Nat):Int) == 1)=true:=rfl
  have e2:GP ([c]:Str)[0]?=some (.int .u8 (c.toNat:Int)):=rfl
  cases he:([c]:Str) == s with
  |true=>
   have:Lib.indexByte s c=0:=by rw [← eq_of_beq he];simp [Lib.indexByte]
   rw [this]
   simp (maxSteps:=3000000) (maxDischargeDepth:=6) +contextual -implicitDefEqProofs only [amA M,amB,↓ae,↓aa,↓aj,↓ah,Nat.reduceBEq,Nat.reduceAdd,env,am,nP,e0,e1,he]
  |false=>
   simp (maxSteps:=3000000) (maxDischargeDepth:=6) +contextual -implicitDefEqProofs only [amA M,amB,↓ae,↓aa,↓aj,↓ah,Nat.reduceBEq,Nat.reduceAdd,env,am,nP,e0,e1,e2,h1,he]
 rw [aM M hF.strings_Index rfl (c:=uG) rfl,uG]
 simp (maxSteps:=3000000) (maxDischargeDepth:=6) +contextual -implicitDefEqProofs only [amA M,amB,↓ae,↓aa,↓aj,↓ah,Nat.reduceBEq,Nat.reduceAdd,env,am,Hh,h2]
theorem OH(hF:tG E)(hX:Jl M)(s:Str)(c:UInt8)(H:List ag):M.run kT [.str s,.str [c]] H=some (.ret (.int .i64 (Lib.countByte s c:Nat)),H):=by
 rw [aM M hF.strings_Count rfl (c:=uF) rfl,uF]
 have h2:=hX.count s c H
 have e0:((([c].length:Nat):Int) == 0)=false:=rfl
 have e1:((([c].length:Nat):Int) == 1)=true:=rfl
 have e2:GP ([c]:Str)[0]?=some (.int .u8 (c.toNat:Int)):=rfl
 simp (maxSteps:=3000000) (maxDischargeDepth:=6) +contextual -implicitDefEqProofs only [amA M,amB,↓ae,↓aa,↓aj,↓ah,Nat.reduceBEq,Nat.reduceAdd,env,am,Hg,e0,e1,e2,h2]
theorem Se(a b:Str):s9 (a++b)=s9 a++s9 b:=List.filter_append ..
theorem GW:∀ (s:Str) (m:Nat),Lib.countByte s 43=m+1→∃ a r,s=a++43::r∧s9 a=a∧Lib.indexByte s 43=(a.length:Int)∧Lib.countByte r 43=m
 |[],m,h=>by simp [Lib.countByte] at h
 |c::s,m,h=>by
  by_cases hc:c=43
  ·subst hc
   exact ⟨[],s,rfl,rfl,by simp [Lib.indexByte],by simpa [Lib.countByte] using h⟩
  ·obtain ⟨a,r,h1,h2,h3,h4⟩:=GW s m (by rwa [Lib.countByte,List.count_cons_of_ne (Ne.symm (by simpa using (fun e=>hc e.symm)))] at h)
   refine ⟨c::a,r,by rw [h1];rfl, ?_, ?_,h4⟩
   ·simp only [s9,List.filter_cons] at h2 ⊢
    simp [hc,h2]
   ·have hb:(c == 43)=false:=by simpa using hc
    simp only [Lib.indexByte,hb,h3]
    have:((a.length:Int) == -1)=false:=beq_eq_false_iff_ne.2 (by omega)
    simp [this]
theorem Py{s:Str}(h:Lib.countByte s 43=0):s9 s=s:=by
 simp only [Lib.countByte] at h
 rw [List.count_eq_zero] at h
 exact List.filter_eq_self.2 fun c hc=>by
  have:c≠43:=fun e=>h (e ▸ hc)
  simpa using this
theorem Nn{s:Str}(h:∀ x∈s,x=43):s9 s=[]:=List.filter_eq_nil_iff.2 fun c hc=>by simp [h c hc]
theorem rpl(hN:bz E)(hF:tG E)(hS:SpE E)(hX:rN M)(hB:sQ E){s:Str}(hs:s.length≤1000000){H H0:List ag}(N:Nat)(k:List Fra):∀ (m i st:Nat) (b:BL) (He:List ag),i+m=N→N≤1000000→st≤s.length→b.str.length≤st→Lib.countByte (s.drop st) 43=m→(b = .nil→∀ x∈s,x=43) →
  ∃ (st':Nat) (b':BL),st'≤s.length∧b'.str++s.drop st'=b.str++s9 (s.drop st)∧b'.str.length≤st'∧(b' = .nil→∀ x∈s,x=43) ∧
   M.go ey H0 (.c jX :: .lp ⟨(some [0,1,2,10,11,52,53]),[],false⟩ jX He :: .blk 0 :: .c (.lv [0,10,11])::k) (kv [(0,.str s),(1,.str [43]),(2,.str []),(10,.ptr H.length 0),(11,.int .i64 st),(52,.int .i64 N),(53,.int .i64 i)]) (b.heap H)=M.go ey H0 k (kv [(0,.str s),(10,.ptr H.length 0),(11,.int .i64 st')]) (b'.heap H)
 |0,i,st,b,He,hi,hN2,hst,hbl,hc,hb=>by
  refine ⟨st,b,hst,by rw [Py hc],hbl,hb, ?_⟩
  have e:i=N:=by omega
  subst e
  rw [ao M jX.eq_1]
  simp (maxSteps:=3000000) (maxDischargeDepth:=6) +contextual -implicitDefEqProofs only [amA M,amB,↓ae,↓aa,↓aj,↓ah,Nat.reduceBEq,Nat.reduceAdd,env,am,jE,Nat.lt_irrefl]
 |m+1,i,st,b,He,hi,hN2,hst,hbl,hc,hb=>by
  obtain ⟨a,r,h1,h2,h3,h4⟩:=GW _ _ hc
  have hlen:a.length+(r.length+1)=s.length-st:=by
   have:=congrArg List.length h1
   simpa using this.symm
  have hdr:s.drop (st+a.length+1)=r:=by
   rw [Nat.add_assoc,← List.drop_drop,h1,List.drop_append,List.drop_of_length_le (by omega)]
   simp
  have hta:(s.drop st).take a.length=a:=by rw [h1];simp
  have hbn:b = .nil→a=[]:=fun e=>by
   have:s9 a=[]:=Nn fun x hx=>hb e x (List.mem_of_mem_drop (by rw [h1];simp [hx]))
   rw [← h2,this]
  have hw1:=OF M hB H b (s:=a) (by omega) hbn
  have hs1:=b.wr_str a hbn
  have hw2:=OF M hB H (b.wr a) (s:=[]) (by rw [hs1];simp;omega) (fun _=>rfl)
  have hs2:=(b.wr a).wr_str [] (fun _=>rfl)
  rw [List.append_nil] at hs2
  have hbb:(b.wr a).wr [] = .nil→∀ x∈s,x=43:=fun e=>hb (BL.wr_nil (BL.wr_nil e))
  obtain ⟨st',b',g1,g2,g3,g4,g5⟩:=rpl hN hF hS hX hB hs (H:=H) (H0:=H0) N k m (i+1) (st+a.length+1) ((b.wr a).wr []) (((b.wr a).wr []).heap H) (by omega) hN2 (by omega) (by rw [hs2,hs1];simp;omega) (by rw [hdr];exact h4) hbb
  refine ⟨st',b',g1, ?_,g3,g4, ?_⟩
  ·rw [g2,hs2,hs1,hdr,h1,Se,h2,List.append_assoc]
   congr 1
  ·simp only [kv_cons,kv_nil] at g5 ⊢
   rw [← g5]
   have hin:i<N:=by omega
   have hix:=fun H=>OG M hF hS hX (s.drop st) 43 H
   rw [h3] at hix
   have q1:=zE (s:=s) (k:=.i64) hst
   have q2:=Fu (s:=s) (k:=.i64) (k':=.i64) (i:=st) (j:=st+a.length) (by omega) (by omega)
   rw [Nat.add_sub_cancel_left,hta] at q2
   have q3:IntKind.i64.wrap ((st:Int)+(a.length:Int))=((st+a.length:Nat):Int):=by rw [dt (by omega) (by omega)];omega
   have q4:IntKind.i64.wrap (((st+a.length:Nat):Int)+1)=((st+a.length+1:Nat):Int):=by rw [dt (by omega) (by omega)];omega
   have q5:((([43]:Str).length:Nat):Int)=1:=rfl
   rw [ao M jX.eq_1]
   simp (maxSteps:=3000000) (maxDischargeDepth:=6) +contextual -implicitDefEqProofs only [amA M,amB,↓ae,↓aa,↓aj,↓ah,Nat.reduceBEq,Nat.reduceAdd,env,am,jE,hin,hix,q1,q2,q3,q4,q5,hw1,hw2,bq hin (show N≤aZ by simp only [aZ];omega)]
theorem No(hN:bz E)(hF:tG E)(hS:SpE E)(hX:rN M)(hY:Jl M)(hB:sQ E){s:Str}(hs:s.length≤1000000)(H:List ag) :
  M.run r5 [.str s,.str [43],.str [],.int .i64 (-1)] H=some (.ret (.str (s9 s)),H):=by
 rw [aM M hF.strings_Replace rfl (c:=sg) rfl,sg]
 have hct:=fun H=>OH M hF hY s 43 H
 have q5:((([43]:Str).length:Nat):Int)=1:=rfl
 have q6:(([43]:Str) == [])=false:=rfl
 have q7:((-1:Int) == 0)=false:=rfl
 have q8:decide ((-1:Int)<0)=true:=rfl
 have q9:decide ((0:Int)<1)=true:=rfl
 have z0:((0:Nat):Int)=0:=rfl
 have z1:((1:Nat):Int)=1:=rfl
 have w1:IntKind.i64.wrap (0-1) = -1:=by decide
 generalize hc:Lib.countByte s 43=n at hct
 have hcl:n≤s.length:=by rw [← hc];exact List.count_le_length
 cases hn:(n:Int) == 0 with
 |true=>
  have:n=0:=by have:=eq_of_beq hn;omega
  rw [Py (by rw [hc];exact this)]
  simp (maxSteps:=3000000) (maxDischargeDepth:=6) +contextual -implicitDefEqProofs only [amA M,amB,↓ae,↓aa,↓aj,↓ah,Nat.reduceBEq,Nat.reduceAdd,env,am,jE,hct,q5,q6,q7,q8,hn]
 |false=>
  have hn0:0<n:=by have:=beq_eq_false_iff_ne.1 hn;omega
  have w2:IntKind.i64.wrap ((n:Int) * -1) = -(n:Int):=by rw [dt (by omega) (by omega)];omega
  have w3:IntKind.i64.wrap ((s.length:Int) + -(n:Int))=((s.length-n:Nat):Int):=by rw [dt (by omega) (by omega)];omega
  have fin:∀ (b:BL) (st:Nat),st≤s.length→b.str.length≤st→b.str++s.drop st=s9 s→(b = .nil→∀ x∈s,x=43) →
    M.go ey H [.c (.seq (.seq (.ops [⟨(some 99),none,(.op (.mv (.t 0)))⟩,⟨(some 100),none,(.op (.mv (.t 11)))⟩,⟨(some 101),none,(.op (.sls (.t 99) (some (.t 100)) none))⟩,⟨(some 102),none,(.call (.c (.fn (.func aF) [] [])) [(.t 10),(.t 101)])⟩]) (.lv [10])) (.seq (.ops [⟨(some 103),none,(.call (.c (.fn (.func dj) [] [])) [(.t 10)])⟩,⟨(some 8),none,(.op (.mv (.t 103)))⟩]) .ret))] (rP (rP (rP Env.leaf 11 (.int .i64 st)) 10 (.ptr H.length 0)) 0 (.str s)) (b.heap H)=some (.ret (.str (s9 s)),H):=by
   intro b st h1 h2 h3 h4
   have hbn:b = .nil→s.drop st=[]:=fun e=>by
    have h5:=Nn (h4 e)
    rw [h5] at h3
    exact (List.append_eq_nil_iff.1 h3).2
   have a1:=OF M hB H b (s:=s.drop st) (by simp;omega) hbn
   have a2:=b.wr_str (s.drop st) hbn
   have a3:=Sd M hB H (b.wr (s.drop st)) (by rw [a2];simp;omega) (fun n e=>by cases b<;>simp [BL.wr] at e)
   rw [a2,h3] at a3
   have q1:=zE (s:=s) (k:=.i64) h1
   have hcut:∀ b:BL,bO H (b.heap H):=fun b=>by cases b<;>exact cut_app H _
   have htk:∀ b:BL,(b.heap H).take H.length=H:=fun b=>by cases b<;>simp [BL.heap]
   simp (maxSteps:=3000000) (maxDischargeDepth:=6) +contextual -implicitDefEqProofs only [amA M,amB,↓ae,↓aa,↓aj,↓ah,Nat.reduceBEq,Nat.reduceAdd,env,am,jE,q1,a1,a3,hcut,htk]
  by_cases hg:s.length-n=0
  ·have hall:∀ x∈s,x=43:=by
    have:s.count 43=s.length:=by rw [Lib.countByte] at hc;omega
    exact fun x hx=>((List.count_eq_length.1 this) x hx).symm
   have hgr:=OE M hB hX hF H
   obtain ⟨st',b',g1,g2,g3,g4,g5⟩:=rpl M hN hF hS hX hB hs (H:=H) (H0:=H) n [.c (.seq (.seq (.ops [⟨(some 99),none,(.op (.mv (.t 0)))⟩,⟨(some 100),none,(.op (.mv (.t 11)))⟩,⟨(some 101),none,(.op (.sls (.t 99) (some (.t 100)) none))⟩,⟨(some 102),none,(.call (.c (.fn (.func aF) [] [])) [(.t 10),(.t 101)])⟩]) (.lv [10])) (.seq (.ops [⟨(some 103),none,(.call (.c (.fn (.func dj) [] [])) [(.t 10)])⟩,⟨(some 8),none,(.op (.mv (.t 103)))⟩]) .ret))] n 0 0 .nil (H++[qH (.ptr H.length 0) (.slice .nil 1 [])]) (by omega) (by omega) (Nat.zero_le _) (Nat.le_refl _) hc (fun _=>hall)
   have g6:=fin b' st' g1 g3 g2 g4
   simp only [kv_cons,kv_nil,Int.ofNat_zero,Nm,KQ] at g5
   rw [hg,z0] at w3
   rw [← g6,← g5]
   simp (maxSteps:=3000000) (maxDischargeDepth:=6) +contextual -implicitDefEqProofs only [amA M,amB,↓ae,↓aa,↓aj,↓ah,Nat.reduceBEq,Nat.reduceAdd,env,am,jE,amG,AV.cell,Nat.reduceMul,Nat.reduceLeDiff,hct,z0,z1,q5,q6,q7,q8,q9,hn,w1,w2,w3,hgr]
  ·have hgr:=Qz M hB hX hF hY H (n:=s.length-n) (by omega) (by omega)
   obtain ⟨st',b',g1,g2,g3,g4,g5⟩:=rpl M hN hF hS hX hB hs (H:=H) (H0:=H) n [.c (.seq (.seq (.ops [⟨(some 99),none,(.op (.mv (.t 0)))⟩,⟨(some 100),none,(.op (.mv (.t 11)))⟩,⟨(some 101),none,(.op (.sls (.t 99) (some (.t 100)) none))⟩,⟨(some 102),none,(.call (.c (.fn (.func aF) [] [])) [(.t 10),(.t 101)])⟩]) (.lv [10])) (.seq (.ops [⟨(some 103),none,(.call (.c (.fn (.func dj) [] [])) [(.t 10)])⟩,⟨(some 8),none,(.op (.mv (.t 103)))⟩]) .ret))] n 0 0 (.room (s.length-n)) (H++[qH (.ptr H.length 0) (.rslice (H.length+1) 0 0 1 true),.cells (List.replicate (s.length-n) .unk) dN]) (by omega) (by omega) (Nat.zero_le _) (Nat.le_refl _) hc (fun e=>by cases e)
   have g6:=fin b' st' g1 g3 g2 g4
   simp only [kv_cons,kv_nil,Int.ofNat_zero,Nm,KQ] at g5
   rw [← g6,← g5]
   simp (maxSteps:=3000000) (maxDischargeDepth:=6) +contextual -implicitDefEqProofs only [amA M,amB,↓ae,↓aa,↓aj,↓ah,Nat.reduceBEq,Nat.reduceAdd,env,am,jE,amG,AV.cell,Nat.reduceMul,Nat.reduceLeDiff,hct,z0,z1,q5,q6,q7,q8,q9,hn,w1,w2,w3,hgr]
theorem Jm(hN:bz E)(hF:tG E)(hS:SpE E)(hX:rN M)(hY:Jl M)(hB:sQ E){s:Str}(hs:s.length≤1000000)(H:List ag) :
  M.run po [.str s,.str [43],.str []] H=some (.ret (.str (s9 s)),H):=by
 rw [aM M hF.strings_ReplaceAll rfl (c:=px) rfl,px]
 simp (maxSteps:=3000000) (maxDischargeDepth:=6) +contextual -implicitDefEqProofs only [amA M,amB,↓ae,↓aa,↓aj,↓ah,Nat.reduceBEq,Nat.reduceAdd,env,am,BW,No M hN hF hS hX hY hB hs]
end
section
attribute [local congr] aS eb bQ aT bv bb aU aC aD bc be
variable{E:bP}(M:dO d8 E)
def QA(q:Int):Nat→bT→Option AV:=fun _ f=>sel (f.slot == q) (some (.str f.word)) none
def OI(l:List bT)(q:Int):Option Str:=(l.find? fun f=>f.slot == q).map (·.word)
theorem Gr(q:Int)(H:List ag)(x:Option Out):∀ (l:List bT) (i:Nat),orE (bI (QA q) i l) H x=match OI l q with
  |some w=>some (.ret (.str w),H)
  |none=>x
 |[],_=>rfl
 |f::l,i=>by
  rw [jl,show QA q i f=sel (f.slot == q) (some (.str f.word)) none from rfl,EY,z8,BO,vD,BP,Gr q H x l]
  simp only [OI,List.find?_cons]
  cases f.slot == q<;>rfl
def Ef(o:Option (List Str)):Str:=
 match o with
 |none=>[]
 |some r=>sel (decide ((24:Int)<((s9 (r.getLastD [])).length:Int))) [] (s9 (r.getLastD []))
def qI(l:Lex)(x:aR)(s:bC)(q:Int):Str:=
 match OI x.forms.l q with
 |some w=>w
 |none=>Ef (pG l x s)
theorem Jn(v:Str):∀ (l:List br) (o:List Str) (u:Str) (r:List Str),u.length≤1000→wu v (o++[u]) u l=some r→∃ r' u',r=r'++[u']∧u'.length≤1000∧r.length=o.length+1+l.length
 |[],o,u,r,hu,h=>by
  obtain rfl:=Option.some.inj h
  exact ⟨o,u,rfl,hu,by simp⟩
 |x::l,o,u,r,hu,h=>by
  rw [wu] at h
  cases hd:decide (((ur v x u).length:Int)≤512) with
  |false=>rw [hd] at h;simp [sel] at h
  |true=>
   rw [hd] at h
   obtain ⟨r',u',h1,h2,h3⟩:=Jn v l (o++[u]) (ur v x u) r (by have:=of_decide_eq_true hd;omega) h
   exact ⟨r',u',h1,h2,by rw [h3];simp;omega⟩
theorem GX{l:Lex}(hk:iU l=0){e q:Int}{x:aR}{c:aX}{s:bC}(hA:At l e q x c s){r:List Str}(h:pG l x s=some r):∃ r' u',r=r'++[u']∧u'.length≤1000∧r.length≤100:=by
 unfold pG at h
 cases ho:Hs x.lem s with
 |none=>rw [ho] at h;cases h
 |some u=>
  rw [ho] at h
  have hul:u.length≤1000:=by
   have:=Jk (zF hA.ent.lem) hA.sok
   unfold Hs at ho
   revert ho
   cases decide ((x.lem.length:Int)<s.cut) with
   |true=>simp [sel]
   |false=>intro ho;rw [← Option.some.inj ho];omega
  obtain ⟨r',u',h1,h2,h3⟩:=Jn l.vowels l.spells.l [] u r hul h
  have:=yg hk
  exact ⟨r',u',h1,h2,by simp at h3;omega⟩
theorem mfl{H H0:List ag}{e q:Int}{x:aR}{n0:Nat}(hx0:x.ok n0)(hn:n0≤H.length){p:Nat}(hpl:p<H.length)(hc:bO H0 H)(k:List Fra):∀ (n i:Nat),i+n=(x.forms.l).length →
  M.go dB H0 (.c ie :: .lp ⟨(some [1,2,3,20,21,22]),[],true⟩ ie H :: .blk 0 :: .c (.lv [1,2,3])::k) (kv [(1,.int .i64 e),(2,.int .i64 q),(3,.ptr p 0),(20,.slice x.forms.tag 2 (x.forms.l.map bT.row)),(21,.int .i64 x.forms.l.length),(22,.int .i64 i)]) H =
   orE (bI (QA q) i (x.forms.l.drop i)) (H.take H0.length) (M.go dB H0 k (kv [(1,.int .i64 e),(2,.int .i64 q),(3,.ptr p 0)]) H)
 |0,i,h=>by
  have e:i=(x.forms.l).length:=by omega
  subst e
  rw [ao M ie.eq_1]
  simp (maxSteps:=3000000) (maxDischargeDepth:=6) +contextual -implicitDefEqProofs only [amA M,amB,↓ae,↓aa,↓aj,↓ah,Nat.reduceBEq,Nat.reduceAdd,env,am,gh,Nat.lt_irrefl,List.drop_length]
 |n+1,i,h=>by
  have hi:i<(x.forms.l).length:=by omega
  have hx:(x.forms.l)[i]?=some (x.forms.l)[i]:=List.getElem?_eq_getElem hi
  have hd:((x.forms.l).drop i)=(x.forms.l)[i]::(x.forms.l).drop (i+1):=List.drop_eq_getElem_cons hi
  have hm:(x.forms.l)[i]∈(x.forms.l):=List.getElem_mem hi
  have ih:=mfl (H:=H) (H0:=H0) (e:=e) (q:=q) (x:=x) (n0:=n0) (hx0:=hx0) (hn:=hn) (p:=p) (hpl:=hpl) hc k n (i+1)  (by omega)
  simp only [kv_cons,kv_nil] at ih
  have w2:Wk H.length (.ptr p 0) (.ptr p 0):=wk_ptr hpl
  have w3:Wk H.length (.slice x.forms.tag 2 (x.forms.l.map bT.row)) (.slice x.forms.tag 2 (x.forms.l.map bT.row)):=(hx0.forms.mono hn (fun _ h=>h.mono hn)).wk (fun _ h=>h.wk)
  rw [ao M ie.eq_1]
  simp (maxSteps:=3000000) (maxDischargeDepth:=6) +contextual -implicitDefEqProofs only [amA M,amB,↓ae,↓aa,↓aj,↓ah,Nat.reduceBEq,Nat.reduceAdd,env,am,gh,hx,hd,hi,ih,amG,AV.cell,w2,w3,bq hi hx0.forms.len,az hi,z7,hc,QA]
theorem Fz(r':List Str)(u':Str){t:Tag}(h:(r'++[u']).length≤100):yM 1 (.slice t 1 ((r'++[u']).map jk)) (.int .i64 (IntKind.i64.wrap (((r'++[u']).length:Int)-1)))=some (.vptr 1 ((r'++[u']).map jk) r'.length 0):=by
 have e:IntKind.i64.wrap (((r'++[u']).length:Int)-1)=(r'.length:Int):=by
  simp only [List.length_append,List.length_cons,List.length_nil] at h ⊢
  rw [dt (by omega) (by omega)];omega
 rw [e]
 exact az (by simp)
theorem FA(r':List Str)(u':Str):(r'++[u'])[r'.length]?=some u':=by simp
theorem LP(r':List Str)(u':Str):(r'++[u']).getLastD []=u':=by simp
theorem Np(hN:bz E)(hW:WdE M)(hE:lG E)(hS:SpE E)(hX:rN M)(hY:Jl M)(hB:sQ E)(hF:tG E){l:Lex}(hl:l.ok 0)(hk:iU l=0){e q:Int}{x:aR}{c:aX}{s:bC}(hA:At l e q x c s)(H:List ag) :
  M.run gf [.agg l.row,.int .i64 e,.int .i64 q] H=some (.ret (.str (qI l x s q)),H):=by
 rw [aM M hF.morph_language_form rfl (c:=oG) rfl,oG]
 have hx0:=hl.entries.all x (List.mem_of_getElem? hA.ex)
 have h1:=fun k=>mfl M (H:=H++[.cells l.row aK]) (H0:=H) (e:=e) (q:=q) hx0 (Nat.zero_le _) (p:=H.length) (by simp) (cut_app H _) k x.forms.l.length 0 (by omega)
 simp only [kv_cons,kv_nil,Int.ofNat_zero,List.drop_zero,Gr] at h1
 have hsl:=fun H=>Ji M hW hE hF hl e q H
 simp only [hA.sl hk,Option.getD_some,Option.isSome_some] at hsl
 have hst:=fun H=>Qy M hN hS hX hB hF hl (Nb hk) hA (by have:=yg hk;omega) H
 have hsw:∀ n,WkL n s.row s.row:=fun n=>(((hl.classes.all c hA.cm).slots.all s (List.mem_of_getElem? hA.sx)).mono (Nat.zero_le n)).wk
 cases hi:OI x.forms.l q with
 |some w=>
  have e1:qI l x s q=w:=by simp [qI,hi]
  rw [e1]
  simp only [hi] at h1
  simp (maxSteps:=3000000) (maxDischargeDepth:=6) +contextual -implicitDefEqProofs only [amA M,amB,↓ae,↓aa,↓aj,↓ah,Nat.reduceBEq,Nat.reduceAdd,env,am,gh,amG,AV.cell,Nat.reduceMul,Nat.reduceLeDiff,h1,hA.ex,di hA.e0 hA.el,bp,cY]
 |none=>
  have e1:qI l x s q=Ef (pG l x s):=by simp [qI,hi]
  rw [e1]
  simp only [hi] at h1
  cases hr:pG l x s with
  |none=>
   simp only [hr,Cr,Option.getD_none,Option.isSome_none,List.map_nil] at hst
   simp (maxSteps:=3000000) (maxDischargeDepth:=6) +contextual -implicitDefEqProofs only [amA M,amB,↓ae,↓aa,↓aj,↓ah,Nat.reduceBEq,Nat.reduceAdd,env,am,gh,amG,AV.cell,Nat.reduceMul,Nat.reduceLeDiff,h1,hsl,hst,hA.ex,di hA.e0 hA.el,bp,cY,fk,Ef]
  |some r=>
   obtain ⟨r',u',g1,g2,g3⟩:=GX hk hA hr
   subst g1
   simp only [hr,Cr,Option.getD_some,Option.isSome_some] at hst
   have hra:=fun H=>Jm M hN hF hS hX hY hB (s:=u') (by omega) H
   cases hd:decide ((24:Int)<((s9 u').length:Int)) with
   |true=>
    have e2:Ef (some (r'++[u']))=[]:=by simp only [Ef,LP,hd,sel]
    rw [e2]
    simp (maxSteps:=3000000) (maxDischargeDepth:=6) +contextual -implicitDefEqProofs only [amA M,amB,↓ae,↓aa,↓aj,↓ah,Nat.reduceBEq,Nat.reduceAdd,env,am,gh,amG,AV.cell,Nat.reduceMul,Nat.reduceLeDiff,h1,hsl,hst,hra,hd,Fz r' u' g3,FA,hA.ex,di hA.e0 hA.el,bp,cY,fk,Lx]
   |false=>
    have e2:Ef (some (r'++[u']))=s9 u':=by simp only [Ef,LP,hd,sel]
    rw [e2]
    simp (maxSteps:=3000000) (maxDischargeDepth:=6) +contextual -implicitDefEqProofs only [amA M,amB,↓ae,↓aa,↓aj,↓ah,Nat.reduceBEq,Nat.reduceAdd,env,am,gh,amG,AV.cell,Nat.reduceMul,Nat.reduceLeDiff,h1,hsl,hst,hra,hd,Fz r' u' g3,FA,hA.ex,di hA.e0 hA.el,bp,cY,fk,Lx]
end
section
attribute [local congr] aS eb bQ aT bv bb aU aC aD bc be
variable{E:bP}(M:dO d8 E)
theorem UM{H H0:List ag}{e q:Int}{x:aR}{n0:Nat}(hx0:x.ok n0){p:Nat}(hc:bO H0 H)(k:List Fra):∀ (n i:Nat) (He:List ag),i+n=(x.forms.l).length →
  M.go dk H0 (.c iE :: .lp ⟨(some [1,2,3,9,10]),[],false⟩ iE He :: .blk 0 :: .c (.lv [1,2,3])::k) (kv [(1,.int .i64 e),(2,.int .i64 q),(3,.ptr p 0),(9,.slice x.forms.tag 2 (x.forms.l.map bT.row)),(10,.int .i64 i)]) H =
   orE (bI (QA q) i (x.forms.l.drop i)) (H.take H0.length) (M.go dk H0 k (kv [(1,.int .i64 e),(2,.int .i64 q),(3,.ptr p 0)]) H)
 |0,i,He,h=>by
  have e:i=(x.forms.l).length:=by omega
  subst e
  rw [ao M iE.eq_1]
  simp (maxSteps:=3000000) (maxDischargeDepth:=6) +contextual -implicitDefEqProofs only [amA M,amB,↓ae,↓aa,↓aj,↓ah,Nat.reduceBEq,Nat.reduceAdd,env,am,dl,Nat.lt_irrefl,List.drop_length]
 |n+1,i,He,h=>by
  have hi:i<(x.forms.l).length:=by omega
  have hx:(x.forms.l)[i]?=some (x.forms.l)[i]:=List.getElem?_eq_getElem hi
  have hd:((x.forms.l).drop i)=(x.forms.l)[i]::(x.forms.l).drop (i+1):=List.drop_eq_getElem_cons hi
  have hm:(x.forms.l)[i]∈(x.forms.l):=List.getElem_mem hi
  have ih:=fun He=>UM (H:=H) (H0:=H0) (e:=e) (q:=q) (x:=x) (n0:=n0) (hx0:=hx0) (p:=p) hc k n (i+1)  He (by omega)
  simp only [kv_cons,kv_nil] at ih
  rw [ao M iE.eq_1]
  simp (maxSteps:=3000000) (maxDischargeDepth:=6) +contextual -implicitDefEqProofs only [amA M,amB,↓ae,↓aa,↓aj,↓ah,Nat.reduceBEq,Nat.reduceAdd,env,am,dl,hx,hd,hi,ih,bq hi hx0.forms.len,az hi,z7,hc,QA]
theorem T7{w:Str}(hw:w.length≤1000000){H H0:List ag}(k:List Fra):∀ (n i:Nat) (o:Str) (He:List ag),i+n=w.length→o.length≤i →
  M.go dk H0 (.c fI :: .lp ⟨(some [13,14,15]),[],false⟩ fI He :: .blk 2 :: .c (.lv [14])::k) (kv [(13,.str w),(14,.str o),(15,.int .i64 i)]) H=M.go dk H0 k (kv [(14,.str (o++s9 (w.drop i)))]) H
 |0,i,o,He,h,ho=>by
  have e:i=w.length:=by omega
  subst e
  have e2:s9 []=[]:=rfl
  rw [List.drop_length,e2,List.append_nil]
  rw [ao M fI.eq_1]
  simp (maxSteps:=3000000) (maxDischargeDepth:=6) +contextual -implicitDefEqProofs only [amA M,amB,↓ae,↓aa,↓aj,↓ah,Nat.reduceBEq,Nat.reduceAdd,env,am,dl,Nat.lt_irrefl]
 |n+1,i,o,He,h,ho=>by
  have hi:i<w.length:=by omega
  have hx:w[i]?=some w[i]:=List.getElem?_eq_getElem hi
  have hd:w.drop i=w[i]::w.drop (i+1):=List.drop_eq_getElem_cons hi
  have q2:=Fu (s:=w) (k:=.i64) (k':=.i64) (i:=i) (j:=i+1) (by omega) (by omega)
  rw [Nat.add_sub_cancel_left,hd] at q2
  simp only [List.take_succ_cons,List.take_zero] at q2
  have hb:∀ c:UInt8,((c.toNat:Int) == 43)=(c == 43):=fun c=>by
   rw [Bool.eq_iff_iff,beq_iff_eq,beq_iff_eq]
   refine ⟨fun h=>UInt8.toNat_inj.1 (by have:c.toNat=43:=by omega
                                        simpa using this),fun h=>by rw [h];rfl⟩
  rw [hd]
  generalize w[i]=c at hx q2
  cases hc:c == 43 with
  |true=>
   have e2:s9 (c::w.drop (i+1))=s9 (w.drop (i+1)):=by simp [s9,hc]
   have ih:=fun He=>T7 hw (H:=H) (H0:=H0) k n (i+1) o He (by omega) (by omega)
   simp only [kv_cons,kv_nil] at ih
   rw [e2]
   rw [ao M fI.eq_1]
   simp (maxSteps:=3000000) (maxDischargeDepth:=6) +contextual -implicitDefEqProofs only [amA M,amB,↓ae,↓aa,↓aj,↓ah,Nat.reduceBEq,Nat.reduceAdd,env,am,dl,hi,hx,hb,hc,ih,bq hi (show w.length≤aZ by simp only [aZ];omega)]
  |false=>
   have e2:o++s9 (c::w.drop (i+1))=(o++[c])++s9 (w.drop (i+1)):=by simp [s9,hc]
   have ih:=fun He=>T7 hw (H:=H) (H0:=H0) k n (i+1) (o++[c]) He (by omega) (by simp;omega)
   simp only [kv_cons,kv_nil] at ih
   rw [e2]
   rw [ao M fI.eq_1]
   simp (maxSteps:=3000000) (maxDischargeDepth:=6) +contextual -implicitDefEqProofs only [amA M,amB,↓ae,↓aa,↓aj,↓ah,Nat.reduceBEq,Nat.reduceAdd,env,am,dl,hi,hx,hb,hc,ih,q2,gH (s:=o) (t:=[c]) (by simp;omega),bq hi (show w.length≤aZ by simp only [aZ];omega)]
theorem KR(hN:bz E)(hR:tE E)(hS:Eb E)(hF:tG E){l:Lex}(hl:l.ok 0)(hk:iU l=0){e q:Int}{x:aR}{c:aX}{s:bC}(hA:At l e q x c s)(H:List ag) :
  M.run gN [.agg l.row,.int .i64 e,.int .i64 q] H=some (.ret (.str (qI l x s q)),H):=by
 rw [aM M hF.truchmanref02_form rfl (c:=jo) rfl,jo]
 have hx0:=hl.entries.all x (List.mem_of_getElem? hA.ex)
 have h1:=fun k L He=>UM M (H:=H++(.cells l.row aq::L)) (H0:=H) (e:=e) (q:=q) hx0 (p:=H.length) (cut_app H _) k x.forms.l.length 0 He (by omega)
 simp only [kv_cons,kv_nil,Int.ofNat_zero,List.drop_zero,Gr] at h1
 have hsl:=fun H=>CL M hR hF hl hk e q H
 simp only [hA.sl hk,Option.getD_some,Option.isSome_some] at hsl
 have hst:=fun H=>OC M hN hR hS hF hl hk hA H
 cases hi:OI x.forms.l q with
 |some w=>
  have e1:qI l x s q=w:=by simp [qI,hi]
  rw [e1]
  simp only [hi] at h1
  simp (maxSteps:=3000000) (maxDischargeDepth:=6) +contextual -implicitDefEqProofs only [amA M,amB,↓ae,↓aa,↓aj,↓ah,Nat.reduceBEq,Nat.reduceAdd,env,am,dl,amG,AV.cell,Nat.reduceMul,Nat.reduceLeDiff,h1,hsl,hA.ex,di hA.e0 hA.el,bp,cY,fk]
 |none=>
  have e1:qI l x s q=Ef (pG l x s):=by simp [qI,hi]
  rw [e1]
  simp only [hi] at h1
  cases hr:pG l x s with
  |none=>
   simp only [hr,Cr,Option.getD_none,Option.isSome_none,List.map_nil] at hst
   simp (maxSteps:=3000000) (maxDischargeDepth:=6) +contextual -implicitDefEqProofs only [amA M,amB,↓ae,↓aa,↓aj,↓ah,Nat.reduceBEq,Nat.reduceAdd,env,am,dl,amG,AV.cell,Nat.reduceMul,Nat.reduceLeDiff,h1,hsl,hst,hA.ex,di hA.e0 hA.el,bp,cY,fk,Ef]
  |some r=>
   obtain ⟨r',u',g1,g2,g3⟩:=GX hk hA hr
   subst g1
   simp only [hr,Cr,Option.getD_some,Option.isSome_some] at hst
   have h2:=fun H0 H k He=>T7 M (w:=u') (by omega) (H:=H) (H0:=H0) k u'.length 0 [] He (by omega) (Nat.le_refl _)
   simp only [kv_cons,kv_nil,Int.ofNat_zero,List.drop_zero,List.nil_append] at h2
   cases hd:decide ((24:Int)<((s9 u').length:Int)) with
   |true=>
    have e2:Ef (some (r'++[u']))=[]:=by simp only [Ef,LP,hd,sel]
    rw [e2]
    simp (maxSteps:=3000000) (maxDischargeDepth:=6) +contextual -implicitDefEqProofs only [amA M,amB,↓ae,↓aa,↓aj,↓ah,Nat.reduceBEq,Nat.reduceAdd,env,am,dl,amG,AV.cell,Nat.reduceMul,Nat.reduceLeDiff,h1,hsl,hst,h2,hd,Fz r' u' g3,FA,hA.ex,di hA.e0 hA.el,bp,cY,fk,Lx]
   |false=>
    have e2:Ef (some (r'++[u']))=s9 u':=by simp only [Ef,LP,hd,sel]
    rw [e2]
    simp (maxSteps:=3000000) (maxDischargeDepth:=6) +contextual -implicitDefEqProofs only [amA M,amB,↓ae,↓aa,↓aj,↓ah,Nat.reduceBEq,Nat.reduceAdd,env,am,dl,amG,AV.cell,Nat.reduceMul,Nat.reduceLeDiff,h1,hsl,hst,h2,hd,Fz r' u' g3,FA,hA.ex,di hA.e0 hA.el,bp,cY,fk,Lx]
theorem OJ(hR:tE E)(hF:tG E){l:Lex}(hl:l.ok 0)(hk:iU l=0){e q:Int}(hs:slF l e q=none)(H:List ag) :
  M.run gN [.agg l.row,.int .i64 e,.int .i64 q] H=some (.ret (.str []),H):=by
 rw [aM M hF.truchmanref02_form rfl (c:=jo) rfl,jo]
 have ha':=fun H=>CL M hR hF hl hk e q H
 simp only [hs,Option.getD_none,Option.isSome_none] at ha'
 simp (maxSteps:=3000000) (maxDischargeDepth:=6) +contextual -implicitDefEqProofs only [amA M,amB,↓ae,↓aa,↓aj,↓ah,Nat.reduceBEq,Nat.reduceAdd,env,am,dl,amG,AV.cell,Nat.reduceMul,Nat.reduceLeDiff,ha',bp,fk,wk_tuple]
end
section
attribute [local congr] aS eb bQ aT bv bb aU aC aD bc be
variable{E:bP}(M:dO d8 E)
end
section
attribute [local congr] aS eb bQ aT bv bb aU aC aD bc be
variable{E:bP}(M:dO d8 E)
structure JU (E:bP):Prop where
 morph_language_opens:E.fn mQ=some fJ
 morph_language_build:E.fn mO=some dU
 morph_Build:E.fn xL=some n7
 truchmanref02_linked:E.fn mR=some fK
 truchmanref02_built:E.fn oe=some ed
 truchmanref02_Build:E.fn oc=some gg
theorem irr_len{l:Lex}{x:aR}{c:aX}(h:Pu l x c){q:Int}{w:Str}(hi:OI x.forms.l q=some w):w.length≤24:=by
 simp only [OI,Option.map_eq_some_iff] at hi
 obtain ⟨f,hf,rfl⟩:=hi
 obtain ⟨k,hk⟩:=List.getElem?_of_mem (List.mem_of_find?_eq_some hf)
 have:=tF h.forms k f hk
 rw [Nat.zero_add] at this
 unfold IZ at this
 have h3:=(mt (by decide) (mt (by decide) (mt (by decide) this).2).2).1
 cases hw:f.word == [] with
 |true=>rw [eq_of_beq hw];simp
 |false=>
  rw [hw] at h3
  exact zF (by simpa using h3)
theorem Sf(o:Option (List Str)):(Ef o).length≤24:=by
 unfold Ef
 split
 ·simp
 ·rename_i r
  cases hd:decide ((24:Int)<((s9 (r.getLastD [])).length:Int)) with
  |true=>simp [sel]
  |false=>have:=of_decide_eq_false hd;simp only [sel];omega
theorem FB{l:Lex}{x:aR}{c:aX}(h:Pu l x c)(s:bC)(q:Int):(qI l x s q).length≤24:=by
 unfold qI
 split
 ·rename_i w hw;exact irr_len h hw
 ·exact Sf _
theorem Jo{l:Lex}(hk:iU l=0){k:eh}(h:k∈l.links.l):k.glue.length≤6:=by
 obtain ⟨j,hj⟩:=List.getElem?_of_mem h
 have h5:=(pR (CJ hk).2.2.2).2 j k hj
 unfold DA at h5
 split at h5
 ·exact absurd h5 (by decide)
 ·have:=(mt (by decide) h5).1
  simp only [Bool.not_eq_false',pE,Bool.and_eq_true,decide_eq_true_eq] at this
  omega
def Ht(l:Lex)(n:Int):Option eh:=if n<0 then none else l.links.l[n.toNat]?
def LQ(x:aR)(s:bC)(k:eh):Bool:=x.cls == k.cls&&Qx k.feats.l (Nk x s)
def Eg(l:Lex)(f:cZ):Option Str:=
 match slF l f.entry f.slot,Cq l f.entry,Ht l f.link with
 |some s,some x,some k=>sel (LQ x s k) (sel (qI l x s f.slot == []) none (some (qI l x s f.slot++k.glue))) none
 |_,_,_=>none
def Hu(l:Lex):List cZ→Str→Option Str
 |[],w=>some w
 |f::t,w=>match Eg l f with
  |none=>none
  |some v=>Hu l t (w++v)
def nG(l:Lex)(a:aV):Str:=
 match Hu l a.firsts.l [],slF l a.entry a.slot,Cq l a.entry with
 |some w,some s,some x=>sel (qI l x s a.slot == []||decide ((24:Int)<((w++qI l x s a.slot).length:Int))) [] (w++qI l x s a.slot)
 |_,_,_=>[]
theorem Pz{l:Lex}{e q:Int}{x:aR}{c:aX}{s:bC}(hA:At l e q x c s):(Nk x s).length≤aZ:=by
 have hm:=hA.uni
 rw [uR,hA.ent.short.2,hA.sok.feats.2] at hm
 have hl:=CI _ _ _ _ (Nat.le_refl _) hm
 have h8:=hA.ent.short.1
 have h9:=hA.sok.feats.1
 simp only [aZ];omega
theorem QB(hE:lG E)(hU:wt E){srt:List au→List au}(hO:GV M srt)(hP:Srt srt)(hF:tG E)(hV:JU E){l:Lex}{e q:Int}{x:aR}{c:aX}{s:bC}(hA:At l e q x c s){k:eh}{n:Nat}(hk:k.ok n)(H:List ag) :
  M.run mQ [.agg l.row,.int .i64 e,.agg s.row,.agg k.row] H=some (.ret (.bool (LQ x s k)),H):=by
 rw [aM M hV.morph_language_opens rfl (c:=nk) rfl,nk]
 have h1:=fun H=>Oz M hU hO hP hF hA H
 have h2:=fun H=>LM M hE hU (a:=k.feats) (b:=⟨.any,Nk x s⟩) hk.feats.len (Pz hA) H
 simp only at h2
 unfold LQ
 cases hc:x.cls == k.cls with
 |true=>
  simp (maxSteps:=3000000) (maxDischargeDepth:=6) +contextual -implicitDefEqProofs only [amA M,amB,↓ae,↓aa,↓aj,↓ah,Nat.reduceBEq,Nat.reduceAdd,env,am,sc,amG,AV.cell,Nat.reduceMul,Nat.reduceLeDiff,h1,h2,hc,hA.ex,di hA.e0 hA.el,bp,cY,xz,fk]
 |false=>
  simp (maxSteps:=3000000) (maxDischargeDepth:=6) +contextual -implicitDefEqProofs only [amA M,amB,↓ae,↓aa,↓aj,↓ah,Nat.reduceBEq,Nat.reduceAdd,env,am,sc,amG,AV.cell,Nat.reduceMul,Nat.reduceLeDiff,h1,h2,hc,hA.ex,di hA.e0 hA.el,bp,cY,xz,fk]
def Eh(M:dO d8 E)(fn:AFn)(H0:List ag)(k:List Fra)(p r:Nat)(o:Option Str)(H:List ag):Option Out:=
 match o with
 |none=>some (.ret (.str []),H.take H0.length)
 |some w=>M.go fn H0 k (kv [(2,.ptr p 0),(3,.ptr r 0),(5,.str w)]) H
theorem bul(hN:bz E)(hW:WdE M)(hE:lG E)(hS:SpE E)(hX:rN M)(hY:Jl M)(hB:sQ E)(hF:tG E)(hU:wt E){srt:List au→List au}(hO:GV M srt)(hP:Srt srt)(hV:JU E){l:Lex}(hl:l.ok 0)(hk:iU l=0){a:aV}(ha:a.ok 0)(ha2:a.firsts.l.length≤2)
  {H H0:List ag} (hc:bO H0 H) {p r:Nat}{T T2:TypeId} (hp:H[p]?=some (.cells l.row T)) (hr:H[r]?=some (.cells a.row T2)) (k:List Fra):∀ (n i:Nat) (w:Str) (He:List ag),He=H→i+n=a.firsts.l.length→w.length≤30*i →
  M.go dU H0 (.c b7 :: .lp ⟨(some [2,3,5,15,16,17]),[],true⟩ b7 He :: .blk 0 :: .c (.lv [2,3,5])::k) (kv [(2,.ptr p 0),(3,.ptr r 0),(5,.str w),(15,.slice a.firsts.tag 3 (a.firsts.l.map cZ.row)),(16,.int .i64 a.firsts.l.length),(17,.int .i64 i)]) H=Eh M dU H0 k p r (Hu l (a.firsts.l.drop i) w) H
 |0,i,w,He,hHe,h,hw=>by
  have e:i=a.firsts.l.length:=by omega
  subst e
  rw [List.drop_length,Hu,Eh]
  rw [ao M b7.eq_1]
  simp (maxSteps:=3000000) (maxDischargeDepth:=6) +contextual -implicitDefEqProofs only [amA M,amB,↓ae,↓aa,↓aj,↓ah,Nat.reduceBEq,Nat.reduceAdd,env,am,bL,Nat.lt_irrefl]
 |n+1,i,w,He,hHe,h,hw=>by
  subst hHe
  have hi:i<a.firsts.l.length:=by omega
  have hx:a.firsts.l[i]?=some a.firsts.l[i]:=List.getElem?_eq_getElem hi
  have hd:a.firsts.l.drop i=a.firsts.l[i]::a.firsts.l.drop (i+1):=List.drop_eq_getElem_cons hi
  have hp':=fun L=>cf (L:=L) hp
  have hr':=fun L=>cf (L:=L) hr
  have w1:Wk He.length (.ptr p 0) (.ptr p 0):=wk_ptr (List.getElem?_eq_some_iff.1 hp).1
  have w2:Wk He.length (.ptr r 0) (.ptr r 0):=wk_ptr (List.getElem?_eq_some_iff.1 hr).1
  have w3:Wk He.length (.slice a.firsts.tag 3 (a.firsts.l.map cZ.row)) (.slice a.firsts.tag 3 (a.firsts.l.map cZ.row)):=(ha.firsts.mono (Nat.zero_le _) (fun _ h=>h.mono (Nat.zero_le _))).wk (fun _ h=>h.wk)
  have hcm:=fun L=>pm hc L
  have htm:=fun L=>yT hc L
  rw [hd,Hu]
  generalize a.firsts.l[i]=f at hx
  have hsl:=fun H=>Ji M hW hE hF hl f.entry f.slot H
  cases hs:slF l f.entry f.slot with
  |none=>
   have e1:Eg l f=none:=by simp [Eg,hs]
   simp only [hs,Option.getD_none,Option.isSome_none] at hsl
   rw [e1]
   simp only [Eh]
   rw [ao M b7.eq_1]
   simp (maxSteps:=3000000) (maxDischargeDepth:=6) +contextual -implicitDefEqProofs only [amA M,amB,↓ae,↓aa,↓aj,↓ah,Nat.reduceBEq,Nat.reduceAdd,env,am,bL,amG,AV.cell,Nat.reduceMul,Nat.reduceLeDiff,hx,hi,hsl,hp',hr',az hi,bp,qZ,fk,hcm,htm]
  |some s=>
   obtain ⟨x,c,hA⟩:=KP hk hs
   simp only [hs,Option.getD_some,Option.isSome_some] at hsl
   have hf:=fun H=>Np M hN hW hE hS hX hY hB hF hl hk hA H
   cases hl1:decide (f.link<0) with
   |true=>
    have e1:Eg l f=none:=by simp [Eg,hs,hA.ent',Ht,of_decide_eq_true hl1]
    rw [e1]
    simp only [Eh]
    rw [ao M b7.eq_1]
    simp (maxSteps:=3000000) (maxDischargeDepth:=6) +contextual -implicitDefEqProofs only [amA M,amB,↓ae,↓aa,↓aj,↓ah,Nat.reduceBEq,Nat.reduceAdd,env,am,bL,amG,AV.cell,Nat.reduceMul,Nat.reduceLeDiff,hx,hi,hsl,hl1,hp',hr',az hi,bp,qZ,fk,hcm,htm]
   |false=>
    have hl0:¬ f.link<0:=of_decide_eq_false hl1
    cases hl2:decide ((l.links.l.length:Int)≤f.link) with
    |true=>
     have hll:l.links.l.length≤f.link.toNat:=by have:=of_decide_eq_true hl2;omega
     have e1:Eg l f=none:=by simp [Eg,hs,hA.ent',Ht,hl0,List.getElem?_eq_none hll]
     rw [e1]
     simp only [Eh]
     rw [ao M b7.eq_1]
     simp (maxSteps:=3000000) (maxDischargeDepth:=6) +contextual -implicitDefEqProofs only [amA M,amB,↓ae,↓aa,↓aj,↓ah,Nat.reduceBEq,Nat.reduceAdd,env,am,bL,amG,AV.cell,Nat.reduceMul,Nat.reduceLeDiff,hx,hi,hsl,hl1,hl2,hp',hr',az hi,bp,qZ,fk,hcm,htm]
    |false=>
     have hll:f.link.toNat<l.links.l.length:=by have:=of_decide_eq_false hl2;omega
     have hk1:l.links.l[f.link.toNat]?=some l.links.l[f.link.toNat]:=List.getElem?_eq_getElem hll
     have hkm:l.links.l[f.link.toNat]∈l.links.l:=List.getElem_mem hll
     generalize l.links.l[f.link.toNat]=kk at hk1 hkm
     have hko:=hl.links.all kk hkm
     have hgl:=Jo hk hkm
     have hop:=fun H=>QB M hE hU hO hP hF hV hA hko H
     have e0:Eg l f=sel (LQ x s kk) (sel (qI l x s f.slot == []) none (some (qI l x s f.slot++kk.glue))) none:=by simp [Eg,hs,hA.ent',Ht,hl0,hk1]
     have hfl:=FB hA.ent s f.slot
     cases ho:LQ x s kk with
     |false=>
      rw [e0,ho]
      simp only [sel,Eh]
      rw [ho] at hop
      rw [ao M b7.eq_1]
      simp (maxSteps:=3000000) (maxDischargeDepth:=6) +contextual -implicitDefEqProofs only [amA M,amB,↓ae,↓aa,↓aj,↓ah,Nat.reduceBEq,Nat.reduceAdd,env,am,bL,amG,AV.cell,Nat.reduceMul,Nat.reduceLeDiff,hx,hi,hsl,hl1,hl2,hk1,hop,hp',hr',az hi,di (Int.not_lt.1 hl0) hll,bp,qZ,fk,xz,hcm,htm]
     |true=>
      rw [e0,ho]
      rw [ho] at hop
      generalize qI l x s f.slot=v at hf hfl
      cases hv:v == [] with
      |true=>
       simp only [sel,Eh]
       rw [ao M b7.eq_1]
       simp (maxSteps:=3000000) (maxDischargeDepth:=6) +contextual -implicitDefEqProofs only [amA M,amB,↓ae,↓aa,↓aj,↓ah,Nat.reduceBEq,Nat.reduceAdd,env,am,bL,amG,AV.cell,Nat.reduceMul,Nat.reduceLeDiff,hx,hi,hsl,hl1,hl2,hk1,hop,hf,hv,hp',hr',az hi,di (Int.not_lt.1 hl0) hll,bp,qZ,fk,xz,hcm,htm]
      |false=>
       simp only [sel]
       have ih:=bul hN hW hE hS hX hY hB hF hU hO hP hV hl hk ha ha2 hc hp hr k n (i+1) (w++(v++kk.glue)) He rfl (by omega) (by simp;omega)
       simp only [kv_cons,kv_nil] at ih
       rw [ao M b7.eq_1]
       simp (maxSteps:=3000000) (maxDischargeDepth:=6) +contextual -implicitDefEqProofs only [amA M,amB,↓ae,↓aa,↓aj,↓ah,Nat.reduceBEq,Nat.reduceAdd,env,am,bL,amG,AV.cell,Nat.reduceMul,Nat.reduceLeDiff,hx,hi,hsl,hl1,hl2,hk1,hop,hf,hv,ih,w1,w2,w3,gH (s:=v) (t:=kk.glue) (by omega),gH (s:=w) (t:=v++kk.glue) (by simp;omega),bq hi (show a.firsts.l.length≤aZ by simp only [aZ];omega),hp',hr',az hi,di (Int.not_lt.1 hl0) hll,bp,qZ,fk,xz,hcm,htm]
end
section
attribute [local congr] aS eb bQ aT bv bb aU aC aD bc be
variable{E:bP}(M:dO d8 E)
theorem Jp{l:Lex}(hk:iU l=0):∀ (t:List cZ) (w v:Str),Hu l t w=some v→v.length≤w.length+30*t.length
 |[],w,v,h=>by obtain rfl:=Option.some.inj h;simp
 |f::t,w,v,h=>by
  rw [Hu] at h
  cases ho:Eg l f with
  |none=>rw [ho] at h;cases h
  |some u=>
   rw [ho] at h
   have h1:=Jp hk t (w++u) v h
   have h2:u.length≤30:=by
    unfold Eg at ho
    cases hs:slF l f.entry f.slot with
    |none=>rw [hs] at ho;cases ho
    |some s=>
     obtain ⟨x,c,hA⟩:=KP hk hs
     rw [hs,hA.ent'] at ho
     cases hl:Ht l f.link with
     |none=>rw [hl] at ho;cases ho
     |some kk=>
      rw [hl] at ho
      have hg:kk.glue.length≤6:=by
       unfold Ht at hl
       split at hl
       ·cases hl
       ·exact Jo hk (List.mem_of_getElem? hl)
      have hf:=FB hA.ent s f.slot
      simp only at ho
      cases hb:LQ x s kk with
      |false=>rw [hb] at ho;cases ho
      |true=>
       rw [hb] at ho
       cases hv:qI l x s f.slot == [] with
       |true=>rw [hv] at ho;cases ho
       |false=>rw [hv] at ho;obtain rfl:=Option.some.inj ho;simp;omega
   simp at h1 ⊢;omega
theorem QC(hN:bz E)(hW:WdE M)(hE:lG E)(hS:SpE E)(hX:rN M)(hY:Jl M)(hB:sQ E)(hF:tG E)(hU:wt E){srt:List au→List au}(hO:GV M srt)(hP:Srt srt)(hV:JU E){l:Lex}(hl:l.ok 0)(hk:iU l=0){a:aV}(ha:a.ok 0)(ha2:a.firsts.l.length≤2)(H:List ag) :
  M.run mO [.agg l.row,.agg a.row] H=some (.ret (.str (nG l a)),H):=by
 rw [aM M hV.morph_language_build rfl (c:=nd) rfl,nd]
 have h1:=fun k=>bul M hN hW hE hS hX hY hB hF hU hO hP hV hl hk ha ha2 (H:=H++[.cells l.row aK,.cells a.row dS]) (H0:=H) (cut_app H _) (p:=H.length) (r:=H.length+1) (T:=aK) (T2:=dS) (by rw [cu];rfl) (by rw [hp_getk];rfl) k a.firsts.l.length 0 [] _ rfl (by omega) (by simp)
 simp only [kv_cons,kv_nil,Int.ofNat_zero,List.drop_zero] at h1
 have hsl:=fun H=>Ji M hW hE hF hl a.entry a.slot H
 cases hb:Hu l a.firsts.l [] with
 |none=>
  have e1:nG l a=[]:=by simp [nG,hb]
  rw [e1]
  simp only [hb,Eh,hp_take] at h1
  simp (maxSteps:=3000000) (maxDischargeDepth:=6) +contextual -implicitDefEqProofs only [amA M,amB,↓ae,↓aa,↓aj,↓ah,Nat.reduceBEq,Nat.reduceAdd,env,am,bL,amG,AV.cell,Nat.reduceMul,Nat.reduceLeDiff,h1,bp,ei]
 |some w=>
  have hwl:=Jp hk _ _ _ hb
  simp only [hb,Eh,kv_cons,kv_nil] at h1
  cases hs:slF l a.entry a.slot with
  |none=>
   have e1:nG l a=[]:=by simp [nG,hb,hs]
   rw [e1]
   simp only [hs,Option.getD_none,Option.isSome_none] at hsl
   simp (maxSteps:=3000000) (maxDischargeDepth:=6) +contextual -implicitDefEqProofs only [amA M,amB,↓ae,↓aa,↓aj,↓ah,Nat.reduceBEq,Nat.reduceAdd,env,am,bL,amG,AV.cell,Nat.reduceMul,Nat.reduceLeDiff,h1,hsl,bp,ei,fk]
  |some s=>
   obtain ⟨x,c,hA⟩:=KP hk hs
   simp only [hs,Option.getD_some,Option.isSome_some] at hsl
   have hf:=fun H=>Np M hN hW hE hS hX hY hB hF hl hk hA H
   have hfl:=FB hA.ent s a.slot
   have e1:nG l a=sel (qI l x s a.slot == []||decide ((24:Int)<((w++qI l x s a.slot).length:Int))) [] (w++qI l x s a.slot):=by simp only [nG,hb,hs,hA.ent']
   rw [e1]
   generalize qI l x s a.slot=v at hf hfl
   have had:=gH (s:=w) (t:=v) (by simp at hwl;omega)
   cases hv:v == [] with
   |true=>
    simp only [Bool.true_or,sel]
    simp (maxSteps:=3000000) (maxDischargeDepth:=6) +contextual -implicitDefEqProofs only [amA M,amB,↓ae,↓aa,↓aj,↓ah,Nat.reduceBEq,Nat.reduceAdd,env,am,bL,amG,AV.cell,Nat.reduceMul,Nat.reduceLeDiff,h1,hsl,hf,hv,bp,ei,fk]
   |false=>
    cases hd:decide ((24:Int)<((w++v).length:Int)) with
    |true=>
     simp only [Bool.false_or,sel]
     simp (maxSteps:=3000000) (maxDischargeDepth:=6) +contextual -implicitDefEqProofs only [amA M,amB,↓ae,↓aa,↓aj,↓ah,Nat.reduceBEq,Nat.reduceAdd,env,am,bL,amG,AV.cell,Nat.reduceMul,Nat.reduceLeDiff,h1,hsl,hf,hv,had,hd,bp,ei,fk]
    |false=>
     simp only [Bool.false_or,sel]
     simp (maxSteps:=3000000) (maxDischargeDepth:=6) +contextual -implicitDefEqProofs only [amA M,amB,↓ae,↓aa,↓aj,↓ah,Nat.reduceBEq,Nat.reduceAdd,env,am,bL,amG,AV.cell,Nat.reduceMul,Nat.reduceLeDiff,h1,hsl,hf,hv,had,hd,bp,ei,fk]
def Gs(l:Lex)(a:aV):AV:=
 sel (!(iU l == 0)) (.tuple [.str [],.int .u8 (iU l)]) (sel (decide ((2:Int)<(a.firsts.l.length:Int))) (.tuple [.str [],.int .u8 3]) (sel (nG l a == []) (.tuple [.str [],.int .u8 7]) (.tuple [.str (nG l a),.int .u8 0])))
theorem QD(hN:bz E)(hW:WdE M)(hE:lG E)(hS:SpE E)(hX:rN M)(hY:Jl M)(hB:sQ E)(hF:tG E)(hU:wt E){srt:List au→List au}(hO:GV M srt)(hP:Srt srt)(hV:JU E){l:Lex}(hl:l.ok 0){a:aV}(ha:a.ok 0)(H:List ag) :
  M.run xL [.agg l.row,.agg a.row] H=some (.ret (Gs l a),H):=by
 rw [aM M hV.morph_Build rfl (c:=xV) rfl,xV]
 unfold Gs
 cases hk:iU l == 0 with
 |false=>
  simp (maxSteps:=3000000) (maxDischargeDepth:=6) +contextual -implicitDefEqProofs only [amA M,amB,↓ae,↓aa,↓aj,↓ah,Nat.reduceBEq,Nat.reduceAdd,env,am,tQ,amG,AV.cell,Nat.reduceMul,Nat.reduceLeDiff,CC M hN hE hl,Nat.zero_le,hk,bp,ei,wk_tuple,sel]
 |true=>
  cases hd:decide ((2:Int)<(a.firsts.l.length:Int)) with
  |true=>
   simp (maxSteps:=3000000) (maxDischargeDepth:=6) +contextual -implicitDefEqProofs only [amA M,amB,↓ae,↓aa,↓aj,↓ah,Nat.reduceBEq,Nat.reduceAdd,env,am,tQ,amG,AV.cell,Nat.reduceMul,Nat.reduceLeDiff,CC M hN hE hl,Nat.zero_le,hk,hd,bp,ei,wk_tuple,sel]
  |false=>
   have hb:=fun H=>QC M hN hW hE hS hX hY hB hF hU hO hP hV hl (eq_of_beq hk) ha (by have:=of_decide_eq_false hd;omega) H
   generalize nG l a=w at hb
   cases hw:w == [] with
   |true=>
    simp (maxSteps:=3000000) (maxDischargeDepth:=6) +contextual -implicitDefEqProofs only [amA M,amB,↓ae,↓aa,↓aj,↓ah,Nat.reduceBEq,Nat.reduceAdd,env,am,tQ,amG,AV.cell,Nat.reduceMul,Nat.reduceLeDiff,CC M hN hE hl,Nat.zero_le,hk,hd,hb,hw,bp,ei,wk_tuple,sel]
   |false=>
    simp (maxSteps:=3000000) (maxDischargeDepth:=6) +contextual -implicitDefEqProofs only [amA M,amB,↓ae,↓aa,↓aj,↓ah,Nat.reduceBEq,Nat.reduceAdd,env,am,tQ,amG,AV.cell,Nat.reduceMul,Nat.reduceLeDiff,CC M hN hE hl,Nat.zero_le,hk,hd,hb,hw,bp,ei,wk_tuple,sel]
def Hv(l:Lex)(f:cZ):Bool:=
 match slF l f.entry f.slot,Cq l f.entry,Ht l f.link with
 |some s,some x,some k=>LQ x s k
 |_,_,_=>false
theorem OK(hR:tE E)(hF:tG E)(hU:wt E)(hV:JU E){l:Lex}(hl:l.ok 0)(hk:iU l=0)(f:cZ)(H:List ag) :
  M.run mR [.agg l.row,.agg f.row] H=some (.ret (.bool (Hv l f)),H):=by
 rw [aM M hV.truchmanref02_linked rfl (c:=nl) rfl,nl]
 have hsl:=fun H=>CL M hR hF hl hk f.entry f.slot H
 cases hl1:decide (f.link<0) with
 |true=>
  have e1:Hv l f=false:=by unfold Hv Ht;rw [if_pos (of_decide_eq_true hl1)];split<;>simp_all
  rw [e1]
  simp (maxSteps:=3000000) (maxDischargeDepth:=6) +contextual -implicitDefEqProofs only [amA M,amB,↓ae,↓aa,↓aj,↓ah,Nat.reduceBEq,Nat.reduceAdd,env,am,iG,amG,AV.cell,Nat.reduceMul,Nat.reduceLeDiff,hl1,bp,qZ]
 |false=>
  have hl0:¬ f.link<0:=of_decide_eq_false hl1
  cases hl2:decide ((l.links.l.length:Int)≤f.link) with
  |true=>
   have hll:l.links.l.length≤f.link.toNat:=by have:=of_decide_eq_true hl2;omega
   have e1:Hv l f=false:=by unfold Hv Ht;rw [if_neg hl0,List.getElem?_eq_none hll];split<;>simp_all
   rw [e1]
   simp (maxSteps:=3000000) (maxDischargeDepth:=6) +contextual -implicitDefEqProofs only [amA M,amB,↓ae,↓aa,↓aj,↓ah,Nat.reduceBEq,Nat.reduceAdd,env,am,iG,amG,AV.cell,Nat.reduceMul,Nat.reduceLeDiff,hl1,hl2,bp,qZ]
  |false=>
   have hll:f.link.toNat<l.links.l.length:=by have:=of_decide_eq_false hl2;omega
   have hk1:l.links.l[f.link.toNat]?=some l.links.l[f.link.toNat]:=List.getElem?_eq_getElem hll
   have hkm:l.links.l[f.link.toNat]∈l.links.l:=List.getElem_mem hll
   generalize l.links.l[f.link.toNat]=kk at hk1 hkm
   have hko:=hl.links.all kk hkm
   cases hs:slF l f.entry f.slot with
   |none=>
    have e1:Hv l f=false:=by simp [Hv,hs]
    rw [e1]
    simp only [hs,Option.getD_none,Option.isSome_none] at hsl
    simp (maxSteps:=3000000) (maxDischargeDepth:=6) +contextual -implicitDefEqProofs only [amA M,amB,↓ae,↓aa,↓aj,↓ah,Nat.reduceBEq,Nat.reduceAdd,env,am,iG,amG,AV.cell,Nat.reduceMul,Nat.reduceLeDiff,hl1,hl2,hsl,bp,qZ,fk]
   |some s=>
    obtain ⟨x,c,hA⟩:=KP hk hs
    simp only [hs,Option.getD_some,Option.isSome_some] at hsl
    have e1:Hv l f=LQ x s kk:=by simp [Hv,hs,hA.ent',Ht,hl0,hk1]
    have hu:=fun H=>I1 M hR (a:=x.feats) (b:=s.feats) (by have:=hA.ent.short.1;have:=hA.sok.feats.1;omega) H
    simp only [hA.uni,RF] at hu
    have h2:=fun H=>JR M hU (a:=kk.feats) (b:=⟨.any,Nk x s⟩) hko.feats.len (Pz hA) H
    simp only at h2
    rw [e1]
    unfold LQ
    cases hc:x.cls == kk.cls with
    |true=>
     simp (maxSteps:=3000000) (maxDischargeDepth:=6) +contextual -implicitDefEqProofs only [amA M,amB,↓ae,↓aa,↓aj,↓ah,Nat.reduceBEq,Nat.reduceAdd,env,am,iG,amG,AV.cell,Nat.reduceMul,Nat.reduceLeDiff,hl1,hl2,hsl,hu,h2,hc,hk1,hA.ex,di hA.e0 hA.el,di (Int.not_lt.1 hl0) hll,bp,qZ,fk,cY,xz]
    |false=>
     simp (maxSteps:=3000000) (maxDischargeDepth:=6) +contextual -implicitDefEqProofs only [amA M,amB,↓ae,↓aa,↓aj,↓ah,Nat.reduceBEq,Nat.reduceAdd,env,am,iG,amG,AV.cell,Nat.reduceMul,Nat.reduceLeDiff,hl1,hl2,hsl,hu,h2,hc,hk1,hA.ex,di hA.e0 hA.el,di (Int.not_lt.1 hl0) hll,bp,qZ,fk,cY,xz]
theorem UN(hN:bz E)(hR:tE E)(hQ:Eb E)(hF:tG E)(hU:wt E)(hV:JU E){l:Lex}(hl:l.ok 0)(hk:iU l=0){a:aV}(ha:a.ok 0)(ha2:a.firsts.l.length≤2)
  {H H0:List ag} (hc:bO H0 H) {p r:Nat}{T T2:TypeId} (hp:H[p]?=some (.cells l.row T)) (hr:H[r]?=some (.cells a.row T2)) (k:List Fra):∀ (n i:Nat) (w:Str) (He:List ag),He=H→i+n=a.firsts.l.length→w.length≤30*i →
  M.go ed H0 (.c ek :: .lp ⟨(some [2,3,5,6]),[],true⟩ ek He :: .blk 0 :: .c (.lv [2,3,5])::k) (kv [(2,.ptr p 0),(3,.ptr r 0),(5,.str w),(6,.int .i64 i)]) H=Eh M ed H0 k p r (Hu l (a.firsts.l.drop i) w) H
 |0,i,w,He,hHe,h,hw=>by
  have e:i=a.firsts.l.length:=by omega
  subst e
  rw [List.drop_length,Hu,Eh]
  rw [ao M ek.eq_1]
  simp (maxSteps:=3000000) (maxDischargeDepth:=6) +contextual -implicitDefEqProofs only [amA M,amB,↓ae,↓aa,↓aj,↓ah,Nat.reduceBEq,Nat.reduceAdd,env,am,dA,Nat.lt_irrefl,hp,hr,ei]
 |n+1,i,w,He,hHe,h,hw=>by
  subst hHe
  have hi:i<a.firsts.l.length:=by omega
  have hx:a.firsts.l[i]?=some a.firsts.l[i]:=List.getElem?_eq_getElem hi
  have hd:a.firsts.l.drop i=a.firsts.l[i]::a.firsts.l.drop (i+1):=List.drop_eq_getElem_cons hi
  have hp':=fun L=>cf (L:=L) hp
  have hr':=fun L=>cf (L:=L) hr
  have w1:Wk He.length (.ptr p 0) (.ptr p 0):=wk_ptr (List.getElem?_eq_some_iff.1 hp).1
  have w2:Wk He.length (.ptr r 0) (.ptr r 0):=wk_ptr (List.getElem?_eq_some_iff.1 hr).1
  have hcm:=fun L=>pm hc L
  have htm:=fun L=>yT hc L
  rw [hd,Hu]
  generalize a.firsts.l[i]=f at hx
  have hlk:=fun H=>OK M hR hF hU hV hl hk f H
  cases hb:Hv l f with
  |false=>
   have e1:Eg l f=none:=by
    unfold Hv at hb;unfold Eg
    split
    ·rename_i s x kk h1 h2 h3;rw [h1,h2,h3] at hb;simp only at hb;rw [hb];rfl
    ·rfl
   rw [hb] at hlk
   rw [e1]
   simp only [Eh]
   rw [ao M ek.eq_1]
   simp (maxSteps:=3000000) (maxDischargeDepth:=6) +contextual -implicitDefEqProofs only [amA M,amB,↓ae,↓aa,↓aj,↓ah,Nat.reduceBEq,Nat.reduceAdd,env,am,dA,amG,AV.cell,Nat.reduceMul,Nat.reduceLeDiff,hx,hi,hlk,hp,hr,hp',hr',az hi,bp,qZ,ei,beq_self_eq_true,hcm,htm]
  |true=>
   rw [hb] at hlk
   have hb0:=hb
   unfold Hv at hb
   cases hs:slF l f.entry f.slot with
   |none=>rw [hs] at hb;cases hb
   |some s=>
    obtain ⟨x,c,hA⟩:=KP hk hs
    rw [hs,hA.ent'] at hb
    cases hlf:Ht l f.link with
    |none=>rw [hlf] at hb;cases hb
    |some kk=>
     rw [hlf] at hb
     simp only at hb
     have e0:Eg l f=sel (qI l x s f.slot == []) none (some (qI l x s f.slot++kk.glue)):=by simp [Eg,hs,hA.ent',hlf,hb,sel]
     have hf:=fun H=>KR M hN hR hQ hF hl hk hA H
     have hfl:=FB hA.ent s f.slot
     unfold Ht at hlf
     split at hlf
     ·cases hlf
     ·rename_i hl0
      have hll:f.link.toNat<l.links.l.length:=(List.getElem?_eq_some_iff.1 hlf).1
      have hgl:=Jo hk (List.mem_of_getElem? hlf)
      rw [e0]
      generalize qI l x s f.slot=v at hf hfl
      cases hv:v == [] with
      |true=>
       simp only [sel,Eh]
       rw [ao M ek.eq_1]
       simp (maxSteps:=3000000) (maxDischargeDepth:=6) +contextual -implicitDefEqProofs only [amA M,amB,↓ae,↓aa,↓aj,↓ah,Nat.reduceBEq,Nat.reduceAdd,env,am,dA,amG,AV.cell,Nat.reduceMul,Nat.reduceLeDiff,hx,hi,hlk,hf,hv,hp,hr,hp',hr',az hi,bp,qZ,ei,hcm,htm]
      |false=>
       simp only [sel]
       have ih:=UN hN hR hQ hF hU hV hl hk ha ha2 hc hp hr k n (i+1) (w++(v++kk.glue)) He rfl (by omega) (by simp;omega)
       simp only [kv_cons,kv_nil] at ih
       rw [ao M ek.eq_1]
       simp (maxSteps:=3000000) (maxDischargeDepth:=6) +contextual -implicitDefEqProofs only [amA M,amB,↓ae,↓aa,↓aj,↓ah,Nat.reduceBEq,Nat.reduceAdd,env,am,dA,amG,AV.cell,Nat.reduceMul,Nat.reduceLeDiff,hx,hi,hlk,hf,hv,hlf,ih,w1,w2,gH (s:=v) (t:=kk.glue) (by omega),gH (s:=w) (t:=v++kk.glue) (by simp;omega),bq hi (show a.firsts.l.length≤aZ by simp only [aZ];omega),hp,hr,hp',hr',az hi,di (Int.not_lt.1 hl0) hll,bp,qZ,xz,ei,hcm,htm]
theorem QE(hN:bz E)(hR:tE E)(hQ:Eb E)(hF:tG E)(hU:wt E)(hV:JU E){l:Lex}(hl:l.ok 0)(hk:iU l=0){a:aV}(ha:a.ok 0)(ha2:a.firsts.l.length≤2)(H:List ag) :
  M.run oe [.agg l.row,.agg a.row] H=some (.ret (.str (nG l a)),H):=by
 rw [aM M hV.truchmanref02_built rfl (c:=oE) rfl,oE]
 have h1:=fun k=>UN M hN hR hQ hF hU hV hl hk ha ha2 (H:=H++[.cells l.row aq,.cells a.row dS]) (H0:=H) (cut_app H _) (p:=H.length) (r:=H.length+1) (T:=aq) (T2:=dS) (by rw [cu];rfl) (by rw [hp_getk];rfl) k a.firsts.l.length 0 [] _ rfl (by omega) (by simp)
 simp only [kv_cons,kv_nil,Int.ofNat_zero,List.drop_zero] at h1
 cases hb:Hu l a.firsts.l [] with
 |none=>
  have e1:nG l a=[]:=by simp [nG,hb]
  rw [e1]
  simp only [hb,Eh,hp_take] at h1
  simp (maxSteps:=3000000) (maxDischargeDepth:=6) +contextual -implicitDefEqProofs only [amA M,amB,↓ae,↓aa,↓aj,↓ah,Nat.reduceBEq,Nat.reduceAdd,env,am,dA,amG,AV.cell,Nat.reduceMul,Nat.reduceLeDiff,h1,bp,ei]
 |some w=>
  have hwl:=Jp hk _ _ _ hb
  simp only [hb,Eh,kv_cons,kv_nil] at h1
  cases hs:slF l a.entry a.slot with
  |none=>
   have e1:nG l a=[]:=by simp [nG,hb,hs]
   rw [e1]
   have hst:=fun H=>OJ M hR hF hl hk hs H
   simp (maxSteps:=3000000) (maxDischargeDepth:=6) +contextual -implicitDefEqProofs only [amA M,amB,↓ae,↓aa,↓aj,↓ah,Nat.reduceBEq,Nat.reduceAdd,env,am,dA,amG,AV.cell,Nat.reduceMul,Nat.reduceLeDiff,h1,hst,beq_self_eq_true,bp,ei,fk]
  |some s=>
   obtain ⟨x,c,hA⟩:=KP hk hs
   have hf:=fun H=>KR M hN hR hQ hF hl hk hA H
   have hfl:=FB hA.ent s a.slot
   have e1:nG l a=sel (qI l x s a.slot == []||decide ((24:Int)<((w++qI l x s a.slot).length:Int))) [] (w++qI l x s a.slot):=by simp only [nG,hb,hs,hA.ent']
   rw [e1]
   generalize qI l x s a.slot=v at hf hfl
   have had:=gH (s:=w) (t:=v) (by simp at hwl;omega)
   cases hv:v == [] with
   |true=>
    simp only [Bool.true_or,sel]
    simp (maxSteps:=3000000) (maxDischargeDepth:=6) +contextual -implicitDefEqProofs only [amA M,amB,↓ae,↓aa,↓aj,↓ah,Nat.reduceBEq,Nat.reduceAdd,env,am,dA,amG,AV.cell,Nat.reduceMul,Nat.reduceLeDiff,h1,hf,hv,bp,ei]
   |false=>
    cases hd:decide ((24:Int)<((w++v).length:Int)) with
    |true=>
     simp only [Bool.false_or,sel]
     simp (maxSteps:=3000000) (maxDischargeDepth:=6) +contextual -implicitDefEqProofs only [amA M,amB,↓ae,↓aa,↓aj,↓ah,Nat.reduceBEq,Nat.reduceAdd,env,am,dA,amG,AV.cell,Nat.reduceMul,Nat.reduceLeDiff,h1,hf,hv,had,hd,bp,ei]
    |false=>
     simp only [Bool.false_or,sel]
     simp (maxSteps:=3000000) (maxDischargeDepth:=6) +contextual -implicitDefEqProofs only [amA M,amB,↓ae,↓aa,↓aj,↓ah,Nat.reduceBEq,Nat.reduceAdd,env,am,dA,amG,AV.cell,Nat.reduceMul,Nat.reduceLeDiff,h1,hf,hv,had,hd,bp,ei]
theorem OL(hN:bz E)(hR:tE E)(hQ:Eb E)(hF:tG E)(hU:wt E)(hV:JU E){l:Lex}(hl:l.ok 0){a:aV}(ha:a.ok 0)(H:List ag) :
  M.run oc [.agg l.row,.agg a.row] H=some (.ret (Gs l a),H):=by
 rw [aM M hV.truchmanref02_Build rfl (c:=oq) rfl,oq]
 unfold Gs
 cases hk:iU l == 0 with
 |false=>
  simp (maxSteps:=3000000) (maxDischargeDepth:=6) +contextual -implicitDefEqProofs only [amA M,amB,↓ae,↓aa,↓aj,↓ah,Nat.reduceBEq,Nat.reduceAdd,env,am,kI,amG,AV.cell,Nat.reduceMul,Nat.reduceLeDiff,Az M hN hR hl,Nat.zero_le,hk,bp,ei,wk_tuple,sel]
 |true=>
  cases hd:decide ((2:Int)<(a.firsts.l.length:Int)) with
  |true=>
   simp (maxSteps:=3000000) (maxDischargeDepth:=6) +contextual -implicitDefEqProofs only [amA M,amB,↓ae,↓aa,↓aj,↓ah,Nat.reduceBEq,Nat.reduceAdd,env,am,kI,amG,AV.cell,Nat.reduceMul,Nat.reduceLeDiff,Az M hN hR hl,Nat.zero_le,hk,hd,bp,ei,wk_tuple,sel]
  |false=>
   have hb:=fun H=>QE M hN hR hQ hF hU hV hl (eq_of_beq hk) ha (by have:=of_decide_eq_false hd;omega) H
   generalize nG l a=w at hb
   cases hw:w == [] with
   |true=>
    simp (maxSteps:=3000000) (maxDischargeDepth:=6) +contextual -implicitDefEqProofs only [amA M,amB,↓ae,↓aa,↓aj,↓ah,Nat.reduceBEq,Nat.reduceAdd,env,am,kI,amG,AV.cell,Nat.reduceMul,Nat.reduceLeDiff,Az M hN hR hl,Nat.zero_le,hk,hd,hb,hw,bp,ei,wk_tuple,sel]
   |false=>
    simp (maxSteps:=3000000) (maxDischargeDepth:=6) +contextual -implicitDefEqProofs only [amA M,amB,↓ae,↓aa,↓aj,↓ah,Nat.reduceBEq,Nat.reduceAdd,env,am,kI,amG,AV.cell,Nat.reduceMul,Nat.reduceLeDiff,Az M hN hR hl,Nat.zero_le,hk,hd,hb,hw,bp,ei,wk_tuple,sel]
theorem QF(l:Lex)(a:aV):∃ (w:Str) (c:Int),Gs l a = .tuple [.str w,.int .u8 c]:=by
 unfold Gs
 cases (!(iU l == 0))<;>cases decide ((2:Int)<(a.firsts.l.length:Int))<;>cases nG l a == []<;>exact ⟨_,_,rfl⟩
theorem Hw(hN:bz E)(hW:WdE M)(hE:lG E)(hR:tE E)(hg:Ea E)(hS:SpE E)(hX:rN M)(hY:Jl M)(hB:sQ E)(hQ:Eb E)(hF:tG E)(hU:wt E){srt:List au→List au}(hO:GV M srt)(hP:Srt srt)(hV:JU E)(h:E.fn j0=some d7)
  {l:Lex} (hl:l.ok 0) {a:aV} (ha:a.ok 0) {H:List ag} (hlv:∀ H,M.run dx [] H=some (.ret (.bool true),H)) :
  M.run j0 [.agg l.row,.agg a.row] H=some (.ret (.bool true),H):=by
 rw [aM M h rfl (c:=kd) rfl,kd]
 have a1:=fun H=>QD M hN hW hE hS hX hY hB hF hU hO hP hV hl ha H
 have a2:=fun H=>OL M hN hR hQ hF hU hV hl ha H
 obtain ⟨w,c,e⟩:=QF l a
 simp only [e] at a1 a2
 simp (maxSteps:=3000000) (maxDischargeDepth:=6) +contextual -implicitDefEqProofs only [amA M,amB,↓ae,↓aa,↓aj,↓ah,Nat.reduceBEq,Nat.reduceAdd,env,am,u4,amG,AV.cell,Nat.reduceMul,Nat.reduceLeDiff,hlv,Qo M hg hl,Nat.zero_le,a1,a2,bp,ei,beq_self_eq_true,cut_app]
end
section
open Go.ChangeShapes Go.WideShapes
structure iY (P:Program):Prop where
 u_string:P.underlying bg=some .string
 c_string:P.cellsOf bg=1
 f_Feat:fieldsOf P aQ=some [(0,bg),(1,bg)]
 c_Feat:P.cellsOf aQ=2
 u_sl_string:P.underlying xA=some (.slice bg)
 c_sl_string:P.cellsOf xA=1
 f_Trait:fieldsOf P gb=some [(0,bg),(1,xA)]
 c_Trait:P.cellsOf gb=2
 u_sl_Feat:P.underlying dK=some (.slice aQ)
 c_sl_Feat:P.cellsOf dK=1
 u_int:P.underlying yW=some (.int .i64)
 c_int:P.cellsOf yW=1
 f_Slot:fieldsOf P bR=some [(0,yW),(1,bg),(2,bg),(3,dK)]
 c_Slot:P.cellsOf bR=4
 u_sl_Slot:P.underlying tP=some (.slice bR)
 c_sl_Slot:P.cellsOf tP=1
 f_Class:fieldsOf P b6=some [(0,bg),(1,tP)]
 c_Class:P.cellsOf b6=2
 f_Irreg:fieldsOf P dR=some [(0,yW),(1,bg)]
 c_Irreg:P.cellsOf dR=2
 u_sl_Irreg:P.underlying mX=some (.slice dR)
 c_sl_Irreg:P.cellsOf mX=1
 f_Entry:fieldsOf P bK=some [(0,bg),(1,bg),(2,dK),(3,mX)]
 c_Entry:P.cellsOf bK=4
 f_Spell:fieldsOf P cW=some [(0,bg),(1,bg),(2,bg),(3,bg)]
 c_Spell:P.cellsOf cW=4
 f_Link:fieldsOf P mY=some [(0,bg),(1,bg),(2,dK)]
 c_Link:P.cellsOf mY=3
 u_sl_Trait:P.underlying r7=some (.slice gb)
 c_sl_Trait:P.cellsOf r7=1
 u_sl_Class:P.underlying r8=some (.slice b6)
 c_sl_Class:P.cellsOf r8=1
 u_sl_Entry:P.underlying r9=some (.slice bK)
 c_sl_Entry:P.cellsOf r9=1
 u_sl_Spell:P.underlying sa=some (.slice cW)
 c_sl_Spell:P.cellsOf sa=1
 u_sl_Link:P.underlying tO=some (.slice mY)
 c_sl_Link:P.cellsOf tO=1
 f_Lex:fieldsOf P aq=some [(0,bg),(1,r7),(2,r8),(3,r9),(4,sa),(5,tO)]
 c_Lex:P.cellsOf aq=6
 f_First:fieldsOf P pu=some [(0,yW),(1,yW),(2,yW)]
 c_First:P.cellsOf pu=3
 u_sl_First:P.underlying sb=some (.slice pu)
 c_sl_First:P.cellsOf sb=1
 f_Analysis:fieldsOf P dS=some [(0,sb),(1,yW),(2,yW)]
 c_Analysis:P.cellsOf dS=3
 f_Ask:fieldsOf P p8=some [(0,bg),(1,bg),(2,dK),(3,yW),(4,yW)]
 c_Ask:P.cellsOf p8=5
section
variable{P:Program}{W:World}{G:Nat→Option (List AV)}
theorem QG(h:iY P):lI P W G aQ au.row (au.ok 0):=
 iz h.f_Feat h.c_Feat (bn (gL h.u_string) h.c_string (bn (gL h.u_string) h.c_string (kn _))) (fun a=>⟨a.1,a.2.1⟩) (fun a=>rfl) (fun a ha=>⟨ha.1,ha.2.1⟩)
theorem Jq(h:iY P):lI P W G xA (fun s:Sl Str=>[.slice s.tag 1 (s.l.map jk)]) (fun s=>s.ok 0 fun s=>s.length≤aZ):=
 kj h.u_sl_string h.c_string (by decide) (fun _=>rfl) (gL h.u_string)
theorem OM(h:iY P):lI P W G gb bA.row (bA.ok 0):=
 iz h.f_Trait h.c_Trait (bn (gL h.u_string) h.c_string (bn (Jq h) h.c_sl_string (kn _))) (fun a=>⟨a.1,a.2.1⟩) (fun a=>rfl) (fun a ha=>⟨ha.1,ha.2.1⟩)
theorem AD(h:iY P):lI P W G dK (fun s:Sl au=>[.slice s.tag 2 (s.l.map au.row)]) (fun s=>s.ok 0 (au.ok 0)):=
 kj h.u_sl_Feat h.c_Feat (by decide) (fun _=>by simp only [mE]) (QG h)
theorem QH(h:iY P):lI P W G bR bC.row (bC.ok 0):=
 iz h.f_Slot h.c_Slot (bn (tq h.u_int) h.c_int (bn (gL h.u_string) h.c_string (bn (gL h.u_string) h.c_string (bn (AD h) h.c_sl_Feat (kn _))))) (fun a=>⟨a.1,a.2.1,a.2.2.1,a.2.2.2.1⟩) (fun a=>rfl) (fun a ha=>⟨ha.1,ha.2.1,ha.2.2.1,ha.2.2.2.1⟩)
theorem LR(h:iY P):lI P W G tP (fun s:Sl bC=>[.slice s.tag 4 (s.l.map bC.row)]) (fun s=>s.ok 0 (bC.ok 0)):=
 kj h.u_sl_Slot h.c_Slot (by decide) (fun _=>by simp only [fk]) (QH h)
theorem ON(h:iY P):lI P W G b6 aX.row (aX.ok 0):=
 iz h.f_Class h.c_Class (bn (gL h.u_string) h.c_string (bn (LR h) h.c_sl_Slot (kn _))) (fun a=>⟨a.1,a.2.1⟩) (fun a=>rfl) (fun a ha=>⟨ha.1,ha.2.1⟩)
theorem OO(h:iY P):lI P W G dR bT.row (bT.ok 0):=
 iz h.f_Irreg h.c_Irreg (bn (tq h.u_int) h.c_int (bn (gL h.u_string) h.c_string (kn _))) (fun a=>⟨a.1,a.2.1⟩) (fun a=>rfl) (fun a ha=>⟨ha.1,ha.2.1⟩)
theorem JV(h:iY P):lI P W G mX (fun s:Sl bT=>[.slice s.tag 2 (s.l.map bT.row)]) (fun s=>s.ok 0 (bT.ok 0)):=
 kj h.u_sl_Irreg h.c_Irreg (by decide) (fun _=>by simp only [z7]) (OO h)
theorem OP(h:iY P):lI P W G bK aR.row (aR.ok 0):=
 iz h.f_Entry h.c_Entry (bn (gL h.u_string) h.c_string (bn (gL h.u_string) h.c_string (bn (AD h) h.c_sl_Feat (bn (JV h) h.c_sl_Irreg (kn _))))) (fun a=>⟨a.1,a.2.1,a.2.2.1,a.2.2.2.1⟩) (fun a=>rfl) (fun a ha=>⟨ha.1,ha.2.1,ha.2.2.1,ha.2.2.2.1⟩)
theorem OQ(h:iY P):lI P W G cW br.row (br.ok 0):=
 iz h.f_Spell h.c_Spell (bn (gL h.u_string) h.c_string (bn (gL h.u_string) h.c_string (bn (gL h.u_string) h.c_string (bn (gL h.u_string) h.c_string (kn _))))) (fun a=>⟨a.1,a.2.1,a.2.2.1,a.2.2.2.1⟩) (fun a=>rfl) (fun a ha=>⟨ha.1,ha.2.1,ha.2.2.1,ha.2.2.2.1⟩)
theorem QI(h:iY P):lI P W G mY eh.row (eh.ok 0):=
 iz h.f_Link h.c_Link (bn (gL h.u_string) h.c_string (bn (gL h.u_string) h.c_string (bn (AD h) h.c_sl_Feat (kn _)))) (fun a=>⟨a.1,a.2.1,a.2.2.1⟩) (fun a=>rfl) (fun a ha=>⟨ha.1,ha.2.1,ha.2.2.1⟩)
theorem JW(h:iY P):lI P W G r7 (fun s:Sl bA=>[.slice s.tag 2 (s.l.map bA.row)]) (fun s=>s.ok 0 (bA.ok 0)):=
 kj h.u_sl_Trait h.c_Trait (by decide) (fun _=>by simp only [oa]) (OM h)
theorem JX(h:iY P):lI P W G r8 (fun s:Sl aX=>[.slice s.tag 2 (s.l.map aX.row)]) (fun s=>s.ok 0 (aX.ok 0)):=
 kj h.u_sl_Class h.c_Class (by decide) (fun _=>by simp only [iy]) (ON h)
theorem JY(h:iY P):lI P W G r9 (fun s:Sl aR=>[.slice s.tag 4 (s.l.map aR.row)]) (fun s=>s.ok 0 (aR.ok 0)):=
 kj h.u_sl_Entry h.c_Entry (by decide) (fun _=>by simp only [cY]) (OP h)
theorem JZ(h:iY P):lI P W G sa (fun s:Sl br=>[.slice s.tag 4 (s.l.map br.row)]) (fun s=>s.ok 0 (br.ok 0)):=
 kj h.u_sl_Spell h.c_Spell (by decide) (fun _=>by simp only [lq]) (OQ h)
theorem LS(h:iY P):lI P W G tO (fun s:Sl eh=>[.slice s.tag 3 (s.l.map eh.row)]) (fun s=>s.ok 0 (eh.ok 0)):=
 kj h.u_sl_Link h.c_Link (by decide) (fun _=>by simp only [xz]) (QI h)
theorem Sg(h:iY P):lI P W G aq Lex.row (Lex.ok 0):=
 iz h.f_Lex h.c_Lex (bn (gL h.u_string) h.c_string (bn (JW h) h.c_sl_Trait (bn (JX h) h.c_sl_Class (bn (JY h) h.c_sl_Entry (bn (JZ h) h.c_sl_Spell (bn (LS h) h.c_sl_Link (kn _))))))) (fun a=>⟨a.1,a.2.1,a.2.2.1,a.2.2.2.1,a.2.2.2.2.1,a.2.2.2.2.2.1⟩) (fun a=>rfl) (fun a ha=>⟨ha.1,ha.2.1,ha.2.2.1,ha.2.2.2.1,ha.2.2.2.2.1,ha.2.2.2.2.2.1⟩)
theorem OR(h:iY P):lI P W G pu cZ.row (cZ.ok 0):=
 iz h.f_First h.c_First (bn (tq h.u_int) h.c_int (bn (tq h.u_int) h.c_int (bn (tq h.u_int) h.c_int (kn _)))) (fun a=>⟨a.1,a.2.1,a.2.2.1⟩) (fun a=>rfl) (fun a ha=>⟨ha.1,ha.2.1,ha.2.2.1⟩)
theorem J0(h:iY P):lI P W G sb (fun s:Sl cZ=>[.slice s.tag 3 (s.l.map cZ.row)]) (fun s=>s.ok 0 (cZ.ok 0)):=
 kj h.u_sl_First h.c_First (by decide) (fun _=>by simp only [qZ]) (OR h)
theorem J1(h:iY P):lI P W G dS aV.row (aV.ok 0):=
 iz h.f_Analysis h.c_Analysis (bn (J0 h) h.c_sl_First (bn (tq h.u_int) h.c_int (bn (tq h.u_int) h.c_int (kn _)))) (fun a=>⟨a.1,a.2.1,a.2.2.1⟩) (fun a=>rfl) (fun a ha=>⟨ha.1,ha.2.1,ha.2.2.1⟩)
end
end
section
open Go.Shelf Go.RowKit Go.Lib Go.Sort Go.Proofs
def S9:Go.Shelf.Ren:=⟨fun | 6=>166 | 15=>190 | 14=>189 | 28=>217 | 29=>203 | 20=>209 | 21=>210 | 22=>211 | 23=>212 | 24=>213 | 25=>214 | 26=>215 | 27=>216 | 46=>230 | 47=>231 | 48=>232 | 49=>233 | 50=>234 | 57=>238 | n=>n,fun | 22=>44 | 24=>55 | 25=>209 | 3=>3 | 39=>229 | 0=>0 | 53=>235 | 55=>158 | 4=>4 | 46=>241 | 45=>240 | 50=>141 | 5=>5 | 9=>9 | 66=>260 | 70=>264 | 76=>273 | 77=>274 | n=>n,fun | n=>n⟩
theorem LT:Go.Proofs.SlLaysF0.n6 Tryz.prog S9 where
 mixed:=by kernel_rfl
 f6:=⟨Tryz.f166.name,by kernel_rfl,Tryz.func166.trans (congrArg some (by kernel_rfl))⟩
 f14:=⟨Tryz.f189.name,by kernel_rfl,Tryz.func189.trans (congrArg some (by kernel_rfl))⟩
 f15:=Tryz.func190.trans (congrArg some (by kernel_rfl))
 f20:=⟨Tryz.f209.name,by kernel_rfl,Tryz.func209.trans (congrArg some (by kernel_rfl))⟩
 f21:=⟨Tryz.f210.name,by kernel_rfl,Tryz.func210.trans (congrArg some (by kernel_rfl))⟩
 f22:=⟨Tryz.f211.name,by kernel_rfl,Tryz.func211.trans (congrArg some (by kernel_rfl))⟩
 f23:=⟨Tryz.f212.name,by kernel_rfl,Tryz.func212.trans (congrArg some (by kernel_rfl))⟩
 f24:=⟨Tryz.f213.name,by kernel_rfl,Tryz.func213.trans (congrArg some (by kernel_rfl))⟩
 f25:=⟨Tryz.f214.name,by kernel_rfl,Tryz.func214.trans (congrArg some (by kernel_rfl))⟩
 f26:=⟨Tryz.f215.name,by kernel_rfl,Tryz.func215.trans (congrArg some (by kernel_rfl))⟩
 f27:=⟨Tryz.f216.name,by kernel_rfl,Tryz.func216.trans (congrArg some (by kernel_rfl))⟩
 f28:=Tryz.func217.trans (congrArg some (by kernel_rfl))
 f29:=Tryz.func203.trans (congrArg some (by kernel_rfl))
 f46:=⟨Tryz.f230.name,by kernel_rfl,Tryz.func230.trans (congrArg some (by kernel_rfl))⟩
 f47:=Tryz.func231.trans (congrArg some (by kernel_rfl))
 f48:=Tryz.func232.trans (congrArg some (by kernel_rfl))
 f49:=⟨Tryz.f233.name,by kernel_rfl,Tryz.func233.trans (congrArg some (by kernel_rfl))⟩
 f50:=⟨Tryz.f234.name,by kernel_rfl,Tryz.func234.trans (congrArg some (by kernel_rfl))⟩
 f57:=⟨Tryz.f238.name,by kernel_rfl,Tryz.func238.trans (congrArg some (by kernel_rfl))⟩
 t0:=Tryz.underlying0
 a0:=Tryz.isAgg0
 z0:=Tryz.sizeOf0
 v0:=Tryz.zeroValue0
 t3:=Tryz.underlying3
 a3:=Tryz.isAgg3
 z3:=Tryz.sizeOf3
 v3:=Tryz.zeroValue3
 t4:=Tryz.underlying4
 a4:=Tryz.isAgg4
 z4:=Tryz.sizeOf4
 v4:=Tryz.zeroValue4
 t5:=Tryz.underlying5
 a5:=Tryz.isAgg5
 z5:=Tryz.sizeOf5
 v5:=Tryz.zeroValue5
 t9:=Tryz.underlying9
 a9:=Tryz.isAgg9
 z9:=Tryz.sizeOf9
 v9:=Tryz.zeroValue9
 t22:=Tryz.underlying44
 a22:=Tryz.isAgg44
 z22:=Tryz.sizeOf44
 v22:=Tryz.zeroValue44
 t25:=Tryz.underlying209
 a25:=Tryz.isAgg209
 z25:=Tryz.sizeOf209
 v25:=Tryz.zeroValue209
 t39:=Tryz.underlying229
 a39:=Tryz.isAgg229
 z39:=Tryz.sizeOf229
 v39:=Tryz.zeroValue229
 t45:=Tryz.underlying240
 a45:=Tryz.isAgg240
 z45:=Tryz.sizeOf240
 v45:=Tryz.zeroValue240
 t46:=Tryz.underlying241
 a46:=Tryz.isAgg241
 z46:=Tryz.sizeOf241
 v46:=Tryz.zeroValue241
 t50:=Tryz.underlying141
 a50:=Tryz.isAgg141
 z50:=Tryz.sizeOf141
 v50:=Tryz.zeroValue141
 t53:=Tryz.underlying235
 a53:=Tryz.isAgg235
 z53:=Tryz.sizeOf235
 v53:=Tryz.zeroValue235
 t55:=Tryz.underlying158
 a55:=Tryz.isAgg158
 z55:=Tryz.sizeOf158
 v55:=Tryz.zeroValue158
 t66:=Tryz.underlying260
 a66:=Tryz.isAgg260
 z66:=Tryz.sizeOf260
 v66:=Tryz.zeroValue260
 t70:=Tryz.underlying264
 a70:=Tryz.isAgg264
 z70:=Tryz.sizeOf264
 v70:=Tryz.zeroValue264
 t76:=Tryz.underlying273
 a76:=Tryz.isAgg273
 z76:=Tryz.sizeOf273
 v76:=Tryz.zeroValue273
 t77:=Tryz.underlying274
 a77:=Tryz.isAgg274
 z77:=Tryz.sizeOf274
 v77:=Tryz.zeroValue274
set_option maxHeartbeats 2000000 in
theorem Ta(a b:ByteArray)(w:World):Calls Tryz.prog 191 #[.string a,.string b] w fun e w'=>e = .returned (.int .i64 (Lib.compareBytes a.data.toList b.data.toList))∧w'=w:=by
 go_enter Tryz.func191,Tryz.ntmps191
 go_wp2
 rw [run_callFunc_extern Tryz.func218 (by kernel_rfl) (by kernel_rfl) (by kernel_rfl) (e:=Extern.BytealgCompare.compare) (by kernel_rfl),Lib.run_compareString]
 simp only [Result.andThen]
 rw [Oper.upon_value]
 go_wp2
 go_ret
 exact ⟨rfl,rfl⟩
set_option maxHeartbeats 2000000 in
theorem Tb(a b:ByteArray)(w:World):Calls Tryz.prog 168 #[.string a,.string b] w fun e w'=>e = .returned (.int .i64 (Lib.compareBytes a.data.toList b.data.toList))∧w'=w:=by
 have hcon:=fun W'=>Ta a b W'
 generalize Lib.compareBytes a.data.toList b.data.toList=r at hcon ⊢
 go_enter Tryz.func168,Tryz.ntmps168
 go_wp2_with (go_at_call 191;refine (hcon _).mono ?_;rintro e w' ⟨rfl,rfl⟩)
 go_ret
 exact ⟨rfl,rfl⟩
set_option maxHeartbeats 2000000 in
theorem QJ(x y:Pr)(W:World):Calls Tryz.prog 167 #[.agg #[.string ⟨x.1.toArray⟩,.string ⟨x.2.toArray⟩],.agg #[.string ⟨y.1.toArray⟩,.string ⟨y.2.toArray⟩]] W fun e w'=>e = .returned (.int .i64 (Je x y))∧∃ q os',w'=Go.Sort.grow (W.drewN q) os':=by
 have hcon:∀ W',Calls Tryz.prog 168 #[.string ⟨x.1.toArray⟩,.string ⟨y.1.toArray⟩] W' fun e w'=>e = .returned (.int .i64 (Je x y))∧w'=W':=fun W'=>by
  have:=Tb ⟨x.1.toArray⟩ ⟨y.1.toArray⟩ W'
  simpa [Je] using this
 generalize Je x y=r at hcon ⊢
 go_enter Tryz.func167,Tryz.ntmps167
 go_wp2_with (go_at_call 168;refine (hcon _).mono ?_;rintro e w' ⟨rfl,rfl⟩)
 go_ret
 exact ⟨rfl,0,_,by rw [alloc_eq_grow,alloc_eq_grow,grow_grow];rfl⟩
theorem Si(blk off size:Nat)(w:World):CmpLays Tryz.prog 167 #[] Bg 2 Je blk off size w:=fun _ _ _ _ x y=>QJ x y _
theorem Nq:∀ args w,(callFunc 166 args).run Tryz.prog w = .ok (.enter 166 args) w:=LT.f6.enters rfl
theorem OS(blk cap:Nat)(d:Array Pr)(w:World)(hH:HoldsK Bg 2 w blk 0 d)(hb:blk<w.heap.size)(hd:d.size<4611686018427387904) :
  Calls Tryz.prog 166 #[.slice (some ⟨blk,0,none⟩) d.size cap,.func (.func 167) #[] #[]] w fun e w'=>e = .returned (.tuple #[])∧∃ n os,w'=sortWorldK Bg 2 w blk 0 n (tl d) os:=
 AnyQ.slices_SortFunc_eq LT 2 Tryz.isAgg55 Tryz.sizeOf55 Bg (fun _=>rfl) (fun x v hv=>by simp [Bg] at hv;rcases hv with rfl | rfl<;>rfl) Je UH 167 #[] blk 0 cap d w (enters_of Tryz.func167 (by kernel_rfl) rfl) (Si blk 0 d.size w) hH hb hd
theorem QK(p:Option Addr)(cap:Nat)(fv:Value)(w:World):Calls Tryz.prog 166 #[.slice p 0 cap,fv] w fun e w'=>e = .returned (.tuple #[])∧w'=w:=AnyF.slices_SortFunc_none LT p cap fv w
end
section
open Go.Proofs
def T8(f:FuncId):Option AFn:=(bif Nat.blt f 107 then (bif Nat.blt f 59 then (bif Nat.blt f 41 then (bif Nat.blt f 19 then (bif Nat.blt f 15 then (bif Nat.blt f 7 then (bif Nat.blt f 6 then (bif Nat.beq f 5 then some d7 else none) else (bif Nat.beq f 6 then some lY else none)) else (bif Nat.blt f 14 then (bif Nat.beq f 7 then some aE else none) else (bif Nat.beq f 14 then some lu else none))) else (bif Nat.blt f 17 then (bif Nat.blt f 16 then (bif Nat.beq f 15 then some n7 else none) else (bif Nat.beq f 16 then some gg else none)) else (bif Nat.blt f 18 then (bif Nat.beq f 17 then some E7 else none) else (bif Nat.beq f 18 then some t6 else none)))) else (bif Nat.blt f 30 then (bif Nat.blt f 21 then (bif Nat.blt f 20 then (bif Nat.beq f 19 then some yX else none) else (bif Nat.beq f 20 then some qn else none)) else (bif Nat.blt f 22 then (bif Nat.beq f 21 then some ke else none) else (bif Nat.beq f 22 then some cQ else none))) else (bif Nat.blt f 35 then (bif Nat.blt f 34 then (bif Nat.beq f 30 then some bZ else none) else (bif Nat.beq f 34 then some eV else none)) else (bif Nat.blt f 39 then (bif Nat.beq f 35 then some dX else none) else (bif Nat.blt f 40 then (bif Nat.beq f 39 then some ji else none) else (bif Nat.beq f 40 then some c9 else none)))))) else (bif Nat.blt f 50 then (bif Nat.blt f 45 then (bif Nat.blt f 43 then (bif Nat.blt f 42 then (bif Nat.beq f 41 then some jJ else none) else (bif Nat.beq f 42 then some cD else none)) else (bif Nat.blt f 44 then (bif Nat.beq f 43 then some dy else none) else (bif Nat.beq f 44 then some jK else none))) else (bif Nat.blt f 47 then (bif Nat.blt f 46 then (bif Nat.beq f 45 then some cE else none) else (bif Nat.beq f 46 then some eW else none)) else (bif Nat.blt f 48 then (bif Nat.beq f 47 then some jL else none) else (bif Nat.blt f 49 then (bif Nat.beq f 48 then some cF else none) else (bif Nat.beq f 49 then some dz else none))))) else (bif Nat.blt f 54 then (bif Nat.blt f 52 then (bif Nat.blt f 51 then (bif Nat.beq f 50 then some jM else none) else (bif Nat.beq f 51 then some cG else none)) else (bif Nat.blt f 53 then (bif Nat.beq f 52 then some eX else none) else (bif Nat.beq f 53 then some jN else none))) else (bif Nat.blt f 56 then (bif Nat.blt f 55 then (bif Nat.beq f 54 then some cR else none) else (bif Nat.beq f 55 then some fm else none)) else (bif Nat.blt f 57 then (bif Nat.beq f 56 then some dU else none) else (bif Nat.blt f 58 then (bif Nat.beq f 57 then some ed else none) else (bif Nat.beq f 58 then some aG else none))))))) else (bif Nat.blt f 86 then (bif Nat.blt f 68 then (bif Nat.blt f 63 then (bif Nat.blt f 61 then (bif Nat.blt f 60 then (bif Nat.beq f 59 then some BU else none) else (bif Nat.beq f 60 then some BV else none)) else (bif Nat.blt f 62 then (bif Nat.beq f 61 then some nf else none) else (bif Nat.beq f 62 then some eY else none))) else (bif Nat.blt f 65 then (bif Nat.blt f 64 then (bif Nat.beq f 63 then some dB else none) else (bif Nat.beq f 64 then some km else none)) else (bif Nat.blt f 66 then (bif Nat.beq f 65 then some fH else none) else (bif Nat.blt f 67 then (bif Nat.beq f 66 then some cj else none) else (bif Nat.beq f 67 then some dV else none))))) else (bif Nat.blt f 72 then (bif Nat.blt f 70 then (bif Nat.blt f 69 then (bif Nat.beq f 68 then some oH else none) else (bif Nat.beq f 69 then some oI else none)) else (bif Nat.blt f 71 then (bif Nat.beq f 70 then some dk else none) else (bif Nat.beq f 71 then some b8 else none))) else (bif Nat.blt f 83 then (bif Nat.blt f 82 then (bif Nat.beq f 72 then some fu else none) else (bif Nat.beq f 82 then some aW else none)) else (bif Nat.blt f 84 then (bif Nat.beq f 83 then some cH else none) else (bif Nat.blt f 85 then (bif Nat.beq f 84 then some co else none) else (bif Nat.beq f 85 then some aY else none)))))) else (bif Nat.blt f 98 then (bif Nat.blt f 93 then (bif Nat.blt f 89 then (bif Nat.blt f 87 then (bif Nat.beq f 86 then some ee else none) else (bif Nat.beq f 87 then some cM else none)) else (bif Nat.blt f 92 then (bif Nat.beq f 89 then some da else none) else (bif Nat.beq f 92 then some gx else none))) else (bif Nat.blt f 95 then (bif Nat.blt f 94 then (bif Nat.beq f 93 then some jj else none) else (bif Nat.beq f 94 then some a7 else none)) else (bif Nat.blt f 96 then (bif Nat.beq f 95 then some em else none) else (bif Nat.blt f 97 then (bif Nat.beq f 96 then some a8 else none) else (bif Nat.beq f 97 then some en else none))))) else (bif Nat.blt f 102 then (bif Nat.blt f 100 then (bif Nat.blt f 99 then (bif Nat.beq f 98 then some cS else none) else (bif Nat.beq f 99 then some eo else none)) else (bif Nat.blt f 101 then (bif Nat.beq f 100 then some lB else none) else (bif Nat.beq f 101 then some eD else none))) else (bif Nat.blt f 104 then (bif Nat.blt f 103 then (bif Nat.beq f 102 then some jO else none) else (bif Nat.beq f 103 then some lC else none)) else (bif Nat.blt f 105 then (bif Nat.beq f 104 then some ba else none) else (bif Nat.blt f 106 then (bif Nat.beq f 105 then some ep else none) else (bif Nat.beq f 106 then some bh else none)))))))) else (bif Nat.blt f 155 then (bif Nat.blt f 124 then (bif Nat.blt f 115 then (bif Nat.blt f 111 then (bif Nat.blt f 109 then (bif Nat.blt f 108 then (bif Nat.beq f 107 then some er else none) else (bif Nat.beq f 108 then some lD else none)) else (bif Nat.blt f 110 then (bif Nat.beq f 109 then some aJ else none) else (bif Nat.beq f 110 then some eu else none))) else (bif Nat.blt f 113 then (bif Nat.blt f 112 then (bif Nat.beq f 111 then some kp else none) else (bif Nat.beq f 112 then some kq else none)) else (bif Nat.blt f 114 then (bif Nat.beq f 113 then some fJ else none) else (bif Nat.beq f 114 then some fK else none)))) else (bif Nat.blt f 119 then (bif Nat.blt f 117 then (bif Nat.blt f 116 then (bif Nat.beq f 115 then some db else none) else (bif Nat.beq f 116 then some fw else none)) else (bif Nat.blt f 118 then (bif Nat.beq f 117 then some bk else none) else (bif Nat.beq f 118 then some ja else none))) else (bif Nat.blt f 121 then (bif Nat.blt f 120 then (bif Nat.beq f 119 then some cq else none) else (bif Nat.beq f 120 then some n8 else none)) else (bif Nat.blt f 122 then (bif Nat.beq f 121 then some bM else none) else (bif Nat.blt f 123 then (bif Nat.beq f 122 then some eg else none) else (bif Nat.beq f 123 then some il else none)))))) else (bif Nat.blt f 146 then (bif Nat.blt f 140 then (bif Nat.blt f 127 then (bif Nat.blt f 125 then (bif Nat.beq f 124 then some b4 else none) else (bif Nat.beq f 125 then some dC else none)) else (bif Nat.blt f 128 then (bif Nat.beq f 127 then some jR else none) else (bif Nat.beq f 128 then some jS else none))) else (bif Nat.blt f 142 then (bif Nat.blt f 141 then (bif Nat.beq f 140 then some eE else none) else (bif Nat.beq f 141 then some bE else none)) else (bif Nat.blt f 143 then (bif Nat.beq f 142 then some gi else none) else (bif Nat.blt f 144 then (bif Nat.beq f 143 then some dc else none) else (bif Nat.beq f 144 then some eF else none))))) else (bif Nat.blt f 150 then (bif Nat.blt f 148 then (bif Nat.blt f 147 then (bif Nat.beq f 146 then some iJ else none) else (bif Nat.beq f 147 then some eR else none)) else (bif Nat.blt f 149 then (bif Nat.beq f 148 then some jt else none) else (bif Nat.beq f 149 then some aH else none))) else (bif Nat.blt f 152 then (bif Nat.blt f 151 then (bif Nat.beq f 150 then some aI else none) else (bif Nat.beq f 151 then some cT else none)) else (bif Nat.blt f 153 then (bif Nat.beq f 152 then some dZ else none) else (bif Nat.blt f 154 then (bif Nat.beq f 153 then some dv else none) else (bif Nat.beq f 154 then some iK else none))))))) else (bif Nat.blt f 177 then (bif Nat.blt f 164 then (bif Nat.blt f 159 then (bif Nat.blt f 157 then (bif Nat.blt f 156 then (bif Nat.beq f 155 then some np else none) else (bif Nat.beq f 156 then some aN else none)) else (bif Nat.blt f 158 then (bif Nat.beq f 157 then some jT else none) else (bif Nat.beq f 158 then some iL else none))) else (bif Nat.blt f 161 then (bif Nat.blt f 160 then (bif Nat.beq f 159 then some aw else none) else (bif Nat.beq f 160 then some de else none)) else (bif Nat.blt f 162 then (bif Nat.beq f 161 then some dg else none) else (bif Nat.blt f 163 then (bif Nat.beq f 162 then some ey else none) else (bif Nat.beq f 163 then some aO else none))))) else (bif Nat.blt f 169 then (bif Nat.blt f 167 then (bif Nat.blt f 165 then (bif Nat.beq f 164 then some bF else none) else (bif Nat.beq f 165 then some cJ else none)) else (bif Nat.blt f 168 then (bif Nat.beq f 167 then some AL else none) else (bif Nat.beq f 168 then some xB else none))) else (bif Nat.blt f 171 then (bif Nat.blt f 170 then (bif Nat.beq f 169 then some aL else none) else (bif Nat.beq f 170 then some dH else none)) else (bif Nat.blt f 172 then (bif Nat.beq f 171 then some iO else none) else (bif Nat.blt f 174 then (bif Nat.beq f 172 then some iv else none) else (bif Nat.beq f 174 then some cV else none)))))) else (bif Nat.blt f 193 then (bif Nat.blt f 186 then (bif Nat.blt f 184 then (bif Nat.blt f 179 then (bif Nat.beq f 177 then some bG else none) else (bif Nat.beq f 179 then some eH else none)) else (bif Nat.blt f 185 then (bif Nat.beq f 184 then some ju else none) else (bif Nat.beq f 185 then some f8 else none))) else (bif Nat.blt f 188 then (bif Nat.blt f 187 then (bif Nat.beq f 186 then some dE else none) else (bif Nat.beq f 187 then some dh else none)) else (bif Nat.blt f 191 then (bif Nat.beq f 188 then some c8 else none) else (bif Nat.blt f 192 then (bif Nat.beq f 191 then some k7 else none) else (bif Nat.beq f 192 then some ct else none))))) else (bif Nat.blt f 207 then (bif Nat.blt f 196 then (bif Nat.blt f 194 then (bif Nat.beq f 193 then some fM else none) else (bif Nat.beq f 194 then some b9 else none)) else (bif Nat.blt f 197 then (bif Nat.beq f 196 then some ks else none) else (bif Nat.beq f 197 then some fb else none))) else (bif Nat.blt f 219 then (bif Nat.blt f 208 then (bif Nat.beq f 207 then some ca else none) else (bif Nat.beq f 208 then some eI else none)) else (bif Nat.blt f 221 then (bif Nat.beq f 219 then some dI else none) else (bif Nat.blt f 229 then (bif Nat.beq f 221 then some iw else none) else (bif Nat.beq f 229 then some f9 else none)))))))))
theorem tH:ab Tryz.prog G0 5 d7:=by unfold ab;kernel_rfl
theorem rO:ab Tryz.prog G0 6 lY:=by unfold ab;kernel_rfl
theorem yh:ab Tryz.prog G0 7 aE:=by unfold ab;kernel_rfl
theorem Gt:ab Tryz.prog G0 14 lu:=by unfold ab;kernel_rfl
theorem Gu:ab Tryz.prog G0 15 n7:=by unfold ab;kernel_rfl
theorem yi:ab Tryz.prog G0 16 gg:=by unfold ab;kernel_rfl
theorem Hx:ab Tryz.prog G0 17 E7:=by unfold ab;kernel_rfl
theorem zG:ab Tryz.prog G0 18 t6:=by unfold ab;kernel_rfl
theorem De:ab Tryz.prog G0 19 yX:=by unfold ab;kernel_rfl
theorem vl:ab Tryz.prog G0 20 qn:=by unfold ab;kernel_rfl
theorem tI:ab Tryz.prog G0 21 ke:=by unfold ab;kernel_rfl
theorem wv:ab Tryz.prog G0 22 cQ:=by unfold ab;kernel_rfl
theorem yj:ab Tryz.prog G0 30 bZ:=by unfold ab;kernel_rfl
theorem yk:ab Tryz.prog G0 34 eV:=by unfold ab;kernel_rfl
theorem vm:ab Tryz.prog G0 35 dX:=by unfold ab;kernel_rfl
theorem Gv:ab Tryz.prog G0 39 ji:=by unfold ab;kernel_rfl
theorem wY:ab Tryz.prog G0 40 c9:=by unfold ab;kernel_rfl
theorem Ei:ab Tryz.prog G0 41 jJ:=by unfold ab;kernel_rfl
theorem wZ:ab Tryz.prog G0 42 cD:=by unfold ab;kernel_rfl
theorem yl:ab Tryz.prog G0 43 dy:=by unfold ab;kernel_rfl
theorem Ej:ab Tryz.prog G0 44 jK:=by unfold ab;kernel_rfl
theorem w5:ab Tryz.prog G0 45 cE:=by unfold ab;kernel_rfl
theorem ym:ab Tryz.prog G0 46 eW:=by unfold ab;kernel_rfl
theorem Ek:ab Tryz.prog G0 47 jL:=by unfold ab;kernel_rfl
theorem w6:ab Tryz.prog G0 48 cF:=by unfold ab;kernel_rfl
theorem yn:ab Tryz.prog G0 49 dz:=by unfold ab;kernel_rfl
theorem El:ab Tryz.prog G0 50 jM:=by unfold ab;kernel_rfl
theorem w7:ab Tryz.prog G0 51 cG:=by unfold ab;kernel_rfl
theorem yo:ab Tryz.prog G0 52 eX:=by unfold ab;kernel_rfl
theorem Em:ab Tryz.prog G0 53 jN:=by unfold ab;kernel_rfl
theorem yp:ab Tryz.prog G0 54 cR:=by unfold ab;kernel_rfl
theorem zH:ab Tryz.prog G0 55 fm:=by unfold ab;kernel_rfl
theorem w8:ab Tryz.prog G0 56 dU:=by unfold ab;kernel_rfl
theorem yq:ab Tryz.prog G0 57 ed:=by unfold ab;kernel_rfl
theorem nX:ab Tryz.prog G0 58 aG:=by unfold ab;kernel_rfl
theorem FC:ab Tryz.prog G0 59 BU:=by unfold ab;kernel_rfl
theorem FD:ab Tryz.prog G0 60 BV:=by unfold ab;kernel_rfl
theorem w9:ab Tryz.prog G0 61 nf:=by unfold ab;kernel_rfl
theorem yr:ab Tryz.prog G0 62 eY:=by unfold ab;kernel_rfl
theorem yt:ab Tryz.prog G0 63 dB:=by unfold ab;kernel_rfl
theorem Df:ab Tryz.prog G0 64 km:=by unfold ab;kernel_rfl
theorem xa:ab Tryz.prog G0 65 fH:=by unfold ab;kernel_rfl
theorem rk:ab Tryz.prog G0 66 cj:=by unfold ab;kernel_rfl
theorem xb:ab Tryz.prog G0 67 dV:=by unfold ab;kernel_rfl
theorem yu:ab Tryz.prog G0 68 oH:=by unfold ab;kernel_rfl
theorem yv:ab Tryz.prog G0 69 oI:=by unfold ab;kernel_rfl
theorem zI:ab Tryz.prog G0 70 dk:=by unfold ab;kernel_rfl
theorem vn:ab Tryz.prog G0 71 b8:=by unfold ab;kernel_rfl
theorem Bh:ab Tryz.prog G0 72 fu:=by unfold ab;kernel_rfl
theorem Bi:ab Tryz.prog G0 82 aW:=by unfold ab;kernel_rfl
theorem xc:ab Tryz.prog G0 83 cH:=by unfold ab;kernel_rfl
theorem ww:ab Tryz.prog G0 84 co:=by unfold ab;kernel_rfl
theorem wx:ab Tryz.prog G0 85 aY:=by unfold ab;kernel_rfl
theorem yw:ab Tryz.prog G0 86 ee:=by unfold ab;kernel_rfl
theorem sS:ab Tryz.prog G0 87 cM:=by unfold ab;kernel_rfl
theorem tJ:ab Tryz.prog G0 89 da:=by unfold ab;kernel_rfl
theorem FE:ab Tryz.prog G0 92 gx:=by unfold ab;kernel_rfl
theorem Hy:ab Tryz.prog G0 93 jj:=by unfold ab;kernel_rfl
theorem mw:ab Tryz.prog G0 94 a7:=by unfold ab;kernel_rfl
theorem wy:ab Tryz.prog G0 95 em:=by unfold ab;kernel_rfl
theorem my:ab Tryz.prog G0 96 a8:=by unfold ab;kernel_rfl
theorem wz:ab Tryz.prog G0 97 en:=by unfold ab;kernel_rfl
theorem yx:ab Tryz.prog G0 98 cS:=by unfold ab;kernel_rfl
theorem wA:ab Tryz.prog G0 99 eo:=by unfold ab;kernel_rfl
theorem Gw:ab Tryz.prog G0 100 lB:=by unfold ab;kernel_rfl
theorem xd:ab Tryz.prog G0 101 eD:=by unfold ab;kernel_rfl
theorem En:ab Tryz.prog G0 102 jO:=by unfold ab;kernel_rfl
theorem Gx:ab Tryz.prog G0 103 lC:=by unfold ab;kernel_rfl
theorem mz:ab Tryz.prog G0 104 ba:=by unfold ab;kernel_rfl
theorem wB:ab Tryz.prog G0 105 ep:=by unfold ab;kernel_rfl
theorem nH:ab Tryz.prog G0 106 bh:=by unfold ab;kernel_rfl
theorem wC:ab Tryz.prog G0 107 er:=by unfold ab;kernel_rfl
theorem Gy:ab Tryz.prog G0 108 lD:=by unfold ab;kernel_rfl
theorem ki:ab Tryz.prog G0 109 aJ:=by unfold ab;kernel_rfl
theorem wD:ab Tryz.prog G0 110 eu:=by unfold ab;kernel_rfl
theorem FF:ab Tryz.prog G0 111 kp:=by unfold ab;kernel_rfl
theorem FG:ab Tryz.prog G0 112 kq:=by unfold ab;kernel_rfl
theorem xf:ab Tryz.prog G0 113 fJ:=by unfold ab;kernel_rfl
theorem xg:ab Tryz.prog G0 114 fK:=by unfold ab;kernel_rfl
theorem xh:ab Tryz.prog G0 115 db:=by unfold ab;kernel_rfl
theorem zJ:ab Tryz.prog G0 116 fw:=by unfold ab;kernel_rfl
theorem nI:ab Tryz.prog G0 117 bk:=by unfold ab;kernel_rfl
theorem Bj:ab Tryz.prog G0 118 ja:=by unfold ab;kernel_rfl
theorem pH:ab Tryz.prog G0 119 cq:=by unfold ab;kernel_rfl
theorem Gz:ab Tryz.prog G0 120 n8:=by unfold ab;kernel_rfl
theorem tc:ab Tryz.prog G0 121 bM:=by unfold ab;kernel_rfl
theorem yy:ab Tryz.prog G0 122 eg:=by unfold ab;kernel_rfl
theorem zK:ab Tryz.prog G0 123 il:=by unfold ab;kernel_rfl
theorem yz:ab Tryz.prog G0 124 b4:=by unfold ab;kernel_rfl
theorem yA:ab Tryz.prog G0 125 dC:=by unfold ab;kernel_rfl
theorem Eo:ab Tryz.prog G0 127 jR:=by unfold ab;kernel_rfl
theorem Ep:ab Tryz.prog G0 128 jS:=by unfold ab;kernel_rfl
theorem xi:ab Tryz.prog G0 140 eE:=by unfold ab;kernel_rfl
theorem zL:ab Tryz.prog G0 141 bE:=by unfold ab;kernel_rfl
theorem yB:ab Tryz.prog G0 142 gi:=by unfold ab;kernel_rfl
theorem tK:ab Tryz.prog G0 143 dc:=by unfold ab;kernel_rfl
theorem xj:ab Tryz.prog G0 144 eF:=by unfold ab;kernel_rfl
theorem FH:ab Tryz.prog G0 146 iJ:=by unfold ab;kernel_rfl
theorem Jr:ab Tryz.prog G0 147 eR:=by unfold ab;kernel_rfl
theorem FI:ab Tryz.prog G0 148 jt:=by unfold ab;kernel_rfl
theorem nY:ab Tryz.prog G0 149 aH:=by unfold ab;kernel_rfl
theorem nZ:ab Tryz.prog G0 150 aI:=by unfold ab;kernel_rfl
theorem yC:ab Tryz.prog G0 151 cT:=by unfold ab;kernel_rfl
theorem vo:ab Tryz.prog G0 152 dZ:=by unfold ab;kernel_rfl
theorem ut:ab Tryz.prog G0 153 dv:=by unfold ab;kernel_rfl
theorem Cs:ab Tryz.prog G0 154 iK:=by unfold ab;kernel_rfl
theorem Hz:ab Tryz.prog G0 155 np:=by unfold ab;kernel_rfl
theorem pe:ab Tryz.prog G0 156 aN:=by unfold ab;kernel_rfl
theorem Er:ab Tryz.prog G0 157 jT:=by unfold ab;kernel_rfl
theorem Ct:ab Tryz.prog G0 158 iL:=by unfold ab;kernel_rfl
theorem kL:ab Tryz.prog G0 159 aw:=by unfold ab;kernel_rfl
theorem tL:ab Tryz.prog G0 160 de:=by unfold ab;kernel_rfl
theorem xk:ab Tryz.prog G0 161 dg:=by unfold ab;kernel_rfl
theorem Cu:ab Tryz.prog G0 162 ey:=by unfold ab;kernel_rfl
theorem pf:ab Tryz.prog G0 163 aO:=by unfold ab;kernel_rfl
theorem qJ:ab Tryz.prog G0 164 bF:=by unfold ab;kernel_rfl
theorem qf:ab Tryz.prog G0 165 cJ:=by unfold ab;kernel_rfl
theorem Et:ab Tryz.prog G0 167 AL:=by unfold ab;kernel_rfl
theorem Cv:ab Tryz.prog G0 168 xB:=by unfold ab;kernel_rfl
theorem pT:ab Tryz.prog G0 169 aL:=by unfold ab;kernel_rfl
theorem wE:ab Tryz.prog G0 170 dH:=by unfold ab;kernel_rfl
theorem qK:ab Tryz.prog G0 171 iO:=by unfold ab;kernel_rfl
theorem qg:ab Tryz.prog G0 172 iv:=by unfold ab;kernel_rfl
theorem td:ab Tryz.prog G0 174 cV:=by unfold ab;kernel_rfl
theorem zM:ab Tryz.prog G0 177 bG:=by unfold ab;kernel_rfl
theorem xl:ab Tryz.prog G0 179 eH:=by unfold ab;kernel_rfl
theorem FJ:ab Tryz.prog G0 184 ju:=by unfold ab;kernel_rfl
theorem AE:ab Tryz.prog G0 185 f8:=by unfold ab;kernel_rfl
theorem yD:ab Tryz.prog G0 186 dE:=by unfold ab;kernel_rfl
theorem xm:ab Tryz.prog G0 187 dh:=by unfold ab;kernel_rfl
theorem rl:ab Tryz.prog G0 188 c8:=by unfold ab;kernel_rfl
theorem qL:ab Tryz.prog G0 191 k7:=by unfold ab;kernel_rfl
theorem wF:ab Tryz.prog G0 192 ct:=by unfold ab;kernel_rfl
theorem o1:ab Tryz.prog G0 193 fM:=by unfold ab;kernel_rfl
theorem qM:ab Tryz.prog G0 194 b9:=by unfold ab;kernel_rfl
theorem uu:ab Tryz.prog G0 196 ks:=by unfold ab;kernel_rfl
theorem mD:ab Tryz.prog G0 197 fb:=by unfold ab;kernel_rfl
theorem qN:ab Tryz.prog G0 207 ca:=by unfold ab;kernel_rfl
theorem xn:ab Tryz.prog G0 208 eI:=by unfold ab;kernel_rfl
theorem wG:ab Tryz.prog G0 219 dI:=by unfold ab;kernel_rfl
theorem qh:ab Tryz.prog G0 221 iw:=by unfold ab;kernel_rfl
theorem AF:ab Tryz.prog G0 229 f9:=by unfold ab;kernel_rfl
theorem Tc:∀ f af,T8 f=some af→ab Tryz.prog G0 f af:=fun f af h=>by
 unfold T8 at h
 revert h
 exact (al (al (al (al (al (al (al (ak (C:=_) tH) (ak (C:=_) rO)) (al (ak (C:=_) yh) (ak (C:=_) Gt))) (al (al (ak (C:=_) Gu) (ak (C:=_) yi)) (al (ak (C:=_) Hx) (ak (C:=_) zG)))) (al (al (al (ak (C:=_) De) (ak (C:=_) vl)) (al (ak (C:=_) tI) (ak (C:=_) wv))) (al (al (ak (C:=_) yj) (ak (C:=_) yk)) (al (ak (C:=_) vm) (al (ak (C:=_) Gv) (ak (C:=_) wY)))))) (al (al (al (al (ak (C:=_) Ei) (ak (C:=_) wZ)) (al (ak (C:=_) yl) (ak (C:=_) Ej))) (al (al (ak (C:=_) w5) (ak (C:=_) ym)) (al (ak (C:=_) Ek) (al (ak (C:=_) w6) (ak (C:=_) yn))))) (al (al (al (ak (C:=_) El) (ak (C:=_) w7)) (al (ak (C:=_) yo) (ak (C:=_) Em))) (al (al (ak (C:=_) yp) (ak (C:=_) zH)) (al (ak (C:=_) w8) (al (ak (C:=_) yq) (ak (C:=_) nX))))))) (al (al (al (al (al (ak (C:=_) FC) (ak (C:=_) FD)) (al (ak (C:=_) w9) (ak (C:=_) yr))) (al (al (ak (C:=_) yt) (ak (C:=_) Df)) (al (ak (C:=_) xa) (al (ak (C:=_) rk) (ak (C:=_) xb))))) (al (al (al (ak (C:=_) yu) (ak (C:=_) yv)) (al (ak (C:=_) zI) (ak (C:=_) vn))) (al (al (ak (C:=_) Bh) (ak (C:=_) Bi)) (al (ak (C:=_) xc) (al (ak (C:=_) ww) (ak (C:=_) wx)))))) (al (al (al (al (ak (C:=_) yw) (ak (C:=_) sS)) (al (ak (C:=_) tJ) (ak (C:=_) FE))) (al (al (ak (C:=_) Hy) (ak (C:=_) mw)) (al (ak (C:=_) wy) (al (ak (C:=_) my) (ak (C:=_) wz))))) (al (al (al (ak (C:=_) yx) (ak (C:=_) wA)) (al (ak (C:=_) Gw) (ak (C:=_) xd))) (al (al (ak (C:=_) En) (ak (C:=_) Gx)) (al (ak (C:=_) mz) (al (ak (C:=_) wB) (ak (C:=_) nH)))))))) (al (al (al (al (al (al (ak (C:=_) wC) (ak (C:=_) Gy)) (al (ak (C:=_) ki) (ak (C:=_) wD))) (al (al (ak (C:=_) FF) (ak (C:=_) FG)) (al (ak (C:=_) xf) (ak (C:=_) xg)))) (al (al (al (ak (C:=_) xh) (ak (C:=_) zJ)) (al (ak (C:=_) nI) (ak (C:=_) Bj))) (al (al (ak (C:=_) pH) (ak (C:=_) Gz)) (al (ak (C:=_) tc) (al (ak (C:=_) yy) (ak (C:=_) zK)))))) (al (al (al (al (ak (C:=_) yz) (ak (C:=_) yA)) (al (ak (C:=_) Eo) (ak (C:=_) Ep))) (al (al (ak (C:=_) xi) (ak (C:=_) zL)) (al (ak (C:=_) yB) (al (ak (C:=_) tK) (ak (C:=_) xj))))) (al (al (al (ak (C:=_) FH) (ak (C:=_) Jr)) (al (ak (C:=_) FI) (ak (C:=_) nY))) (al (al (ak (C:=_) nZ) (ak (C:=_) yC)) (al (ak (C:=_) vo) (al (ak (C:=_) ut) (ak (C:=_) Cs))))))) (al (al (al (al (al (ak (C:=_) Hz) (ak (C:=_) pe)) (al (ak (C:=_) Er) (ak (C:=_) Ct))) (al (al (ak (C:=_) kL) (ak (C:=_) tL)) (al (ak (C:=_) xk) (al (ak (C:=_) Cu) (ak (C:=_) pf))))) (al (al (al (ak (C:=_) qJ) (ak (C:=_) qf)) (al (ak (C:=_) Et) (ak (C:=_) Cv))) (al (al (ak (C:=_) pT) (ak (C:=_) wE)) (al (ak (C:=_) qK) (al (ak (C:=_) qg) (ak (C:=_) td)))))) (al (al (al (al (ak (C:=_) zM) (ak (C:=_) xl)) (al (ak (C:=_) FJ) (ak (C:=_) AE))) (al (al (ak (C:=_) yD) (ak (C:=_) xm)) (al (ak (C:=_) rl) (al (ak (C:=_) qL) (ak (C:=_) wF))))) (al (al (al (ak (C:=_) o1) (ak (C:=_) qM)) (al (ak (C:=_) uu) (ak (C:=_) mD))) (al (al (ak (C:=_) qN) (ak (C:=_) xn)) (al (ak (C:=_) wG) (al (ak (C:=_) qh) (ak (C:=_) AF)))))))))
def T9(f:FuncId)(args:List AV)(H:List ag):Option Out:=
 match args with
 |[]=>bif Nat.beq f dx then some (.ret (.bool true),H) else none
 |args=>match Qv bm gE f args H with
  |some r=>some r
  |none=>Ru f args H
theorem Td{f:FuncId}{args:List AV}{H H':List ag}{r:uW}(h:T9 f args H=some (r,H')):eS Tryz.prog G0 f args H fun r2 H2=>r2=r∧H2=H':=by
 unfold T9 at h
 split at h
 ·cases h1:Nat.beq f dx with
  |true=>rw [h1] at h;cases h;rw [Nat.eq_of_beq_eq_true h1];exact Rw H
  |false=>rw [h1] at h;cases h
 ·split at h
  ·rename_i r' hr
   cases h
   exact S4 Nq OS QK hr
  ·exact Pa h
noncomputable def EN:bP := { P:=Tryz.prog,G:=G0,fn:=T8,orc:=T9,dfn:=fun _=>none }
theorem Tu:EN.Ok:=⟨Pb,fun f af h=>Tc f af h,(fun _ _ _ h=>by cases h),(fun _ _ _ _ _ h=>by cases h),fun _ _ _ _ _ h=>Td h⟩
theorem Te(M:dO d8 EN):GV M R3:=by
 refine ⟨fun H => ?_,fun {l H id T} h0 hl hx => ?_,fun l => ?_⟩
 ·rw [CB M rfl];rfl
 ·rw [CB M rfl]
  have hd:Ng (b5 l)=some (l.map toP):=by rw [Pq];exact KN _
  have hs:Qv bm gE bm [.rslice id 0 l.length 2 true,.fn (.func gE) [] []] H=some (.ret (.tuple []),H.set id (.cells (b5 (R3 l)) T)):=by
   have hb:∀ n:Nat,Nat.beq n n=true:=fun n=>by simp
   have hle:Nat.ble l.length 4000000000=true:=Nat.ble_eq_true_of_le hl
   unfold Qv
   simp only [hb,Bool.and_self,cond_true,hx,hd,List.length_map,hle]
   rw [R3,S3]
  show (match Qv bm gE bm [.rslice id 0 l.length 2 true,.fn (.func gE) [] []] H with
   |some r=>some r
   |none=>Ru bm [.rslice id 0 l.length 2 true,.fn (.func gE) [] []] H)=_
  rw [hs]
 ·simpa using (R5.perm l).length_eq
end
end Go.Am
