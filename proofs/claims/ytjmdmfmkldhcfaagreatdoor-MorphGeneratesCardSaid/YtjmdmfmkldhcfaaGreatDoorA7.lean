import Derived.Test.YtjmdmfmkldhcfaaGreatDoorA6
import Derived.Test.YtjmdmfmkldhcfaaGreatDoorChecked
import Derived.Shelf.SlSortCmp.NoneTotal
import Derived.Laws.Externs
import Derived.KernelRfl
/-
  Part 7 of the tool: an abstract machine over the model, proved sound, and what it says of the functions that the law reaches. Condition: none but those that each theorem names.
-/
set_option linter.unusedVariables false
set_option linter.unusedSimpArgs false
set_option maxRecDepth 100000
set_option maxHeartbeats 4000000
namespace Go.Am
open Go.RowKit
section
attribute [local congr] aP dR bF aQ bq aZ aR aE aF a6 a7
variable{E:bL}(M:dK dW E)
def Cz(x y:au):Bool:=x.name == y.name&&x.value == y.value
theorem ixq{H H0:List ag}{v:au}{tg:Tag}{l:List au}(hs:l.length≤aY){q:Nat}{T:TypeId}(hq:H[q]?=some (.cells v.row T))(hc:bP H0 H)(k:List Fra):∀ (n i:Nat) (He:List ag),i+n=l.length →
  M.go bI H0 (.c dv :: .lp ⟨(some [0,3,7,8]),[],false⟩ dv He :: .blk 0 :: .c (.lv [])::k) (kv [(0,.slice tg 2 (l.map au.row)),(3,.ptr q 0),(7,.int .i64 l.length),(8,.int .i64 i)]) H =
   orE (bE (xc fun s=>Cz v s) i (l.drop i)) (H.take H0.length) (M.go bI H0 k .leaf H)
 |0,i,He,h=>by
  have e:i=l.length:=by omega
  subst e
  rw [ao M dv.eq_1]
  simp (maxSteps:=3000000) (maxDischargeDepth:=6) +contextual -implicitDefEqProofs only [amA M,amB,↓ae,↓aa,↓aj,↓ah,Nat.reduceBEq,Nat.reduceAdd,env,am,iN,Nat.lt_irrefl,List.drop_length]
 |n+1,i,He,h=>by
  have hi:i<l.length:=by omega
  have hx:l[i]?=some l[i]:=List.getElem?_eq_getElem hi
  have hd:(l.drop i)=l[i]::l.drop (i+1):=List.drop_eq_getElem_cons hi
  have hm:l[i]∈l:=List.getElem_mem hi
  have ih:=fun He=>ixq (H:=H) (H0:=H0) (v:=v) (tg:=tg) (l:=l) (hs:=hs) (q:=q) (T:=T) (hq:=hq) hc k n (i+1)  He (by omega)
  simp only [kv_cons,kv_nil] at ih
  rw [ao M dv.eq_1]
  simp (maxSteps:=3000000) (maxDischargeDepth:=6) +contextual -implicitDefEqProofs only [amA M,amB,↓ae,↓aa,↓aj,↓ah,Nat.reduceBEq,Nat.reduceAdd,env,am,iN,hx,hd,hi,ih,bn hi hs,aA hi,mL,xc,hc,hq,uw,Cz]
theorem J2(hU:yn E){v:au}{tg:Tag}{l:List au}(hs:l.length≤aY)(H:List ag):M.run gn [.slice tg 2 (l.map au.row),.agg v.row] H=some (.ret (.bool (l.any fun s=>Cz v s)),H):=by
 have h1:∀ H,M.run iB [.slice tg 2 (l.map au.row),.agg v.row] H=some (.ret (.int .i64 (qn (fun s=>Cz v s) 0 l)),H):=fun H=>by
  rw [aL M hU.slices_Index_api_Feat_api_Feat rfl (c:=iM) rfl,iM]
  have hl:=fun k He=>ixq M (H:=H++[.cells v.row aU]) (H0:=H) (tg:=tg) (v:=v) hs (q:=H.length) (T:=aU) (by rw [cf];rfl) (cut_app H _) k l.length 0 He (by omega)
  simp only [kv_cons,kv_nil,Int.ofNat_zero,List.drop_zero,hp_take] at hl
  simp (maxSteps:=3000000) (maxDischargeDepth:=6) +contextual -implicitDefEqProofs only [amA M,amB,↓ae,↓aa,↓aj,↓ah,Nat.reduceBEq,Nat.reduceAdd,env,am,iN,hl,mL]
  exact mC _ l 0 H
 rw [aL M hU.slices_Contains_api_Feat_api_Feat rfl (c:=gC) rfl,gC]
 simp (maxSteps:=3000000) (maxDischargeDepth:=6) +contextual -implicitDefEqProofs only [amA M,amB,↓ae,↓aa,↓aj,↓ah,Nat.reduceBEq,Nat.reduceAdd,env,am,qx,h1,vp,mL,cf]
theorem Jn(hU:yn E)(f:au){b:Sl au}(hb:b.l.length≤aY){H:List ag}{q:Nat}{T:TypeId}(hq:H[q]?=some (.cells [.slice b.tag 2 (b.l.map au.row)] T)) :
  M.run mZ [.agg f.row,.ptr q 0] H=some (.ret (.bool (!(b.l.any fun g=>Cz f g))),H):=by
 rw [aL M hU.morph_Subsumes_1 rfl (c:=rm) rfl,rm]
 simp (maxSteps:=3000000) (maxDischargeDepth:=6) +contextual -implicitDefEqProofs only [amA M,amB,↓ae,↓aa,↓aj,↓ah,Nat.reduceBEq,Nat.reduceAdd,env,am,DZ,J2 M hU hb,mL,bS hq]
def LV(a b:List au):Bool := !(a.any fun f => !(b.any fun g=>Cz f g))
theorem LW(hE:kW E)(hU:yn E){a b:Sl au}(ha:a.l.length≤aY)(hb:b.l.length≤aY)(H:List ag) :
  M.run pU [.slice a.tag 2 (a.l.map au.row),.slice b.tag 2 (b.l.map au.row)] H=some (.ret (.bool (LV a.l b.l)),H):=by
 rw [aL M hU.morph_Subsumes rfl (c:=tG) rfl,tG]
 have hcf:=o8 M hE.slices_IndexFunc_api_Feat_api_Feat hE.slices_ContainsFunc_api_Feat_api_Feat (g:=mZ) (fr:=[]) (cap:=[.ptr H.length 0]) (p:=fun f => !(b.l.any fun g=>Cz f g)) (tg:=a.tag) ha (H:=H++[.cells [.slice b.tag 2 (b.l.map au.row)] dJ]) (fun x _=>Jn M hU x hb (T:=dJ) (by rw [cf];rfl))
 simp (maxSteps:=3000000) (maxDischargeDepth:=6) +contextual -implicitDefEqProofs only [amA M,amB,↓ae,↓aa,↓aj,↓ah,Nat.reduceBEq,Nat.reduceAdd,env,am,F7,hcf,LV]
theorem UY{H H0:List ag}{a b:Sl au}(hb:b.l.length≤aY){j:Nat}(hj:j<a.l.length)(k:List Fra):∀ (n i:Nat) (o:Bool) (He:List ag),i+n=(b.l).length →
  M.go b8 H0 (.c fw :: .lp ⟨(some [0,1,5,6,7]),[],false⟩ fw He :: .blk 2 :: .c (.lv [0,1,5,6])::k) (kv [(0,.slice a.tag 2 (a.l.map au.row)),(1,.slice b.tag 2 (b.l.map au.row)),(5,.int .i64 j),(6,.bool o),(7,.int .i64 i)]) H =
   (M.go b8 H0 k (kv [(0,.slice a.tag 2 (a.l.map au.row)),(1,.slice b.tag 2 (b.l.map au.row)),(5,.int .i64 j),(6,.bool (o||(b.l.drop i).any fun g=>Cz a.l[j] g))]) H)
 |0,i,o,He,h=>by
  have e:i=(b.l).length:=by omega
  subst e
  rw [ao M fw.eq_1]
  simp (maxSteps:=3000000) (maxDischargeDepth:=6) +contextual -implicitDefEqProofs only [amA M,amB,↓ae,↓aa,↓aj,↓ah,Nat.reduceBEq,Nat.reduceAdd,env,am,gy,Nat.lt_irrefl,List.drop_length,List.any_nil]
 |n+1,i,o,He,h=>by
  have hi:i<(b.l).length:=by omega
  have hx:(b.l)[i]?=some (b.l)[i]:=List.getElem?_eq_getElem hi
  have hd:((b.l).drop i)=(b.l)[i]::(b.l).drop (i+1):=List.drop_eq_getElem_cons hi
  have hm:(b.l)[i]∈(b.l):=List.getElem_mem hi
  have ih:=fun o He=>UY (H:=H) (H0:=H0) (a:=a) (b:=b) (hb:=hb) (j:=j) (hj:=hj) k n (i+1) o He (by omega)
  simp only [kv_cons,kv_nil] at ih
  have hxj:a.l[j]?=some a.l[j]:=List.getElem?_eq_getElem hj
  rw [ao M fw.eq_1]
  simp (maxSteps:=3000000) (maxDischargeDepth:=6) +contextual -implicitDefEqProofs only [amA M,amB,↓ae,↓aa,↓aj,↓ah,Nat.reduceBEq,Nat.reduceAdd,env,am,gy,hx,hd,hi,ih,hxj,aA hj,aA hi,mL,uw,Cz,bn hi hb,List.any_cons,Bool.or_assoc]
def Ti(b:List au):Nat→au→Option AV:=fun _ f=>sel (b.any fun g=>Cz f g) none (some (.bool false))
theorem UZ{H H0:List ag}{a b:Sl au}(ha:a.l.length≤aY)(hb:b.l.length≤aY)(hc:bP H0 H)(k:List Fra):∀ (n i:Nat) (He:List ag),i+n=(a.l).length →
  M.go b8 H0 (.c fx :: .lp ⟨(some [0,1,5]),[],false⟩ fx He :: .blk 0 :: .c (.lv [])::k) (kv [(0,.slice a.tag 2 (a.l.map au.row)),(1,.slice b.tag 2 (b.l.map au.row)),(5,.int .i64 i)]) H =
   orE (bE (Ti b.l) i (a.l.drop i)) (H.take H0.length) (M.go b8 H0 k .leaf H)
 |0,i,He,h=>by
  have e:i=(a.l).length:=by omega
  subst e
  rw [ao M fx.eq_1]
  simp (maxSteps:=3000000) (maxDischargeDepth:=6) +contextual -implicitDefEqProofs only [amA M,amB,↓ae,↓aa,↓aj,↓ah,Nat.reduceBEq,Nat.reduceAdd,env,am,gy,Nat.lt_irrefl,List.drop_length]
 |n+1,i,He,h=>by
  have hi:i<(a.l).length:=by omega
  have hx:(a.l)[i]?=some (a.l)[i]:=List.getElem?_eq_getElem hi
  have hd:((a.l).drop i)=(a.l)[i]::(a.l).drop (i+1):=List.drop_eq_getElem_cons hi
  have hm:(a.l)[i]∈(a.l):=List.getElem_mem hi
  have ih:=fun He=>UZ (H:=H) (H0:=H0) (a:=a) (b:=b) (ha:=ha) (hb:=hb) hc k n (i+1)  He (by omega)
  simp only [kv_cons,kv_nil] at ih
  have h0:=fun k He=>UY M (H:=H) (H0:=H0) (a:=a) (b:=b) hb hi k b.l.length 0 false He (by omega)
  simp only [kv_cons,kv_nil,Int.ofNat_zero,List.drop_zero,Bool.false_or] at h0
  rw [ao M fx.eq_1]
  simp (maxSteps:=3000000) (maxDischargeDepth:=6) +contextual -implicitDefEqProofs only [amA M,amB,↓ae,↓aa,↓aj,↓ah,Nat.reduceBEq,Nat.reduceAdd,env,am,gy,hx,hd,hi,ih,h0,bn hi ha,hc,Ti]
theorem KZ(b:List au)(H:List ag)(x:Option Out):∀ (a:List au) (i:Nat),orE (bE (Ti b) i a) H x=sel (LV a b) x (some (.ret (.bool false),H))
 |[],_=>rfl
 |f::a,i=>by
  rw [iV,HL,KZ b H x a,Ti,xJ,IC,ue]
  simp only [LV,List.any_cons]
  cases (b.any fun g=>Cz f g)<;>simp [sel]
theorem J3(hU:yn E){a b:Sl au}(ha:a.l.length≤aY)(hb:b.l.length≤aY)(H:List ag) :
  M.run ji [.slice a.tag 2 (a.l.map au.row),.slice b.tag 2 (b.l.map au.row)] H=some (.ret (.bool (LV a.l b.l)),H):=by
 rw [aL M hU.truchmanref02_Subsumes rfl (c:=lJ) rfl,lJ]
 have h1:=fun k He=>UZ M ha hb (cut_refl H) k a.l.length 0 He (by omega)
 simp only [kv_cons,kv_nil,Int.ofNat_zero,List.drop_zero,KZ] at h1
 simp (maxSteps:=3000000) (maxDischargeDepth:=6) +contextual -implicitDefEqProofs only [amA M,amB,↓ae,↓aa,↓aj,↓ah,Nat.reduceBEq,Nat.reduceAdd,env,am,gy,h1]
end
section
attribute [local congr] aP dR bF aQ bq aZ aR aE aF a6 a7
variable{E:bL}(M:dK dW E)
structure tn (E:bL):Prop where
 morph_language_slot:E.fn eV=some fb
 morph_language_feats:E.fn ka=some fN
 truchmanref02_slot:E.fn gQ=some io
 truchmanref02_Feats:E.fn ou=some gl
 morph_language_underlying:E.fn ke=some de
 morph_language_steps:E.fn mY=some db
 truchmanref02_steps:E.fn ov=some dA
 truchmanlaw02_SameStrings:E.fn j4=some cC
 strings_Index:E.fn nP=some jV
 strings_Count:E.fn kY=some jU
 strings_Builder_grow:E.fn m4=some eI
 strings_Builder_Grow:E.fn kd=some eG
 strings_Replace:E.fn si=some er
 strings_ReplaceAll:E.fn pz=some fA
 internal_stringslite_Index:E.fn gI=some cX
 morph_language_form:E.fn gi=some dz
 truchmanref02_form:E.fn jn=some dj
 morph_language_slots:E.fn mW=some fM
 truchmanref02_Slots:E.fn ot=some gk
def OL:bz:=⟨0,[],[],⟨.nil,[]⟩⟩
theorem jY:OL.row=[AV.int .i64 0,.str [],.str [],.slice .nil 2 []]:=rfl
def En(l:Lex)(e:Int):Option az:=if e<0 then none else l.entries.l[e.toNat]?
def slC(c:Option aW)(q:Int):Option bz:=
 match c with
 |none=>none
 |some c=>if q<0 then none else c.slots.l[q.toNat]?
def slF(l:Lex)(e q:Int):Option bz:=
 match En l e with
 |none=>none
 |some x=>slC (xO l x.cls) q
theorem om(n:Nat):Wk n (.slice .nil 2 []) (.slice .nil 2 []):=wk_slice trivial (ed n)
theorem Nw(hW:WdE M)(hE:kW E)(hF:tn E){l:Lex}(hl:l.ok 0)(e q:Int)(H:List ag) :
  M.run eV [.agg l.row,.int .i64 e,.int .i64 q] H=some (.ret (.tuple [.agg ((slF l e q).getD OL).row,.bool (slF l e q).isSome]),H):=by
 rw [aL M hF.morph_language_slot rfl (c:=oM) rfl,oM]
 cases hr1:decide (e<0) with
 |true=>
  have e1:slF l e q=none:=by simp [slF,En,of_decide_eq_true hr1]
  rw [e1]
  simp (maxSteps:=3000000) (maxDischargeDepth:=6) +contextual -implicitDefEqProofs only [amA M,amB,↓ae,↓aa,↓aj,↓ah,Nat.reduceBEq,Nat.reduceAdd,env,am,fc,amG,AV.cell,Nat.reduceMul,Nat.reduceLeDiff,hr1,br,jY,om,wk_tuple,wk_agg,Option.getD_none,Option.isSome_none]
 |false=>
  have hr0:¬ e<0:=of_decide_eq_false hr1
  cases hr2:decide ((l.entries.l.length:Int)≤e) with
  |true=>
   have hrl:l.entries.l.length≤e.toNat:=by have:=of_decide_eq_true hr2;omega
   have e1:slF l e q=none:=by simp [slF,En,hr0,List.getElem?_eq_none hrl]
   rw [e1]
   simp (maxSteps:=3000000) (maxDischargeDepth:=6) +contextual -implicitDefEqProofs only [amA M,amB,↓ae,↓aa,↓aj,↓ah,Nat.reduceBEq,Nat.reduceAdd,env,am,fc,amG,AV.cell,Nat.reduceMul,Nat.reduceLeDiff,hr1,hr2,br,jY,om,wk_tuple,wk_agg,Option.getD_none,Option.isSome_none]
  |false=>
   have hrl:e.toNat<l.entries.l.length:=by have:=of_decide_eq_false hr2;omega
   have hx:l.entries.l[e.toNat]?=some l.entries.l[e.toNat]:=List.getElem?_eq_getElem hrl
   generalize hxx:l.entries.l[e.toNat]=x at hx
   have e0:En l e=some x:=by simp [En,hr0,hx]
   cases hc:xO l x.cls with
   |none=>
    have e1:slF l e q=none:=by simp [slF,e0,hc,slC]
    have hcl:=fun H=>tM M hE hl hc H
    have hw:=fun H T L=>LJ hW (g:=fG) (first:=[]) (cap:=[]) (args:=[.agg l.row,.str x.cls]) (v:=.tuple [.agg xP.row,.bool false]) hcl H T L
    have z:(((xP.slots.l.length:Nat):Int))=0:=rfl
    rw [e1]
    cases hq:decide (q<0) with
    |true=>
     simp (maxSteps:=3000000) (maxDischargeDepth:=6) +contextual -implicitDefEqProofs only [amA M,amB,↓ae,↓aa,↓aj,↓ah,Nat.reduceBEq,Nat.reduceAdd,env,am,fc,amG,AV.cell,Nat.reduceMul,Nat.reduceLeDiff,hr1,hr2,hq,hx,eu (Int.not_lt.1 hr0) hrl,y6 hW,hcl,hw,br,cD,gL,jY,lu,om,wk_tuple,wk_agg,Option.getD_none,Option.isSome_none]
    |false=>
     have hq2:decide ((0:Int)≤q)=true:=decide_eq_true (Int.not_lt.1 (of_decide_eq_false hq))
     simp (maxSteps:=3000000) (maxDischargeDepth:=6) +contextual -implicitDefEqProofs only [amA M,amB,↓ae,↓aa,↓aj,↓ah,Nat.reduceBEq,Nat.reduceAdd,env,am,fc,amG,AV.cell,Nat.reduceMul,Nat.reduceLeDiff,hr1,hr2,hq,hq2,z,hx,eu (Int.not_lt.1 hr0) hrl,y6 hW,hcl,hw,br,cD,gL,jY,lu,om,wk_tuple,wk_agg,Option.getD_none,Option.isSome_none]
   |some c=>
    have hcl:=fun H=>p6 M hE hl hc (H:=H) (Nat.zero_le _)
    have hw:=fun H T L=>LJ hW (g:=fG) (first:=[]) (cap:=[]) (args:=[.agg l.row,.str x.cls]) (v:=.tuple [.agg c.row,.bool true]) hcl H T L
    cases hq:decide (q<0) with
    |true=>
     have e1:slF l e q=none:=by simp [slF,e0,hc,slC,of_decide_eq_true hq]
     rw [e1]
     simp (maxSteps:=3000000) (maxDischargeDepth:=6) +contextual -implicitDefEqProofs only [amA M,amB,↓ae,↓aa,↓aj,↓ah,Nat.reduceBEq,Nat.reduceAdd,env,am,fc,amG,AV.cell,Nat.reduceMul,Nat.reduceLeDiff,hr1,hr2,hq,hx,eu (Int.not_lt.1 hr0) hrl,y6 hW,hcl,hw,br,cD,gL,jY,lu,om,wk_tuple,wk_agg,Option.getD_none,Option.isSome_none]
    |false=>
     have hq0:¬ q<0:=of_decide_eq_false hq
     cases hq2:decide ((c.slots.l.length:Int)≤q) with
     |true=>
      have hql:c.slots.l.length≤q.toNat:=by have:=of_decide_eq_true hq2;omega
      have e1:slF l e q=none:=by simp [slF,e0,hc,slC,hq0,List.getElem?_eq_none hql]
      rw [e1]
      simp (maxSteps:=3000000) (maxDischargeDepth:=6) +contextual -implicitDefEqProofs only [amA M,amB,↓ae,↓aa,↓aj,↓ah,Nat.reduceBEq,Nat.reduceAdd,env,am,fc,amG,AV.cell,Nat.reduceMul,Nat.reduceLeDiff,hr1,hr2,hq,hq2,hx,eu (Int.not_lt.1 hr0) hrl,y6 hW,hcl,hw,br,cD,gL,jY,lu,om,wk_tuple,wk_agg,Option.getD_none,Option.isSome_none]
     |false=>
      have hql:q.toNat<c.slots.l.length:=by have:=of_decide_eq_false hq2;omega
      have hs:c.slots.l[q.toNat]?=some c.slots.l[q.toNat]:=List.getElem?_eq_getElem hql
      have hcm:c∈l.classes.l:=List.mem_of_find?_eq_some hc
      have hsk:=((hl.classes.all c hcm).slots.all _ (List.getElem_mem hql)).mono (Nat.zero_le H.length)
      generalize c.slots.l[q.toNat]=s at hs hsk
      have e1:slF l e q=some s:=by simp [slF,e0,hc,slC,hq0,hs]
      rw [e1]
      simp (maxSteps:=3000000) (maxDischargeDepth:=6) +contextual -implicitDefEqProofs only [amA M,amB,↓ae,↓aa,↓aj,↓ah,Nat.reduceBEq,Nat.reduceAdd,env,am,fc,amG,AV.cell,Nat.reduceMul,Nat.reduceLeDiff,hr1,hr2,hq,hq2,hx,hs,eu (Int.not_lt.1 hr0) hrl,eu (Int.not_lt.1 hq0) hql,y6 hW,hcl,hw,br,cD,gL,gO,jY,lu,hsk.wk,wk_tuple,wk_agg,Option.getD_some,Option.isSome_some]
end
section
attribute [local congr] aP dR bF aQ bq aZ aR aE aF a6 a7
variable{E:bL}(M:dK dW E)
theorem zQ{l:Lex}(h:dI l=0):tO l=0∧wB l=0∧yl l=0∧AN l=0:=
 ⟨vB h 2 _ rfl,vB h 3 _ rfl,vB h 4 _ rfl,vB h 5 _ rfl⟩
structure DN (l:Lex) (x:az) (c:aW):Prop where
 cls:xO l x.cls=some c
 lem:wA x.lem=true
 short:x.feats.l.length≤8∧uW x.feats.l=true
 clash:∀ s∈c.slots.l,kX x.feats.l s.feats.l=false
 forms:uv (KL c.slots.l.length x.forms.l) 0 x.forms.l=0
theorem kC{b:Bool}{x y:Int}(hx:x≠0)(h:sel b x y=0):b=false∧y=0:=by
 cases b with
 |true=>exact absurd h hx
 |false=>exact ⟨rfl,h⟩
theorem Jo{l:Lex}(h:dI l=0){k:Nat}{x:az}(hx:l.entries.l[k]?=some x):∃ c,DN l x c:=by
 have h3:=(oh (zQ h).2.1).2 k x hx
 unfold yj at h3
 cases hc:xO l x.cls with
 |none=>
  rw [hc] at h3
  exact absurd (kC (by decide) h3).2 (by decide)
 |some c=>
  rw [hc] at h3
  obtain ⟨a1,h3⟩:=kC (by decide) h3
  obtain ⟨_,h3⟩:=kC (by decide) h3
  cases hb:kN l x.feats.l == 0 with
  |false=>
   rw [hb] at h3
   rw [show kN l x.feats.l=0 from h3] at hb
   exact absurd hb (by decide)
  |true=>
   rw [hb] at h3
   obtain ⟨a2,h3⟩:=kC (b:=c.slots.l.any fun s=>kX x.feats.l s.feats.l) (by decide) h3
   exact ⟨c,hc,by simpa using a1,bundle_ok (eq_of_beq hb),by simpa using a2,h3⟩
theorem PD{l:Lex}(h:dI l=0){c:aW}(hc:c∈l.classes.l){s:bz}(hs:s∈c.slots.l):Cq l s=0:=by
 obtain ⟨k,hk⟩:=List.getElem?_of_mem hc
 have h2:=(oh (zQ h).1).2 k c hk
 unfold AM at h2
 have h3:=(kC (by decide) (kC (by decide) (kC (by decide) (kC (by decide) h2).2).2).2).2
 obtain ⟨j,hj⟩:=List.getElem?_of_mem hs
 exact (oh h3).2 j s hj
structure Uk (s:bz):Prop where
 cut:0≤s.cut∧s.cut≤24
 pre:s.pre.length≤6∧s.pre.all jd=true
 add:s.add.length≤6∧s.add.all jd=true
 feats:s.feats.l.length≤8∧uW s.feats.l=true
theorem TI{l:Lex}{s:bz}(h:Cq l s=0):Uk s:=by
 unfold Cq at h
 obtain ⟨h1,h2⟩:=kC (by decide) h
 simp only [Bool.or_eq_false_iff,decide_eq_false_iff_not,Bool.not_eq_false',qp,Bool.and_eq_true,decide_eq_true_eq] at h1
 refine ⟨⟨by omega,by omega⟩,⟨by omega, ?_⟩,⟨by omega, ?_⟩,bundle_ok h2⟩
 ·simp_all
 ·simp_all
structure At (l:Lex) (e q:Int) (x:az) (c:aW) (s:bz):Prop where
 e0:0≤e
 q0:0≤q
 el:e.toNat<l.entries.l.length
 ex:l.entries.l[e.toNat]?=some x
 ent:DN l x c
 cm:c∈l.classes.l
 ql:q.toNat<c.slots.l.length
 sx:c.slots.l[q.toNat]?=some s
 sok:Uk s
theorem U0{l:Lex}(h:dI l=0){e q:Int}{s:bz}(hs:slF l e q=some s):∃ x c,At l e q x c s:=by
 unfold slF at hs
 cases hx:En l e with
 |none=>rw [hx] at hs;exact absurd hs (by simp)
 |some x=>
  rw [hx] at hs
  simp only at hs
  unfold En at hx
  split at hx
  ·exact absurd hx (by simp)
  ·rename_i he
   obtain ⟨c,hc⟩:=Jo h hx
   rw [hc.cls] at hs
   simp only [slC] at hs
   split at hs
   ·exact absurd hs (by simp)
   ·rename_i hq
    have hcm:c∈l.classes.l:=List.mem_of_find?_eq_some hc.cls
    exact ⟨x,c,by omega,by omega,(List.getElem?_eq_some_iff.1 hx).1,hx,hc,hcm,(List.getElem?_eq_some_iff.1 hs).1,hs,TI (PD h hcm (List.mem_of_getElem? hs))⟩
theorem Ul(n k:Nat):Wk n (.slice .nil k []) (.slice .nil k []):=wk_slice trivial (ed n)
def Sg(l:Lex)(e q:Int):Option bz:=if dI l=0 then slF l e q else none
def Si(l:Lex)(e q:Int):Int:=if dI l=0 then (if (slF l e q).isSome then 0 else 7) else dI l
end
section
attribute [local congr] aP dR bF aQ bq aZ aR aE aF a6 a7
variable{E:bL}(M:dK dW E)
theorem b70:((7:Int) == 0)=false:=rfl
theorem b00:((0:Int) == 0)=true:=rfl
def FF(x:az)(s:bz):List au:=(uX x.feats.l s.feats.l).getD []
theorem At.clash{l:Lex}{e q:Int}{x:az}{c:aW}{s:bz}(h:At l e q x c s):kX x.feats.l s.feats.l=false:=h.ent.clash s (List.mem_of_getElem? h.sx)
theorem At.uni{l:Lex}{e q:Int}{x:az}{c:aW}{s:bz}(h:At l e q x c s):uX x.feats.l s.feats.l=some (FF x s):=by
 have:=G4 h.ent.short.2 h.sok.feats.2
 rw [h.clash] at this
 unfold FF
 cases hu:uX x.feats.l s.feats.l with
 |none=>rw [hu] at this;simp at this
 |some r=>rfl
theorem At.comp{srt:List au→List au}(hs:Srt srt){l:Lex}{e q:Int}{x:az}{c:aW}{s:bz}(h:At l e q x c s):xQ (srt (x.feats.l++s.feats.l))=FF x s:=by
 have h1:=Sb hs x.feats.l s.feats.l
 rw [h.uni,OJ,h.ent.short.2,h.sok.feats.2,h.clash] at h1
 exact Option.some.inj h1
theorem At.sl{l:Lex}{e q:Int}{x:az}{c:aW}{s:bz}(hk:dI l=0)(h:At l e q x c s):slF l e q=some s:=by
 have h0:¬ e<0:=by have:=h.e0;omega
 have h1:¬ q<0:=by have:=h.q0;omega
 simp only [slF,En,h0,if_false,h.ex,h.ent.cls,slC,h1,h.sx]
theorem OM(hU:yn E){srt:List au→List au}(hS:Jk M srt)(hs:Srt srt)(hF:tn E){l:Lex}{e q:Int}{x:az}{c:aW}{s:bz}(hA:At l e q x c s)(H:List ag) :
  M.run ka [.agg l.row,.int .i64 e,.agg s.row] H=some (.ret (.slice .any 2 ((FF x s).map au.row)),H):=by
 rw [aL M hF.morph_language_feats rfl (c:=nm) rfl,nm]
 have hu:=fun H=>QE M hU hS (a:=x.feats) (b:=s.feats) (by have:=hA.ent.short.1;have:=hA.sok.feats.1;omega) H
 rw [hA.comp hs] at hu
 simp (maxSteps:=3000000) (maxDischargeDepth:=6) +contextual -implicitDefEqProofs only [amA M,amB,↓ae,↓aa,↓aj,↓ah,Nat.reduceBEq,Nat.reduceAdd,env,am,Au,hu,hA.ex,eu hA.e0 hA.el,br,cD,gO,LQ,implies_true]
def Jp(l:Lex)(e q:Int):List au:=
 match Sg l e q,En l e with
 |some s,some x=>FF x s
 |_,_=>[]
def AR(l:Lex)(e q:Int):AV:=.tuple [.slice .any 2 ((Jp l e q).map au.row),.int .u8 (Si l e q)]
theorem At.ent'{l:Lex}{e q:Int}{x:az}{c:aW}{s:bz}(h:At l e q x c s):En l e=some x:=by
 have h0:¬ e<0:=by have:=h.e0;omega
 simp only [En,h0,if_false,h.ex]
theorem Gz(hR:tm E)(hF:tn E){l:Lex}(hl:l.ok 0)(hk:dI l=0)(e q:Int)(H:List ag) :
  M.run gQ [.agg l.row,.int .i64 e,.int .i64 q] H=some (.ret (.tuple [.agg ((slF l e q).getD OL).row,.bool (slF l e q).isSome]),H):=by
 rw [aL M hF.truchmanref02_slot rfl (c:=pH) rfl,pH]
 cases hr1:decide (e<0) with
 |true=>
  have e1:slF l e q=none:=by simp [slF,En,of_decide_eq_true hr1]
  rw [e1]
  simp (maxSteps:=3000000) (maxDischargeDepth:=6) +contextual -implicitDefEqProofs only [amA M,amB,↓ae,↓aa,↓aj,↓ah,Nat.reduceBEq,Nat.reduceAdd,env,am,ju,amG,AV.cell,Nat.reduceMul,Nat.reduceLeDiff,hr1,br,jY,om,wk_tuple,wk_agg,Option.getD_none,Option.isSome_none]
 |false=>
  have hr0:¬ e<0:=of_decide_eq_false hr1
  cases hr2:decide ((l.entries.l.length:Int)≤e) with
  |true=>
   have hrl:l.entries.l.length≤e.toNat:=by have:=of_decide_eq_true hr2;omega
   have e1:slF l e q=none:=by simp [slF,En,hr0,List.getElem?_eq_none hrl]
   rw [e1]
   simp (maxSteps:=3000000) (maxDischargeDepth:=6) +contextual -implicitDefEqProofs only [amA M,amB,↓ae,↓aa,↓aj,↓ah,Nat.reduceBEq,Nat.reduceAdd,env,am,ju,amG,AV.cell,Nat.reduceMul,Nat.reduceLeDiff,hr1,hr2,br,jY,om,wk_tuple,wk_agg,Option.getD_none,Option.isSome_none]
  |false=>
   have hrl:e.toNat<l.entries.l.length:=by have:=of_decide_eq_false hr2;omega
   have hx:l.entries.l[e.toNat]?=some l.entries.l[e.toNat]:=List.getElem?_eq_getElem hrl
   generalize l.entries.l[e.toNat]=x at hx
   have e0:En l e=some x:=by simp [En,hr0,hx]
   obtain ⟨c,hE⟩:=Jo hk hx
   have hcl:=fun H=>wC M hR hl x.cls H
   rcases nL (fun c:aW=>c.name == x.cls) l.classes.l 0 with ⟨h1,h2⟩ | ⟨j,c',h1,h2,h3⟩
   ·exact absurd (hE.cls.symm.trans h2) (by simp)
   obtain rfl:c=c':=Option.some.inj (hE.cls.symm.trans h3)
   rw [h1,Nat.zero_add] at hcl
   have hj:j<l.classes.l.length:=(List.getElem?_eq_some_iff.1 h2).1
   cases hq:decide (q<0) with
   |true=>
    have e1:slF l e q=none:=by simp [slF,e0,hE.cls,slC,of_decide_eq_true hq]
    rw [e1]
    simp (maxSteps:=3000000) (maxDischargeDepth:=6) +contextual -implicitDefEqProofs only [amA M,amB,↓ae,↓aa,↓aj,↓ah,Nat.reduceBEq,Nat.reduceAdd,env,am,ju,amG,AV.cell,Nat.reduceMul,Nat.reduceLeDiff,hr1,hr2,hq,hx,h2,eu (Int.not_lt.1 hr0) hrl,aA hj,hcl,br,cD,gL,jY,om,wk_tuple,wk_agg,Option.getD_none,Option.isSome_none]
   |false=>
    have hq0:¬ q<0:=of_decide_eq_false hq
    cases hq2:decide ((c.slots.l.length:Int)≤q) with
    |true=>
     have hql:c.slots.l.length≤q.toNat:=by have:=of_decide_eq_true hq2;omega
     have e1:slF l e q=none:=by simp [slF,e0,hE.cls,slC,hq0,List.getElem?_eq_none hql]
     rw [e1]
     simp (maxSteps:=3000000) (maxDischargeDepth:=6) +contextual -implicitDefEqProofs only [amA M,amB,↓ae,↓aa,↓aj,↓ah,Nat.reduceBEq,Nat.reduceAdd,env,am,ju,amG,AV.cell,Nat.reduceMul,Nat.reduceLeDiff,hr1,hr2,hq,hq2,hx,h2,eu (Int.not_lt.1 hr0) hrl,aA hj,hcl,br,cD,gL,jY,om,wk_tuple,wk_agg,Option.getD_none,Option.isSome_none]
    |false=>
     have hql:q.toNat<c.slots.l.length:=by have:=of_decide_eq_false hq2;omega
     have hs:c.slots.l[q.toNat]?=some c.slots.l[q.toNat]:=List.getElem?_eq_getElem hql
     have hcm:c∈l.classes.l:=List.mem_of_find?_eq_some hE.cls
     have hsk:=((hl.classes.all c hcm).slots.all _ (List.getElem_mem hql)).mono (Nat.zero_le H.length)
     generalize c.slots.l[q.toNat]=s at hs hsk
     have e1:slF l e q=some s:=by simp [slF,e0,hE.cls,slC,hq0,hs]
     rw [e1]
     simp (maxSteps:=3000000) (maxDischargeDepth:=6) +contextual -implicitDefEqProofs only [amA M,amB,↓ae,↓aa,↓aj,↓ah,Nat.reduceBEq,Nat.reduceAdd,env,am,ju,amG,AV.cell,Nat.reduceMul,Nat.reduceLeDiff,hr1,hr2,hq,hq2,hx,hs,h2,eu (Int.not_lt.1 hr0) hrl,eu (Int.not_lt.1 hq0) hql,aA hj,hcl,br,cD,gL,gO,jY,hsk.wk,wk_tuple,wk_agg,Option.getD_some,Option.isSome_some]
theorem ON(hN:bp E)(hR:tm E)(hF:tn E){l:Lex}(hl:l.ok 0)(e q:Int)(H:List ag) :
  M.run ou [.agg l.row,.int .i64 e,.int .i64 q] H=some (.ret (AR l e q),H):=by
 rw [aL M hF.truchmanref02_Feats rfl (c:=oP) rfl,oP]
 by_cases hk:dI l=0
 ·have e0:(dI l == 0)=true:=by simpa using hk
  have ha:=fun H=>Gz M hR hF hl hk e q H
  cases hsl:slF l e q with
  |none=>
   have e2:AR l e q = .tuple [.slice .any 2 [],.int .u8 7]:=by simp [AR,Jp,Sg,Si,hk,hsl]
   simp only [hsl,Option.getD_none,Option.isSome_none] at ha
   rw [e2]
   simp (maxSteps:=3000000) (maxDischargeDepth:=6) +contextual -implicitDefEqProofs only [amA M,amB,↓ae,↓aa,↓aj,↓ah,Nat.reduceBEq,Nat.reduceAdd,env,am,oQ,amG,AV.cell,Nat.reduceMul,Nat.reduceLeDiff,ha,lP M hN hR hl,Nat.zero_le,e0,br,gO,ed,wk_tuple]
  |some s=>
   obtain ⟨x,c,hA⟩:=U0 hk hsl
   simp only [hsl,Option.getD_some,Option.isSome_some] at ha
   have hu:=fun H=>I6 M hR (a:=x.feats) (b:=s.feats) (by have:=hA.ent.short.1;have:=hA.sok.feats.1;omega) H
   simp only [hA.uni,RQ] at hu
   have e2:AR l e q = .tuple [.slice .any 2 ((FF x s).map au.row),.int .u8 0]:=by simp [AR,Jp,Sg,Si,hk,hsl,hA.ent']
   rw [e2]
   simp (maxSteps:=3000000) (maxDischargeDepth:=6) +contextual -implicitDefEqProofs only [amA M,amB,↓ae,↓aa,↓aj,↓ah,Nat.reduceBEq,Nat.reduceAdd,env,am,oQ,amG,AV.cell,Nat.reduceMul,Nat.reduceLeDiff,ha,lP M hN hR hl,Nat.zero_le,hu,hA.ex,eu hA.e0 hA.el,e0,br,cD,gO,LQ,implies_true,b70,b00,wk_tuple]
 ·have e0:(dI l == 0)=false:=by simpa using hk
  have e2:AR l e q = .tuple [.slice .any 2 [],.int .u8 (dI l)]:=by simp [AR,Jp,Sg,Si,hk]
  rw [e2]
  simp (maxSteps:=3000000) (maxDischargeDepth:=6) +contextual -implicitDefEqProofs only [amA M,amB,↓ae,↓aa,↓aj,↓ah,Nat.reduceBEq,Nat.reduceAdd,env,am,oQ,amG,AV.cell,Nat.reduceMul,Nat.reduceLeDiff,lP M hN hR hl,Nat.zero_le,e0,br,gO,ed,wk_tuple]
end
section
attribute [local congr] aP dR bF aQ bq aZ aR aE aF a6 a7
variable{E:bL}(M:dK dW E)
def FG(s:bz)(a:Str):Str:=sel (s.pre == []) a ((s.pre++[43])++a)
def yo(s:bz)(b:Str):Str:=sel (s.add == []) b (b++([43]++s.add))
def J4(lem:Str)(s:bz):Str:=yo s (FG s (lem.take (lem.length-s.cut.toNat)))
def HB(lem:Str)(s:bz):Option Str:=sel (decide ((lem.length:Int)<s.cut)) none (some (J4 lem s))
def OO(o:Option Str):AV:=.tuple [.str (o.getD []),.bool o.isSome]
theorem CV{s:Str}(h:wA s=true):s.length≤24:=by
 simp only [wA,KB,Bool.and_eq_true,decide_eq_true_eq] at h
 omega
theorem Jq(s:bz)(a:Str)(h:s.pre.length≤6):(FG s a).length≤a.length+7:=by
 unfold FG;cases s.pre == []<;>simp [sel]<;>omega
theorem Sj(s:bz)(a:Str)(h:s.add.length≤6):(yo s a).length≤a.length+7:=by
 unfold yo;cases s.add == []<;>simp [sel];omega
theorem Jr{lem:Str}{s:bz}(h:lem.length≤24)(hs:Uk s):(J4 lem s).length≤38:=by
 have h1:=Sj s (FG s (lem.take (lem.length-s.cut.toNat))) hs.add.1
 have h2:=Jq s (lem.take (lem.length-s.cut.toNat)) hs.pre.1
 unfold J4
 simp at h2
 omega
theorem run_underlying(hF:tn E){l:Lex}{e q:Int}{x:az}{c:aW}{s:bz}(hA:At l e q x c s)(H:List ag) :
  M.run ke [.agg l.row,.int .i64 e,.agg s.row] H=some (.ret (OO (HB x.lem s)),H):=by
 rw [aL M hF.morph_language_underlying rfl (c:=kj) rfl,kj]
 have hl:=CV hA.ent.lem
 have hp:=hA.sok.pre.1
 have ha:=hA.sok.add.1
 cases hd:decide ((x.lem.length:Int)<s.cut) with
 |true=>
  have e1:OO (HB x.lem s) = .tuple [.str [],.bool false]:=by simp [OO,HB,hd,sel]
  rw [e1]
  simp (maxSteps:=3000000) (maxDischargeDepth:=6) +contextual -implicitDefEqProofs only [amA M,amB,↓ae,↓aa,↓aj,↓ah,Nat.reduceBEq,Nat.reduceAdd,env,am,fi,amG,AV.cell,Nat.reduceMul,Nat.reduceLeDiff,hd,hA.ex,eu hA.e0 hA.el,br,cD,gO,wk_tuple]
 |false=>
  obtain ⟨m,hm⟩:=Int.eq_ofNat_of_zero_le hA.sok.cut.1
  have hml:m≤x.lem.length:=by have:=of_decide_eq_false hd;omega
  have hw:IntKind.i64.wrap ((x.lem.length:Int)-(m:Int))=((x.lem.length-m:Nat):Int):=by rw [dq (by omega) (by omega)];omega
  have hsl:=OA (s:=x.lem) (k:=.i64) (i:=x.lem.length-m) (by omega)
  have e1:OO (HB x.lem s) = .tuple [.str (J4 x.lem s),.bool true]:=by simp [OO,HB,hd,sel]
  have e2:J4 x.lem s=yo s (FG s (x.lem.take (x.lem.length-m))):=by rw [J4,hm];rfl
  have hal:(x.lem.take (x.lem.length-m)).length≤24:=by simp;omega
  rw [e1,e2]
  generalize x.lem.take (x.lem.length-m)=a at hsl hal
  rw [hm] at hd
  have hdn:decide (x.lem.length<m)=false:=decide_eq_false (by omega)
  have hbl:=Jq s a hp
  cases hp0:s.pre == [] with
  |true=>
   have e3:FG s a=a:=by simp [FG,hp0,sel]
   rw [e3] at hbl ⊢
   cases ha0:s.add == [] with
   |true=>
    have e4:yo s a=a:=by simp [yo,ha0,sel]
    rw [e4]
    simp (maxSteps:=3000000) (maxDischargeDepth:=6) +contextual -implicitDefEqProofs only [amA M,amB,↓ae,↓aa,↓aj,↓ah,Nat.reduceBEq,Nat.reduceAdd,env,am,fi,amG,AV.cell,Nat.reduceMul,Nat.reduceLeDiff,hd,hdn,hm,hw,hsl,hp0,ha0,hA.ex,eu hA.e0 hA.el,br,cD,gO,wk_tuple]
   |false=>
    have e4:yo s a=a++([43]++s.add):=by simp [yo,ha0,sel]
    rw [e4]
    simp (maxSteps:=3000000) (maxDischargeDepth:=6) +contextual -implicitDefEqProofs only [amA M,amB,↓ae,↓aa,↓aj,↓ah,Nat.reduceBEq,Nat.reduceAdd,env,am,fi,amG,AV.cell,Nat.reduceMul,Nat.reduceLeDiff,hd,hdn,hm,hw,hsl,hp0,ha0,kn (s:=[43]) (t:=s.add) (by simp;omega),kn (s:=a) (t:=43::s.add) (by simp;omega),hA.ex,eu hA.e0 hA.el,br,cD,gO,wk_tuple]
  |false=>
   have e3:FG s a=(s.pre++[43])++a:=by simp [FG,hp0,sel]
   rw [e3] at hbl ⊢
   cases ha0:s.add == [] with
   |true=>
    have e4:yo s ((s.pre++[43])++a)=(s.pre++[43])++a:=by simp [yo,ha0,sel]
    rw [e4]
    simp (maxSteps:=3000000) (maxDischargeDepth:=6) +contextual -implicitDefEqProofs only [amA M,amB,↓ae,↓aa,↓aj,↓ah,Nat.reduceBEq,Nat.reduceAdd,env,am,fi,amG,AV.cell,Nat.reduceMul,Nat.reduceLeDiff,hd,hdn,hm,hw,hsl,hp0,ha0,kn (s:=s.pre) (t:=[43]) (by simp;omega),kn (s:=s.pre++[43]) (t:=a) (by simp;omega),hA.ex,eu hA.e0 hA.el,br,cD,gO,wk_tuple]
   |false=>
    have e4:yo s ((s.pre++[43])++a)=((s.pre++[43])++a)++([43]++s.add):=by simp [yo,ha0,sel]
    rw [e4]
    simp (maxSteps:=3000000) (maxDischargeDepth:=6) +contextual -implicitDefEqProofs only [amA M,amB,↓ae,↓aa,↓aj,↓ah,Nat.reduceBEq,Nat.reduceAdd,env,am,fi,amG,AV.cell,Nat.reduceMul,Nat.reduceLeDiff,hd,hdn,hm,hw,hsl,hp0,ha0,kn (s:=s.pre) (t:=[43]) (by simp;omega),kn (s:=s.pre++[43]) (t:=a) (by simp;omega),kn (s:=[43]) (t:=s.add) (by simp;omega),kn (s:=s.pre++[43]++a) (t:=43::s.add) (by simp at hbl ⊢;omega),hA.ex,eu hA.e0 hA.el,br,cD,gO,wk_tuple]
def wE(v:Str):List Str→Str→List bt→Option (List Str)
 |o,_,[]=>some o
 |o,u,x::l=>sel (decide (((uz v x u).length:Int)≤512)) (wE v (o++[uz v x u]) (uz v x u) l) none
def noS:AV:=.tuple [.slice .any 1 [],.bool false]
def CA(o:Option (List Str)):AV:=.tuple [.slice .any 1 ((o.getD []).map d9),.bool o.isSome]
theorem LX{H0:List ag}(n m:Nat)(T:TypeId)(L:List ag):bP (H0++[.tok n T]) (H0++(.tok m T::L)):=⟨by simp,fun i x hi hx=>by
 rw [List.length_append] at hi
 by_cases h:i<H0.length
 ·rw [List.getElem?_append_left h] at hx ⊢;exact .inl hx
 ·obtain rfl:i=H0.length:=by simp at hi;omega
  rw [cf] at hx
  obtain rfl:=Option.some.inj hx
  exact .inr trivial⟩
theorem Js(H0:List ag)(o:ag)(L:List ag):(H0++(o::L)).take (H0.length+1)=H0++[o]:=by
 rw [show H0++(o::L)=(H0++[o])++L by simp,show H0.length+1=(H0++[o]).length by simp,List.take_left]
theorem FH(n:Nat)(l:List Str):pr n (l.map d9):=by
 rw [rowsWk_map];exact fun _ _=>⟨wk_str _ _,trivial⟩
theorem LY(n:Nat)(s:Str):WkL n (d9 s) (d9 s):=⟨wk_str _ _,trivial⟩
def J5(M:dK dW E)(fn:AFn)(d:Nat)(H0:List ag)(k:List Fra)(r:Option (List Str))(H:List ag):Option Out:=
 match r with
 |none=>some (.ret noS,H.take H0.length)
 |some r=>M.go fn H0 k (kv [(d,.slice (.own H.length) 1 (r.map d9))]) (H++[.tok (r.length*1) aD])
theorem LZ{α:Type}{row:α→List AV}{l:List α}{x:α}{r:List AV}{sz bytes:Nat}{e:TypeId}(H L:List ag)(h1:r.length=sz)(h2:r.all AV.cell=true)(h3:r.map AV.strip=row x)
  (hl:(l.length+1)*bytes≤140737488355328) (hl2:l.length+1≤4611686018427387904) :
  rap false (H++(.tok (l.length*sz) e::L)) e sz bytes false (.slice (.own H.length) sz (l.map row)) (.slice .full sz [r])=some (.slice (.own H.length) sz ((l++[x]).map row),H++(.tok ((l++[x]).length*sz) e::L)):=by
 have hr:(r.length=sz∧∀ x∈r,x.cell=true):=⟨h1,by simpa using h2⟩
 simp only [rap,EU,DT,List.length_map,List.length_cons,List.length_nil,Nat.zero_add,or_true,if_true,hl,hl2,ID h1 h2,and_true,true_and,cf,List.getElem?_cons_zero,hp_set0,List.set_cons_zero,List.map_cons,List.map_nil,h3,List.map_append,List.length_append,Nat.add_mul,Nat.one_mul]
 rw [Nat.add_mul,Nat.one_mul] at hl
 rw [if_pos hl]
theorem stl(hN:bp E)(hS:SpE E)(hX:rU M)(hB:s5 E){l:Lex}(hl:l.ok 0)(hV:Nn l){H H0:List ag}(hc:bP H0 H){p:Nat}{T:TypeId}(hp:H[p]?=some (.cells l.row T))(k:List Fra) :
  ∀ (n i:Nat) (o:List Str) (u:Str) (He:List ag),He=H++[.tok (o.length*1) aD]→i+n=l.spells.l.length→u.length≤1000→o.length+n≤1000 →
  M.go db H0 (.c eS :: .lp ⟨(some [3,8,10,26,27,28]),[(10,1,aD)],true⟩ eS He :: .blk 0 :: .c (.lv [10])::k) (kv [(3,.ptr p 0),(8,.str u),(10,.slice (.own H.length) 1 (o.map d9)),(26,.slice l.spells.tag 4 (l.spells.l.map bt.row)),(27,.int .i64 l.spells.l.length),(28,.int .i64 i)]) (H++[.tok (o.length*1) aD]) =
   J5 M db 10 H0 k (wE l.vowels o u (l.spells.l.drop i)) H
 |0,i,o,u,He,hHe,h,hu,ho=>by
  have e:i=l.spells.l.length:=by omega
  subst e
  rw [List.drop_length,wE,J5]
  rw [ao M eS.eq_1]
  simp (maxSteps:=3000000) (maxDischargeDepth:=6) +contextual -implicitDefEqProofs only [amA M,amB,↓ae,↓aa,↓aj,↓ah,Nat.reduceBEq,Nat.reduceAdd,env,am,fP,Nat.lt_irrefl]
 |n+1,i,o,u,He,hHe,h,hu,ho=>by
  subst hHe
  have hi:i<l.spells.l.length:=by omega
  have hx:l.spells.l[i]?=some l.spells.l[i]:=List.getElem?_eq_getElem hi
  have hd:(l.spells.l.drop i)=l.spells.l[i]::l.spells.l.drop (i+1):=List.drop_eq_getElem_cons hi
  have hm:l.spells.l[i]∈l.spells.l:=List.getElem_mem hi
  obtain ⟨p1,p2,p3,p4,p5⟩:=Np (hV.spells _ hm)
  have hx0:=hl.spells.all _ hm
  have hsp:=fun H=>Qz M hN hS hX hB (l:=l) hx0 p1 p2 p3 p4 (s:=u) (by omega) H
  have hp':=fun L=>bS (L:=L) hp
  have hpl:=(List.getElem?_eq_some_iff.1 hp).1
  have w1:Wk (H.length+1) (.ptr p 0) (.ptr p 0):=wk_ptr (by omega)
  have w2:Wk (H.length+1) (.slice l.spells.tag 4 (l.spells.l.map bt.row)) (.slice l.spells.tag 4 (l.spells.l.map bt.row)):=(hl.spells.mono (Nat.zero_le _) (fun _ h=>h.mono (Nat.zero_le _))).wk (fun _ h=>h.wk)
  have w3:=fun l:List Str=>wk_slice (n:=H.length+1) (esz:=1) (tag:=.own H.length) (by simp [Iy]) (FH _ l)
  have hcm:=fun L=>sb hc L
  have htm:=fun L=>F5 hc L
  rw [hd,wE]
  generalize l.spells.l[i]=x at hx hsp
  generalize uz l.vowels x u=u' at hsp
  cases hdl:decide ((u'.length:Int)≤512) with
  |false=>
   simp only [sel,J5]
   simp only [hdl] at hsp
   rw [ao M eS.eq_1]
   simp (maxSteps:=3000000) (maxDischargeDepth:=6) +contextual -implicitDefEqProofs only [amA M,amB,↓ae,↓aa,↓aj,↓ah,Nat.reduceBEq,Nat.reduceAdd,env,am,fP,amG,AV.cell,Nat.reduceMul,Nat.reduceLeDiff,hx,hi,hsp,hp',aA hi,br,lC,hcm,htm,noS,ed,wk_tuple]
  |true=>
   simp only [hdl] at hsp
   have hul:u'.length≤1000:=by have:=of_decide_eq_true hdl;omega
   have ap:=fun L=>LZ (row:=d9) (l:=o) (x:=u') (r:=[.str u']) (sz:=1) (bytes:=16) (e:=aD) H L rfl rfl rfl (by omega) (by omega)
   have ih:=stl hN hS hX hB hl hV hc hp k n (i+1) (o++[u']) u' _ rfl (by omega) hul (by simp;omega)
   simp only [kv_cons,kv_nil] at ih
   simp only [sel]
   rw [ao M eS.eq_1]
   simp (maxSteps:=3000000) (maxDischargeDepth:=6) +contextual -implicitDefEqProofs only [amA M,amB,↓ae,↓aa,↓aj,↓ah,Nat.reduceBEq,Nat.reduceAdd,env,am,fP,amG,AV.cell,Nat.reduceMul,Nat.reduceLeDiff,hx,hi,hsp,hp',ap,ih,w1,w2,w3,LX,Js,bn hi hl.spells.len,aA hi,br,lC]
def pO(l:Lex)(x:az)(s:bz):Option (List Str):=
 match HB x.lem s with
 |none=>none
 |some u=>wE l.vowels [u] u l.spells.l
theorem QF(hN:bp E)(hS:SpE E)(hX:rU M)(hB:s5 E)(hF:tn E){l:Lex}(hl:l.ok 0)(hV:Nn l){e q:Int}{x:az}{c:aW}{s:bz}(hA:At l e q x c s)(hsl:l.spells.l.length≤900)(H:List ag) :
  M.run mY [.agg l.row,.int .i64 e,.agg s.row] H=some (.ret (CA (pO l x s)),H):=by
 rw [aL M hF.morph_language_steps rfl (c:=nu) rfl,nu]
 have hu:=fun H=>run_underlying M hF hA H
 cases ho:HB x.lem s with
 |none=>
  have e1:CA (pO l x s)=noS:=by simp [CA,pO,ho,noS]
  rw [e1]
  simp only [ho,OO,Option.getD_none,Option.isSome_none] at hu
  simp (maxSteps:=3000000) (maxDischargeDepth:=6) +contextual -implicitDefEqProofs only [amA M,amB,↓ae,↓aa,↓aj,↓ah,Nat.reduceBEq,Nat.reduceAdd,env,am,fP,amG,AV.cell,Nat.reduceMul,Nat.reduceLeDiff,hu,br,gO,noS,ed,wk_tuple]
 |some u=>
  have e1:pO l x s=wE l.vowels [u] u l.spells.l:=by simp [pO,ho]
  have hul:u.length≤1000:=by
   have:=Jr (CV hA.ent.lem) hA.sok
   unfold HB at ho
   revert ho
   cases decide ((x.lem.length:Int)<s.cut) with
   |true=>simp [sel]
   |false=>intro ho;rw [← Option.some.inj ho];omega
  rw [e1]
  simp only [ho,OO,Option.getD_some,Option.isSome_some] at hu
  have h1:=fun k=>stl M hN hS hX hB hl hV (H:=H++[.cells l.row aN,.cells s.row bQ]) (H0:=H) (cut_app H _) (p:=H.length) (T:=aN) (by rw [cf];rfl) k l.spells.l.length 0 [u] u _ rfl (by omega) hul (by simp;omega)
  simp only [kv_cons,kv_nil,Int.ofNat_zero,List.drop_zero,List.length_append,List.length_cons,List.length_nil,Nat.zero_add,Nat.reduceAdd,List.append_assoc,List.cons_append,List.nil_append,List.map_cons,List.map_nil,d9] at h1
  simp (maxSteps:=3000000) (maxDischargeDepth:=6) +contextual -implicitDefEqProofs only [amA M,amB,↓ae,↓aa,↓aj,↓ah,Nat.reduceBEq,Nat.reduceAdd,env,am,fP,amG,AV.cell,Nat.reduceMul,Nat.reduceLeDiff,hu,h1,br,gO,wk_tuple,d9]
  generalize wE l.vowels [u] u l.spells.l=r
  cases r with
  |none=>simp only [J5,hp_take];rfl
  |some r=>
   simp only [J5,kv_cons,kv_nil]
   simp (maxSteps:=3000000) (maxDischargeDepth:=6) +contextual -implicitDefEqProofs only [amA M,amB,↓ae,↓aa,↓aj,↓ah,Nat.reduceBEq,Nat.reduceAdd,env,am,fP,FH,LY,cut_app,implies_true,wk_tuple]
   rfl
theorem yp{l:Lex}(h:dI l=0):l.spells.l.length≤16:=by
 have:=(oh (zQ h).2.2.1).1
 omega
end
section
attribute [local congr] aP dR bF aQ bq aZ aR aE aF a6 a7
variable{E:bL}(M:dK dW E)
theorem U1(hN:bp E)(hS:Ej E){l:Lex}(hl:l.ok 0)(hV:Nn l){H H0:List ag}(hc:bP H0 H){p:Nat}{T:TypeId}(hp:H[p]?=some (.cells l.row T))(k:List Fra) :
  ∀ (n i:Nat) (o:List Str) (u:Str) (He:List ag),i+n=l.spells.l.length→u.length≤1000→o.length+n≤1000 →
  M.go dA H0 (.c dE :: .lp ⟨(some [3,11,12,13]),[(12,1,aD)],false⟩ dE He :: .blk 0 :: .c (.lv [12])::k) (kv [(3,.ptr p 0),(11,.str u),(12,.slice (.own H.length) 1 (o.map d9)),(13,.int .i64 i)]) (H++[.tok (o.length*1) aD]) =
   J5 M dA 12 H0 k (wE l.vowels o u (l.spells.l.drop i)) H
 |0,i,o,u,He,h,hu,ho=>by
  have e:i=l.spells.l.length:=by omega
  subst e
  have hp':=fun L=>bS (L:=L) hp
  rw [List.drop_length,wE,J5]
  rw [ao M dE.eq_1]
  simp (maxSteps:=3000000) (maxDischargeDepth:=6) +contextual -implicitDefEqProofs only [amA M,amB,↓ae,↓aa,↓aj,↓ah,Nat.reduceBEq,Nat.reduceAdd,env,am,dB,Nat.lt_irrefl,hp',br]
 |n+1,i,o,u,He,h,hu,ho=>by
  have hi:i<l.spells.l.length:=by omega
  have hx:l.spells.l[i]?=some l.spells.l[i]:=List.getElem?_eq_getElem hi
  have hd:(l.spells.l.drop i)=l.spells.l[i]::l.spells.l.drop (i+1):=List.drop_eq_getElem_cons hi
  have hm:l.spells.l[i]∈l.spells.l:=List.getElem_mem hi
  obtain ⟨p1,p2,p3,p4,p5⟩:=Np (hV.spells _ hm)
  have hx0:=hl.spells.all _ hm
  have hsp:=fun H=>LU M hN hS hl hV.vowels hx0 p1 p2 p3 p4 (s:=u) (by omega) H
  have hp':=fun L=>bS (L:=L) hp
  have hcm:=fun L=>sb hc L
  have htm:=fun L=>F5 hc L
  rw [hd,wE]
  generalize l.spells.l[i]=x at hx hsp
  generalize uz l.vowels x u=u' at hsp
  cases hdl:decide ((u'.length:Int)≤512) with
  |false=>
   simp only [sel,J5]
   simp only [hdl] at hsp
   rw [ao M dE.eq_1]
   simp (maxSteps:=3000000) (maxDischargeDepth:=6) +contextual -implicitDefEqProofs only [amA M,amB,↓ae,↓aa,↓aj,↓ah,Nat.reduceBEq,Nat.reduceAdd,env,am,dB,amG,AV.cell,Nat.reduceMul,Nat.reduceLeDiff,hx,hi,hsp,hp',aA hi,br,lC,hcm,htm,noS,ed,wk_tuple]
  |true=>
   simp only [hdl] at hsp
   have hul:u'.length≤1000:=by have:=of_decide_eq_true hdl;omega
   have ap:=fun L=>LZ (row:=d9) (l:=o) (x:=u') (r:=[.str u']) (sz:=1) (bytes:=16) (e:=aD) H L rfl rfl rfl (by omega) (by omega)
   have ih:=fun He=>U1 hN hS hl hV hc hp k n (i+1) (o++[u']) u' He (by omega) hul (by simp;omega)
   simp only [kv_cons,kv_nil] at ih
   simp only [sel]
   rw [ao M dE.eq_1]
   simp (maxSteps:=3000000) (maxDischargeDepth:=6) +contextual -implicitDefEqProofs only [amA M,amB,↓ae,↓aa,↓aj,↓ah,Nat.reduceBEq,Nat.reduceAdd,env,am,dB,amG,AV.cell,Nat.reduceMul,Nat.reduceLeDiff,hx,hi,hsp,hp',ap,ih,bn hi hl.spells.len,aA hi,br,lC]
theorem OP(hN:bp E)(hS:Ej E){l:Lex}(hl:l.ok 0)(hV:Nn l)(hsl:l.spells.l.length≤900){s:bz}{u:Str}(hul:u.length≤1000)(H:List ag) :
  M.go dA H [.c dE,.lp ⟨some [3,11,12,13],[(12,1,aD)],false⟩ dE (H++[.cells l.row aq,.cells s.row bQ,.tok 1 aD]),.blk 0,.c (.lv [12]),.c (Sh.Q (Sh.O [Sh.m 86 12,Sh.m 6 86,Sh.mc 7 Sh.T]) Sh.R)]
   (rW (rW (rW (rW Env.leaf 13 (.int .i64 0)) 12 (.slice (.own (H.length+2)) 1 [[.str u]])) 11 (.str u)) 3 (.ptr H.length 0)) (H++[.cells l.row aq,.cells s.row bQ,.tok 1 aD])=some (.ret (CA (wE l.vowels [u] u l.spells.l)),H):=by
 have h1:=fun k He=>U1 M hN hS hl hV (H:=H++[.cells l.row aq,.cells s.row bQ]) (H0:=H) (cut_app H _) (p:=H.length) (T:=aq) (by rw [cf];rfl) k l.spells.l.length 0 [u] u He (by omega) hul (by simp;omega)
 simp only [kv_cons,kv_nil,Int.ofNat_zero,List.drop_zero,List.length_append,List.length_cons,List.length_nil,Nat.zero_add,Nat.reduceAdd,List.append_assoc,List.cons_append,List.nil_append,List.map_cons,List.map_nil,d9,Nat.mul_one] at h1
 rw [h1]
 generalize wE l.vowels [u] u l.spells.l=r
 cases r with
 |none=>simp only [J5,hp_take];rfl
 |some r=>
  simp only [J5,kv_cons,kv_nil]
  simp (maxSteps:=3000000) (maxDischargeDepth:=6) +contextual -implicitDefEqProofs only [amA M,amB,↓ae,↓aa,↓aj,↓ah,Nat.reduceBEq,Nat.reduceAdd,env,am,dB,FH,LY,cut_app,implies_true,wk_tuple]
  rfl
theorem OQ(hN:bp E)(hR:tm E)(hS:Ej E)(hF:tn E){l:Lex}(hl:l.ok 0)(hk:dI l=0){e q:Int}{x:az}{c:aW}{s:bz}(hA:At l e q x c s)(H:List ag) :
  M.run ov [.agg l.row,.int .i64 e,.int .i64 q] H=some (.ret (CA (pO l x s)),H):=by
 rw [aL M hF.truchmanref02_steps rfl (c:=oY) rfl,oY]
 have hV:=No hk
 have hsl:=yp hk
 have ha':=fun H=>Gz M hR hF hl hk e q H
 simp only [hA.sl hk,Option.getD_some,Option.isSome_some] at ha'
 have hl4:=CV hA.ent.lem
 have hp:=hA.sok.pre.1
 have ha:=hA.sok.add.1
 cases hd:decide ((x.lem.length:Int)<s.cut) with
 |true=>
  have e1:CA (pO l x s)=noS:=by simp [CA,pO,HB,hd,sel,noS]
  rw [e1]
  simp (maxSteps:=3000000) (maxDischargeDepth:=6) +contextual -implicitDefEqProofs only [amA M,amB,↓ae,↓aa,↓aj,↓ah,Nat.reduceBEq,Nat.reduceAdd,env,am,dB,amG,AV.cell,Nat.reduceMul,Nat.reduceLeDiff,ha',hd,hA.ex,eu hA.e0 hA.el,br,cD,gO,noS,ed,wk_tuple]
 |false=>
  obtain ⟨m,hm⟩:=Int.eq_ofNat_of_zero_le hA.sok.cut.1
  have hml:m≤x.lem.length:=by have:=of_decide_eq_false hd;omega
  have hw:IntKind.i64.wrap ((x.lem.length:Int)-(m:Int))=((x.lem.length-m:Nat):Int):=by rw [dq (by omega) (by omega)];omega
  have hsc:=OA (s:=x.lem) (k:=.i64) (i:=x.lem.length-m) (by omega)
  have e1:pO l x s=wE l.vowels [J4 x.lem s] (J4 x.lem s) l.spells.l:=by simp [pO,HB,hd,sel]
  have e2:J4 x.lem s=yo s (FG s (x.lem.take (x.lem.length-m))):=by rw [J4,hm];rfl
  have hul:=Jr hl4 hA.sok
  have hal:(x.lem.take (x.lem.length-m)).length≤24:=by simp;omega
  have hend:=fun (u:Str) (hu:u.length≤38)=>OP M hN hS hl hV (s:=s) (u:=u) (by omega) (by omega) H
  rw [e1]
  rw [e2] at hul ⊢
  generalize x.lem.take (x.lem.length-m)=a at hsc hal hul
  rw [hm] at hd
  have hdn:decide (x.lem.length<m)=false:=decide_eq_false (by omega)
  have hbl:=Jq s a hp
  cases hp0:s.pre == [] with
  |true=>
   have e3:FG s a=a:=by simp [FG,hp0,sel]
   rw [e3] at hbl hul ⊢
   cases ha0:s.add == [] with
   |true=>
    have e4:yo s a=a:=by simp [yo,ha0,sel]
    rw [e4] at hul ⊢
    simp (maxSteps:=3000000) (maxDischargeDepth:=6) +contextual -implicitDefEqProofs only [amA M,amB,↓ae,↓aa,↓aj,↓ah,Nat.reduceBEq,Nat.reduceAdd,env,am,dB,amG,AV.cell,Nat.reduceMul,Nat.reduceLeDiff,ha',hend _ hul,hd,hdn,hm,hw,hsc,hp0,ha0,hA.ex,eu hA.e0 hA.el,br,cD,gO,wk_tuple]
   |false=>
    have e4:yo s a=(a++[43])++s.add:=by simp [yo,ha0,sel]
    rw [e4] at hul ⊢
    simp (maxSteps:=3000000) (maxDischargeDepth:=6) +contextual -implicitDefEqProofs only [amA M,amB,↓ae,↓aa,↓aj,↓ah,Nat.reduceBEq,Nat.reduceAdd,env,am,dB,amG,AV.cell,Nat.reduceMul,Nat.reduceLeDiff,ha',hend _ hul,hd,hdn,hm,hw,hsc,hp0,ha0,kn (s:=a) (t:=[43]) (by simp;omega),kn (s:=a++[43]) (t:=s.add) (by simp;omega),hA.ex,eu hA.e0 hA.el,br,cD,gO,wk_tuple]
  |false=>
   have e3:FG s a=(s.pre++[43])++a:=by simp [FG,hp0,sel]
   rw [e3] at hbl hul ⊢
   cases ha0:s.add == [] with
   |true=>
    have e4:yo s ((s.pre++[43])++a)=(s.pre++[43])++a:=by simp [yo,ha0,sel]
    rw [e4] at hul ⊢
    simp (maxSteps:=3000000) (maxDischargeDepth:=6) +contextual -implicitDefEqProofs only [amA M,amB,↓ae,↓aa,↓aj,↓ah,Nat.reduceBEq,Nat.reduceAdd,env,am,dB,amG,AV.cell,Nat.reduceMul,Nat.reduceLeDiff,ha',hend _ hul,hd,hdn,hm,hw,hsc,hp0,ha0,kn (s:=s.pre) (t:=[43]) (by simp;omega),kn (s:=s.pre++[43]) (t:=a) (by simp;omega),hA.ex,eu hA.e0 hA.el,br,cD,gO,wk_tuple]
   |false=>
    have e4:yo s ((s.pre++[43])++a)=(((s.pre++[43])++a)++[43])++s.add:=by simp [yo,ha0,sel]
    rw [e4] at hul ⊢
    simp (maxSteps:=3000000) (maxDischargeDepth:=6) +contextual -implicitDefEqProofs only [amA M,amB,↓ae,↓aa,↓aj,↓ah,Nat.reduceBEq,Nat.reduceAdd,env,am,dB,amG,AV.cell,Nat.reduceMul,Nat.reduceLeDiff,ha',hend _ hul,hd,hdn,hm,hw,hsc,hp0,ha0,kn (s:=s.pre) (t:=[43]) (by simp;omega),kn (s:=s.pre++[43]) (t:=a) (by simp;omega),kn (s:=s.pre++[43]++a) (t:=[43]) (by simp at hbl ⊢;omega),kn (s:=s.pre++[43]++a++[43]) (t:=s.add) (by simp at hbl ⊢;omega),hA.ex,eu hA.e0 hA.el,br,cD,gO,wk_tuple]
end
section
attribute [local congr] aP dR bF aQ bq aZ aR aE aF a6 a7
variable{E:bL}(M:dK dW E)
structure Jt (M:dK dW E):Prop where
 count:∀ (s:Str) (c:UInt8) (H:List ag),M.run ee [.str s,.int .u8 c.toNat] H=some (.ret (.int .i64 (Lib.countByte s c:Nat)),H)
 noZero:∀ (n:Nat) (H:List ag),n≤281474976710656→M.run dD [.int .i64 n] H=some (.ret (.rslice H.length 0 n 1 true),H++[.cells (List.replicate n .unk) dN])
theorem Nx{H L L':List ag}(h:L.length≤L'.length)(hw:∀ x∈L',O8 (H++L).length x):bP (H++L) (H++L'):=⟨by simp;omega,fun i x hi hx=>by
 by_cases h1:i<H.length
 ·left;rw [List.getElem?_append_left h1] at hx ⊢;exact hx
 ·right;rw [List.getElem?_append_right (by omega)] at hx;exact hw x (List.mem_of_getElem? hx)⟩
abbrev qQ(a x:AV):ag:=.cells [a,x] bu
theorem PE(hB:s5 E)(hX:rU M)(H:List ag) :
  M.run cB [.ptr H.length 0] (H++[qQ .nilp (.slice .nil 1 [])])=some (.ret (.tuple []),H++[qQ (.ptr H.length 0) (.slice .nil 1 [])]):=by
 rw [aL M hB.strings_Builder_copyCheck rfl (c:=bX) rfl,bX]
 have h1:=hX.same H.length 0
 have hc:bP (H++[qQ .nilp (.slice .nil 1 [])]) (H++[qQ (.ptr H.length 0) (.slice .nil 1 [])]):=Nx (by simp) (by
  intro x hx
  obtain rfl:x=_:=by simpa using hx
  intro c hc
  simp only [List.mem_cons,List.not_mem_nil,or_false] at hc
  rcases hc with rfl | rfl
  ·exact wk_ptr (by simp)
  ·exact Ul _ _)
 have ht:(H++[qQ (.ptr H.length 0) (.slice .nil 1 [])]).take (H.length+1)=H++[qQ (.ptr H.length 0) (.slice .nil 1 [])]:=List.take_of_length_le (by simp)
 have e1:NN (H++[qQ .nilp (.slice .nil 1 [])]) (.ptr H.length 0)=some (.ptr H.length 0):=by simp [NN,cf]
 have e2:NO (H++[qQ .nilp (.slice .nil 1 [])]) bu 2 (.ptr H.length 0)=some (.ptr H.length 0):=by simp [NO,cf]
 simp (maxSteps:=3000000) (maxDischargeDepth:=6) +contextual -implicitDefEqProofs only [amA M,amB,↓ae,↓aa,↓aj,↓ah,Nat.reduceBEq,Nat.reduceAdd,env,am,iw,amG,AV.cell,Nat.reduceMul,Nat.reduceLeDiff,h1,qU,Nk,rnc,e1,e2,hc,ht,wk_tuple]
theorem Tj(hB:s5 E)(H L:List ag)(x:AV) :
  M.run cB [.ptr H.length 0] (H++(qQ (.ptr H.length 0) x::L))=some (.ret (.tuple []),H++(qQ (.ptr H.length 0) x::L)):=by
 rw [aL M hB.strings_Builder_copyCheck rfl (c:=bX) rfl,bX]
 have ht:(H++(qQ (.ptr H.length 0) x::L)).take (H.length+(L.length+1))=H++(qQ (.ptr H.length 0) x::L):=List.take_of_length_le (by simp)
 simp (maxSteps:=3000000) (maxDischargeDepth:=6) +contextual -implicitDefEqProofs only [amA M,amB,↓ae,↓aa,↓aj,↓ah,Nat.reduceBEq,Nat.reduceAdd,env,am,iw,Ja,Nl,rnc,ht,wk_tuple]
theorem OR{g:FuncId}{first cap args:List AV}{H H':List ag}{v:AV}(h:H'.take H.length=H)(T L:List Nat):DX dW E .keep (.fn (.func g) first cap) args H T L (some (.ret v,H'))=some (v,H',T,L):=by
 unfold DX xG
 simp only [Ku h,BV.b,if_true]
theorem Sk(hF:tn E)(hX:Jt M)(H:List ag){n:Nat}(hn:n≤281474976710656) :
  M.run m4 [.ptr H.length 0,.int .i64 n] (H++[qQ (.ptr H.length 0) (.slice .nil 1 [])])=some (.ret (.tuple []),H++[qQ (.ptr H.length 0) (.rslice (H.length+1) 0 0 1 true),.cells (List.replicate n .unk) dN]):=by
 rw [aL M hF.strings_Builder_grow rfl (c:=nA) rfl,nA]
 have w1:IntKind.i64.wrap (2*0)=0:=by decide
 have w2:IntKind.i64.wrap (0+(n:Int))=(n:Int):=by rw [dq (by omega) (by omega)];omega
 have h1:=fun H=>hX.noZero n H hn
 have e0:((0:Nat):Int)=0:=rfl
 have e1:Mq (.slice .nil 1 [])=some (.int .i64 0):=rfl
 have e2:CX 1 (.rslice (H.length+1) 0 n 1 true) none (some (.int .i64 0)) none=some (.rslice (H.length+1) 0 0 1 true):=by simp [CX,fH]
 have e3:rcp (H++[qQ (.ptr H.length 0) (.slice .nil 1 []),.cells (List.replicate n .unk) dN]) 1 false (.rslice (H.length+1) 0 0 1 true) (.slice .nil 1 [])=some (.int .i64 0,H++[qQ (.ptr H.length 0) (.slice .nil 1 []),.cells (List.replicate n .unk) dN]):=by
  simp only [rcp,DT,true_or,if_true,hp_getk,List.getElem?_cons_succ,List.getElem?_cons_zero,List.length_nil,Nat.le_refl,Nat.zero_le,Nat.zero_mul,Nat.add_zero,true_and,and_true,List.flatten_nil,aV]
  rw [if_pos (by rfl)]
  rw [List.set_append_right _ _ (by omega)]
  simp
 have hdk:=fun T L=>OR (E:=E) (g:=dD) (first:=[]) (cap:=[]) (args:=[.int .i64 n]) (H:=H++[qQ (.ptr H.length 0) (.slice .nil 1 [])]) (H':=H++[qQ (.ptr H.length 0) (.slice .nil 1 []),.cells (List.replicate n .unk) dN]) (v:=.rslice (H.length+1) 0 n 1 true) (by
  rw [show H++[qQ (.ptr H.length 0) (.slice .nil 1 []),ag.cells (List.replicate n .unk) dN]=(H++[qQ (.ptr H.length 0) (.slice .nil 1 [])])++[.cells (List.replicate n .unk) dN] by simp,List.take_left]) T L
 simp (maxSteps:=3000000) (maxDischargeDepth:=6) +contextual -implicitDefEqProofs only [amA M,amB,↓ae,↓aa,↓aj,↓ah,Nat.reduceBEq,Nat.reduceAdd,env,am,AA,amG,AV.cell,Nat.reduceMul,Nat.reduceLeDiff,rnc,w1,w2,h1,e0,e1,e2,e3,hdk]
theorem QG(hB:s5 E)(hE:rU M)(hF:tn E)(hX:Jt M)(H:List ag){n:Nat}(h0:0<n)(hn:n≤281474976710656) :
  M.run kd [.ptr H.length 0,.int .i64 n] (H++[qQ .nilp (.slice .nil 1 [])])=some (.ret (.tuple []),H++[qQ (.ptr H.length 0) (.rslice (H.length+1) 0 0 1 true),.cells (List.replicate n .unk) dN]):=by
 rw [aL M hF.strings_Builder_Grow rfl (c:=iI) rfl,iI]
 have w1:IntKind.i64.wrap (0-0)=0:=by decide
 have e0:((0:Nat):Int)=0:=rfl
 have e1:Mq (.slice .nil 1 [])=some (.int .i64 0):=rfl
 have d1:decide ((n:Int)<0)=false:=decide_eq_false (by omega)
 have d2:decide ((0:Int)<(n:Int))=true:=decide_eq_true (by omega)
 have d3:decide (0<n)=true:=decide_eq_true h0
 simp (maxSteps:=3000000) (maxDischargeDepth:=6) +contextual -implicitDefEqProofs only [amA M,amB,↓ae,↓aa,↓aj,↓ah,Nat.reduceBEq,Nat.reduceAdd,env,am,sp,amG,AV.cell,Nat.reduceMul,Nat.reduceLeDiff,rnc,PE M hB hE,Sk M hF hX H hn,w1,e0,e1,d1,d2,d3]
theorem OS(hB:s5 E)(hE:rU M)(hF:tn E)(H:List ag) :
  M.run kd [.ptr H.length 0,.int .i64 0] (H++[qQ .nilp (.slice .nil 1 [])])=some (.ret (.tuple []),H++[qQ (.ptr H.length 0) (.slice .nil 1 [])]):=by
 rw [aL M hF.strings_Builder_Grow rfl (c:=iI) rfl,iI]
 have w1:IntKind.i64.wrap (0-0)=0:=by decide
 have e0:((0:Nat):Int)=0:=rfl
 have e1:Mq (.slice .nil 1 [])=some (.int .i64 0):=rfl
 have d1:decide ((0:Int)<0)=false:=rfl
 simp (maxSteps:=3000000) (maxDischargeDepth:=6) +contextual -implicitDefEqProofs only [amA M,amB,↓ae,↓aa,↓aj,↓ah,Nat.reduceBEq,Nat.reduceAdd,env,am,sp,amG,AV.cell,Nat.reduceMul,Nat.reduceLeDiff,rnc,PE M hB hE,w1,e0,e1,d1]
end
section
attribute [local congr] aP dR bF aQ bq aZ aR aE aF a6 a7
variable{E:bL}(M:dK dW E)
def tP(s:Str):Str:=s.filter fun c => !(c == 43)
inductive BL where
 |nil
 |room (n:Nat)
 |own (w:Str)
def BL.str:BL→Str
 |.own w=>w
 |_=>[]
def BL.wr:BL→Str→BL
 |.nil,_=>.nil
 |.room _,s=>.own s
 |.own w,s=>.own (w++s)
def BL.heap(H:List ag):BL→List ag
 |.nil=>H++[qQ (.ptr H.length 0) (.slice .nil 1 [])]
 |.room n=>H++[qQ (.ptr H.length 0) (.rslice (H.length+1) 0 0 1 true),.cells (List.replicate n .unk) dN]
 |.own w=>H++[qQ (.ptr H.length 0) (.slice (.own (H.length+1)) 1 (gG w)),bTok w]
theorem Ny(H:List ag):BL.heap H .nil=H++[qQ (.ptr H.length 0) (.slice .nil 1 [])]:=rfl
theorem K5(H:List ag)(n:Nat):BL.heap H (.room n)=H++[qQ (.ptr H.length 0) (.rslice (H.length+1) 0 0 1 true),.cells (List.replicate n .unk) dN]:=rfl
theorem BL.wr_str(b:BL)(s:Str)(h:b = .nil→s=[]):(b.wr s).str=b.str++s:=by
 cases b with
 |nil=>rw [h rfl];rfl
 |room n=>rfl
 |own w=>rfl
theorem BL.wr_nil{b:BL}{s:Str}(h:b.wr s = .nil):b = .nil:=by cases b<;>simp [BL.wr] at h ⊢
theorem ap2(H:List ag)(x:ag){w s:Str}(h:w.length+s.length≤140737488355328) :
  rap false (H++[x,bTok w]) dN 1 1 true (.slice (.own (H.length+1)) 1 (gG w)) (.str s)=some (.slice (.own (H.length+1)) 1 (gG (w++s)),H++[x,bTok (w++s)]):=by
 have:=Oz (H++[x]) [] h
 rw [List.append_assoc,List.append_assoc,List.length_append] at this
 exact this
theorem apR(H:List ag)(x:ag)(n:Nat){s:Str}(h:s.length≤140737488355328) :
  rap false (H++[x,.cells (List.replicate n .unk) dN]) dN 1 1 true (.rslice (H.length+1) 0 0 1 true) (.str s)=some (.slice (.own (H.length+1)) 1 (gG s),H++[x,bTok s]):=by
 have h2:=ap2 H x (w:=[]) (s:=s) (by simpa using h)
 have e:(H++[x,ag.cells (List.replicate n .unk) dN]).set (H.length+1) (.tok 0 dN)=H++[x,bTok []]:=by
  rw [List.set_append_right _ _ (by omega)];simp
 rw [List.nil_append] at h2
 rw [← h2]
 show (match (H++[x,ag.cells (List.replicate n .unk) dN])[H.length+1]? with
  |some (.cells _ T)=>EU ((H++[x,ag.cells (List.replicate n .unk) dN]).set (H.length+1) (.tok 0 T)) dN 1 1 true (.slice (.own (H.length+1)) 1 []) (.str s)
  |_=>none)=_
 rw [hp_getk]
 simp only [List.getElem?_cons_succ,List.getElem?_cons_zero]
 rw [e]
 rfl
theorem apN(H:List ag):rap false H dN 1 1 true (.slice .nil 1 []) (.str [])=some (.slice .nil 1 [],H):=by
 simp [rap,EU,DT,ri]
theorem Sm(H:List ag)(x y:ag)(w:Str):bP (H++[x,y]) (H++[qQ (.ptr H.length 0) (.slice (.own (H.length+1)) 1 (gG w)),bTok w]):=Nx (by simp) (by
 intro z hz
 simp only [List.mem_cons,List.not_mem_nil,or_false] at hz
 rcases hz with rfl | rfl
 ·intro c hc
  simp only [List.mem_cons,List.not_mem_nil,or_false] at hc
  rcases hc with rfl | rfl
  ·exact wk_ptr (by simp)
  ·exact wk_slice (show H.length+1<_ by simp) (Nj _ _)
 ·trivial)
theorem L0(H:List ag)(x y:ag):(H++[x,y]).take (H.length+2)=H++[x,y]:=List.take_of_length_le (by simp)
theorem PF(H:List ag)(x:ag):(H++[x]).take (H.length+1)=H++[x]:=List.take_of_length_le (by simp)
theorem OT(hB:s5 E)(H:List ag)(b:BL){s:Str}(h:b.str.length+s.length≤140737488355328)(hn:b = .nil→s=[]) :
  M.run aH [.ptr H.length 0,.str s] (b.heap H)=some (.ret (.tuple [.int .i64 s.length,.nilif]),(b.wr s).heap H):=by
 rw [aL M hB.strings_Builder_WriteString rfl (c:=cN) rfl,cN]
 have hc1:=fun L x=>Tj M hB H L x
 cases b with
 |nil=>
  rw [hn rfl]
  simp only [BL.heap,BL.wr]
  have a1:=fun H=>apN H
  simp (maxSteps:=3000000) (maxDischargeDepth:=6) +contextual -implicitDefEqProofs only [amA M,amB,↓ae,↓aa,↓aj,↓ah,Nat.reduceBEq,Nat.reduceAdd,env,am,eC,amG,AV.cell,Nat.reduceMul,Nat.reduceLeDiff,hc1,rnc,a1,PF,cut_refl,wk_tuple]
 |room n=>
  simp only [BL.heap,BL.wr]
  have a1:=fun x=>apR H x n (s:=s) (by simp [BL.str] at h;omega)
  have hcut:=fun x y=>Sm H x y s
  simp (maxSteps:=3000000) (maxDischargeDepth:=6) +contextual -implicitDefEqProofs only [amA M,amB,↓ae,↓aa,↓aj,↓ah,Nat.reduceBEq,Nat.reduceAdd,env,am,eC,amG,AV.cell,Nat.reduceMul,Nat.reduceLeDiff,hc1,rnc,a1,hcut,L0,wk_tuple]
 |own w=>
  simp only [BL.heap,BL.wr]
  have a1:=fun x=>ap2 H x (w:=w) (s:=s) h
  have hcut:=fun x y=>Sm H x y (w++s)
  simp (maxSteps:=3000000) (maxDischargeDepth:=6) +contextual -implicitDefEqProofs only [amA M,amB,↓ae,↓aa,↓aj,↓ah,Nat.reduceBEq,Nat.reduceAdd,env,am,eC,amG,AV.cell,Nat.reduceMul,Nat.reduceLeDiff,hc1,rnc,a1,hcut,L0,wk_tuple]
theorem Sn(hB:s5 E)(H:List ag)(b:BL)(h:b.str.length≤9223372036854775807)(hr:∀ n,b≠.room n) :
  M.run di [.ptr H.length 0] (b.heap H)=some (.ret (.str b.str),b.heap H):=by
 rw [aL M hB.strings_Builder_String rfl (c:=gq) rfl,gq]
 cases b with
 |room n=>exact absurd rfl (hr n)
 |nil=>
  simp only [BL.heap,BL.str]
  have e1:PO (.slice .nil 1 [])=some (.sdp 0 []):=rfl
  have e2:∀ H,Lq H dN (.sdp 0 []) (.int .i64 0)=some (.str []):=fun H=>rfl
  have e0:((0:Nat):Int)=0:=rfl
  simp (maxSteps:=3000000) (maxDischargeDepth:=6) +contextual -implicitDefEqProofs only [amA M,amB,↓ae,↓aa,↓aj,↓ah,Nat.reduceBEq,Nat.reduceAdd,env,am,lI,amG,AV.cell,Nat.reduceMul,Nat.reduceLeDiff,qU,rnc,e0,e1,e2,PF]
 |own w=>
  simp only [BL.heap,BL.str] at h ⊢
  have e2:∀ x,Lq (H++[x,bTok w]) dN (.sdp (H.length+1) (gG w)) (.int .i64 (w.length:Int))=some (.str w):=fun x=>by
   have:=TG (H++[x]) [] w h
   rw [List.append_assoc,List.length_append] at this
   exact this
  simp (maxSteps:=3000000) (maxDischargeDepth:=6) +contextual -implicitDefEqProofs only [amA M,amB,↓ae,↓aa,↓aj,↓ah,Nat.reduceBEq,Nat.reduceAdd,env,am,lI,amG,AV.cell,Nat.reduceMul,Nat.reduceLeDiff,qU,rnc,TH,e2,L0]
theorem OU(hF:tn E)(hS:SpE E)(hX:rU M)(s:Str)(c:UInt8)(H:List ag):M.run nP [.str s,.str [c]] H=some (.ret (.int .i64 (Lib.indexByte s c)),H):=by
 have h1:M.run cR [.str s,.int .u8 c.toNat] H=some (.ret (.int .i64 (Lib.indexByte s c)),H):=by
  rw [aL M hS.internal_stringslite_IndexByte rfl (c:=dV) rfl,dV]
  have h2:=hX.index s c H
  simp (maxSteps:=3000000) (maxDischargeDepth:=6) +contextual -implicitDefEqProofs only [amA M,amB,↓ae,↓aa,↓aj,↓ah,Nat.reduceBEq,Nat.reduceAdd,env,am,li,h2]
 have h2:M.run gI [.str s,.str [c]] H=some (.ret (.int .i64 (Lib.indexByte s c)),H):=by
  rw [aL M hF.internal_stringslite_Index rfl (c:=jX) rfl,jX]
  have e0:((([c].length:Nat):Int) == 0)=false:=rfl
  have e1:((([c].length:Nat):Int) == 1)=true:=rfl
  have e2:GZ ([c]:Str)[0]?=some (.int .u8 (c.toNat:Int)):=rfl
  cases he:([c]:Str) == s with
  |true=>
   have:Lib.indexByte s c=0:=by rw [← eq_of_beq he];simp [Lib.indexByte]
   rw [this]
   simp (maxSteps:=3000000) (maxDischargeDepth:=6) +contextual -implicitDefEqProofs only [amA M,amB,↓ae,↓aa,↓aj,↓ah,Nat.reduceBEq,Nat.reduceAdd,env,am,nV,e0,e1,he]
  |false=>
   simp (maxSteps:=3000000) (maxDischargeDepth:=6) +contextual -implicitDefEqProofs only [amA M,amB,↓ae,↓aa,↓aj,↓ah,Nat.reduceBEq,Nat.reduceAdd,env,am,nV,e0,e1,e2,h1,he]
 rw [aL M hF.strings_Index rfl (c:=uN) rfl,uN]
 simp (maxSteps:=3000000) (maxDischargeDepth:=6) +contextual -implicitDefEqProofs only [amA M,amB,↓ae,↓aa,↓aj,↓ah,Nat.reduceBEq,Nat.reduceAdd,env,am,Hr,h2]
theorem OW(hF:tn E)(hX:Jt M)(s:Str)(c:UInt8)(H:List ag):M.run kY [.str s,.str [c]] H=some (.ret (.int .i64 (Lib.countByte s c:Nat)),H):=by
 rw [aL M hF.strings_Count rfl (c:=uM) rfl,uM]
 have h2:=hX.count s c H
 have e0:((([c].length:Nat):Int) == 0)=false:=rfl
 have e1:((([c].length:Nat):Int) == 1)=true:=rfl
 have e2:GZ ([c]:Str)[0]?=some (.int .u8 (c.toNat:Int)):=rfl
 simp (maxSteps:=3000000) (maxDischargeDepth:=6) +contextual -implicitDefEqProofs only [amA M,amB,↓ae,↓aa,↓aj,↓ah,Nat.reduceBEq,Nat.reduceAdd,env,am,Hq,e0,e1,e2,h2]
theorem So(a b:Str):tP (a++b)=tP a++tP b:=List.filter_append ..
theorem G6:∀ (s:Str) (m:Nat),Lib.countByte s 43=m+1→∃ a r,s=a++43::r∧tP a=a∧Lib.indexByte s 43=(a.length:Int)∧Lib.countByte r 43=m
 |[],m,h=>by simp [Lib.countByte] at h
 |c::s,m,h=>by
  by_cases hc:c=43
  ·subst hc
   exact ⟨[],s,rfl,rfl,by simp [Lib.indexByte],by simpa [Lib.countByte] using h⟩
  ·obtain ⟨a,r,h1,h2,h3,h4⟩:=G6 s m (by rwa [Lib.countByte,List.count_cons_of_ne (Ne.symm (by simpa using (fun e=>hc e.symm)))] at h)
   refine ⟨c::a,r,by rw [h1];rfl, ?_, ?_,h4⟩
   ·simp only [tP,List.filter_cons] at h2 ⊢
    simp [hc,h2]
   ·have hb:(c == 43)=false:=by simpa using hc
    simp only [Lib.indexByte,hb,h3]
    have:((a.length:Int) == -1)=false:=beq_eq_false_iff_ne.2 (by omega)
    simp [this]
theorem PG{s:Str}(h:Lib.countByte s 43=0):tP s=s:=by
 simp only [Lib.countByte] at h
 rw [List.count_eq_zero] at h
 exact List.filter_eq_self.2 fun c hc=>by
  have:c≠43:=fun e=>h (e ▸ hc)
  simpa using this
theorem Nz{s:Str}(h:∀ x∈s,x=43):tP s=[]:=List.filter_eq_nil_iff.2 fun c hc=>by simp [h c hc]
theorem rpl(hN:bp E)(hF:tn E)(hS:SpE E)(hX:rU M)(hB:s5 E){s:Str}(hs:s.length≤1000000){H H0:List ag}(N:Nat)(k:List Fra):∀ (m i st:Nat) (b:BL) (He:List ag),i+m=N→N≤1000000→st≤s.length→b.str.length≤st→Lib.countByte (s.drop st) 43=m→(b = .nil→∀ x∈s,x=43) →
  ∃ (st':Nat) (b':BL),st'≤s.length∧b'.str++s.drop st'=b.str++tP (s.drop st)∧b'.str.length≤st'∧(b' = .nil→∀ x∈s,x=43) ∧
   M.go er H0 (.c j0 :: .lp ⟨(some [0,1,2,10,11,52,53]),[],false⟩ j0 He :: .blk 0 :: .c (.lv [0,10,11])::k) (kv [(0,.str s),(1,.str [43]),(2,.str []),(10,.ptr H.length 0),(11,.int .i64 st),(52,.int .i64 N),(53,.int .i64 i)]) (b.heap H)=M.go er H0 k (kv [(0,.str s),(10,.ptr H.length 0),(11,.int .i64 st')]) (b'.heap H)
 |0,i,st,b,He,hi,hN2,hst,hbl,hc,hb=>by
  refine ⟨st,b,hst,by rw [PG hc],hbl,hb, ?_⟩
  have e:i=N:=by omega
  subst e
  rw [ao M j0.eq_1]
  simp (maxSteps:=3000000) (maxDischargeDepth:=6) +contextual -implicitDefEqProofs only [amA M,amB,↓ae,↓aa,↓aj,↓ah,Nat.reduceBEq,Nat.reduceAdd,env,am,jG,Nat.lt_irrefl]
 |m+1,i,st,b,He,hi,hN2,hst,hbl,hc,hb=>by
  obtain ⟨a,r,h1,h2,h3,h4⟩:=G6 _ _ hc
  have hlen:a.length+(r.length+1)=s.length-st:=by
   have:=congrArg List.length h1
   simpa using this.symm
  have hdr:s.drop (st+a.length+1)=r:=by
   rw [Nat.add_assoc,← List.drop_drop,h1,List.drop_append,List.drop_of_length_le (by omega)]
   simp
  have hta:(s.drop st).take a.length=a:=by rw [h1];simp
  have hbn:b = .nil→a=[]:=fun e=>by
   have:tP a=[]:=Nz fun x hx=>hb e x (List.mem_of_mem_drop (by rw [h1];simp [hx]))
   rw [← h2,this]
  have hw1:=OT M hB H b (s:=a) (by omega) hbn
  have hs1:=b.wr_str a hbn
  have hw2:=OT M hB H (b.wr a) (s:=[]) (by rw [hs1];simp;omega) (fun _=>rfl)
  have hs2:=(b.wr a).wr_str [] (fun _=>rfl)
  rw [List.append_nil] at hs2
  have hbb:(b.wr a).wr [] = .nil→∀ x∈s,x=43:=fun e=>hb (BL.wr_nil (BL.wr_nil e))
  obtain ⟨st',b',g1,g2,g3,g4,g5⟩:=rpl hN hF hS hX hB hs (H:=H) (H0:=H0) N k m (i+1) (st+a.length+1) ((b.wr a).wr []) (((b.wr a).wr []).heap H) (by omega) hN2 (by omega) (by rw [hs2,hs1];simp;omega) (by rw [hdr];exact h4) hbb
  refine ⟨st',b',g1, ?_,g3,g4, ?_⟩
  ·rw [g2,hs2,hs1,hdr,h1,So,h2,List.append_assoc]
   congr 1
  ·simp only [kv_cons,kv_nil] at g5 ⊢
   rw [← g5]
   have hin:i<N:=by omega
   have hix:=fun H=>OU M hF hS hX (s.drop st) 43 H
   rw [h3] at hix
   have q1:=zP (s:=s) (k:=.i64) hst
   have q2:=FB (s:=s) (k:=.i64) (k':=.i64) (i:=st) (j:=st+a.length) (by omega) (by omega)
   rw [Nat.add_sub_cancel_left,hta] at q2
   have q3:IntKind.i64.wrap ((st:Int)+(a.length:Int))=((st+a.length:Nat):Int):=by rw [dq (by omega) (by omega)];omega
   have q4:IntKind.i64.wrap (((st+a.length:Nat):Int)+1)=((st+a.length+1:Nat):Int):=by rw [dq (by omega) (by omega)];omega
   have q5:((([43]:Str).length:Nat):Int)=1:=rfl
   rw [ao M j0.eq_1]
   simp (maxSteps:=3000000) (maxDischargeDepth:=6) +contextual -implicitDefEqProofs only [amA M,amB,↓ae,↓aa,↓aj,↓ah,Nat.reduceBEq,Nat.reduceAdd,env,am,jG,hin,hix,q1,q2,q3,q4,q5,hw1,hw2,bn hin (show N≤aY by simp only [aY];omega)]
theorem NA(hN:bp E)(hF:tn E)(hS:SpE E)(hX:rU M)(hY:Jt M)(hB:s5 E){s:Str}(hs:s.length≤1000000)(H:List ag) :
  M.run si [.str s,.str [43],.str [],.int .i64 (-1)] H=some (.ret (.str (tP s)),H):=by
 rw [aL M hF.strings_Replace rfl (c:=ss) rfl,ss]
 have hct:=fun H=>OW M hF hY s 43 H
 have q5:((([43]:Str).length:Nat):Int)=1:=rfl
 have q6:(([43]:Str) == [])=false:=rfl
 have q7:((-1:Int) == 0)=false:=rfl
 have q8:decide ((-1:Int)<0)=true:=rfl
 have q9:decide ((0:Int)<1)=true:=rfl
 have z0:((0:Nat):Int)=0:=rfl
 have z1:((1:Nat):Int)=1:=rfl
 have w1:IntKind.i64.wrap (0-1) = -1:=by decide
 generalize hc:Lib.countByte s 43=n at hct
 have hcl:n≤s.length:=by rw [← hc];exact List.count_le_length
 cases hn:(n:Int) == 0 with
 |true=>
  have:n=0:=by have:=eq_of_beq hn;omega
  rw [PG (by rw [hc];exact this)]
  simp (maxSteps:=3000000) (maxDischargeDepth:=6) +contextual -implicitDefEqProofs only [amA M,amB,↓ae,↓aa,↓aj,↓ah,Nat.reduceBEq,Nat.reduceAdd,env,am,jG,hct,q5,q6,q7,q8,hn]
 |false=>
  have hn0:0<n:=by have:=beq_eq_false_iff_ne.1 hn;omega
  have w2:IntKind.i64.wrap ((n:Int) * -1) = -(n:Int):=by rw [dq (by omega) (by omega)];omega
  have w3:IntKind.i64.wrap ((s.length:Int) + -(n:Int))=((s.length-n:Nat):Int):=by rw [dq (by omega) (by omega)];omega
  have fin:∀ (b:BL) (st:Nat),st≤s.length→b.str.length≤st→b.str++s.drop st=tP s→(b = .nil→∀ x∈s,x=43) →
    M.go er H [.c (.seq (.seq (.ops [⟨(some 99),none,(.op (.mv (.t 0)))⟩,⟨(some 100),none,(.op (.mv (.t 11)))⟩,⟨(some 101),none,(.op (.sls (.t 99) (some (.t 100)) none))⟩,⟨(some 102),none,(.call (.c (.fn (.func aH) [] [])) [(.t 10),(.t 101)])⟩]) (.lv [10])) (.seq (.ops [⟨(some 103),none,(.call (.c (.fn (.func di) [] [])) [(.t 10)])⟩,⟨(some 8),none,(.op (.mv (.t 103)))⟩]) .ret))] (rW (rW (rW Env.leaf 11 (.int .i64 st)) 10 (.ptr H.length 0)) 0 (.str s)) (b.heap H)=some (.ret (.str (tP s)),H):=by
   intro b st h1 h2 h3 h4
   have hbn:b = .nil→s.drop st=[]:=fun e=>by
    have h5:=Nz (h4 e)
    rw [h5] at h3
    exact (List.append_eq_nil_iff.1 h3).2
   have a1:=OT M hB H b (s:=s.drop st) (by simp;omega) hbn
   have a2:=b.wr_str (s.drop st) hbn
   have a3:=Sn M hB H (b.wr (s.drop st)) (by rw [a2];simp;omega) (fun n e=>by cases b<;>simp [BL.wr] at e)
   rw [a2,h3] at a3
   have q1:=zP (s:=s) (k:=.i64) h1
   have hcut:∀ b:BL,bP H (b.heap H):=fun b=>by cases b<;>exact cut_app H _
   have htk:∀ b:BL,(b.heap H).take H.length=H:=fun b=>by cases b<;>simp [BL.heap]
   simp (maxSteps:=3000000) (maxDischargeDepth:=6) +contextual -implicitDefEqProofs only [amA M,amB,↓ae,↓aa,↓aj,↓ah,Nat.reduceBEq,Nat.reduceAdd,env,am,jG,q1,a1,a3,hcut,htk]
  by_cases hg:s.length-n=0
  ·have hall:∀ x∈s,x=43:=by
    have:s.count 43=s.length:=by rw [Lib.countByte] at hc;omega
    exact fun x hx=>((List.count_eq_length.1 this) x hx).symm
   have hgr:=OS M hB hX hF H
   obtain ⟨st',b',g1,g2,g3,g4,g5⟩:=rpl M hN hF hS hX hB hs (H:=H) (H0:=H) n [.c (.seq (.seq (.ops [⟨(some 99),none,(.op (.mv (.t 0)))⟩,⟨(some 100),none,(.op (.mv (.t 11)))⟩,⟨(some 101),none,(.op (.sls (.t 99) (some (.t 100)) none))⟩,⟨(some 102),none,(.call (.c (.fn (.func aH) [] [])) [(.t 10),(.t 101)])⟩]) (.lv [10])) (.seq (.ops [⟨(some 103),none,(.call (.c (.fn (.func di) [] [])) [(.t 10)])⟩,⟨(some 8),none,(.op (.mv (.t 103)))⟩]) .ret))] n 0 0 .nil (H++[qQ (.ptr H.length 0) (.slice .nil 1 [])]) (by omega) (by omega) (Nat.zero_le _) (Nat.le_refl _) hc (fun _=>hall)
   have g6:=fin b' st' g1 g3 g2 g4
   simp only [kv_cons,kv_nil,Int.ofNat_zero,Ny,K5] at g5
   rw [hg,z0] at w3
   rw [← g6,← g5]
   simp (maxSteps:=3000000) (maxDischargeDepth:=6) +contextual -implicitDefEqProofs only [amA M,amB,↓ae,↓aa,↓aj,↓ah,Nat.reduceBEq,Nat.reduceAdd,env,am,jG,amG,AV.cell,Nat.reduceMul,Nat.reduceLeDiff,hct,z0,z1,q5,q6,q7,q8,q9,hn,w1,w2,w3,hgr]
  ·have hgr:=QG M hB hX hF hY H (n:=s.length-n) (by omega) (by omega)
   obtain ⟨st',b',g1,g2,g3,g4,g5⟩:=rpl M hN hF hS hX hB hs (H:=H) (H0:=H) n [.c (.seq (.seq (.ops [⟨(some 99),none,(.op (.mv (.t 0)))⟩,⟨(some 100),none,(.op (.mv (.t 11)))⟩,⟨(some 101),none,(.op (.sls (.t 99) (some (.t 100)) none))⟩,⟨(some 102),none,(.call (.c (.fn (.func aH) [] [])) [(.t 10),(.t 101)])⟩]) (.lv [10])) (.seq (.ops [⟨(some 103),none,(.call (.c (.fn (.func di) [] [])) [(.t 10)])⟩,⟨(some 8),none,(.op (.mv (.t 103)))⟩]) .ret))] n 0 0 (.room (s.length-n)) (H++[qQ (.ptr H.length 0) (.rslice (H.length+1) 0 0 1 true),.cells (List.replicate (s.length-n) .unk) dN]) (by omega) (by omega) (Nat.zero_le _) (Nat.le_refl _) hc (fun e=>by cases e)
   have g6:=fin b' st' g1 g3 g2 g4
   simp only [kv_cons,kv_nil,Int.ofNat_zero,Ny,K5] at g5
   rw [← g6,← g5]
   simp (maxSteps:=3000000) (maxDischargeDepth:=6) +contextual -implicitDefEqProofs only [amA M,amB,↓ae,↓aa,↓aj,↓ah,Nat.reduceBEq,Nat.reduceAdd,env,am,jG,amG,AV.cell,Nat.reduceMul,Nat.reduceLeDiff,hct,z0,z1,q5,q6,q7,q8,q9,hn,w1,w2,w3,hgr]
theorem Ju(hN:bp E)(hF:tn E)(hS:SpE E)(hX:rU M)(hY:Jt M)(hB:s5 E){s:Str}(hs:s.length≤1000000)(H:List ag) :
  M.run pz [.str s,.str [43],.str []] H=some (.ret (.str (tP s)),H):=by
 rw [aL M hF.strings_ReplaceAll rfl (c:=pG) rfl,pG]
 simp (maxSteps:=3000000) (maxDischargeDepth:=6) +contextual -implicitDefEqProofs only [amA M,amB,↓ae,↓aa,↓aj,↓ah,Nat.reduceBEq,Nat.reduceAdd,env,am,B8,NA M hN hF hS hX hY hB hs]
end
section
attribute [local congr] aP dR bF aQ bq aZ aR aE aF a6 a7
variable{E:bL}(M:dK dW E)
def QH(q:Int):Nat→bT→Option AV:=fun _ f=>sel (f.slot == q) (some (.str f.word)) none
def Sp(l:List bT)(q:Int):Option Str:=(l.find? fun f=>f.slot == q).map (·.word)
theorem GA(q:Int)(H:List ag)(x:Option Out):∀ (l:List bT) (i:Nat),orE (bE (QH q) i l) H x=match Sp l q with
  |some w=>some (.ret (.str w),H)
  |none=>x
 |[],_=>rfl
 |f::l,i=>by
  rw [iV,show QH q i f=sel (f.slot == q) (some (.str f.word)) none from rfl,CN,xJ,y7,ue,y8,GA q H x l]
  simp only [Sp,List.find?_cons]
  cases f.slot == q<;>rfl
def GB(o:Option (List Str)):Str:=
 match o with
 |none=>[]
 |some r=>sel (decide ((24:Int)<((tP (r.getLastD [])).length:Int))) [] (tP (r.getLastD []))
def CB(l:Lex)(x:az)(s:bz)(q:Int):Str:=
 match Sp x.forms.l q with
 |some w=>w
 |none=>GB (pO l x s)
theorem Jv(v:Str):∀ (l:List bt) (o:List Str) (u:Str) (r:List Str),u.length≤1000→wE v (o++[u]) u l=some r→∃ r' u',r=r'++[u']∧u'.length≤1000∧r.length=o.length+1+l.length
 |[],o,u,r,hu,h=>by
  obtain rfl:=Option.some.inj h
  exact ⟨o,u,rfl,hu,by simp⟩
 |x::l,o,u,r,hu,h=>by
  rw [wE] at h
  cases hd:decide (((uz v x u).length:Int)≤512) with
  |false=>rw [hd] at h;simp [sel] at h
  |true=>
   rw [hd] at h
   obtain ⟨r',u',h1,h2,h3⟩:=Jv v l (o++[u]) (uz v x u) r (by have:=of_decide_eq_true hd;omega) h
   exact ⟨r',u',h1,h2,by rw [h3];simp;omega⟩
theorem G7{l:Lex}(hk:dI l=0){e q:Int}{x:az}{c:aW}{s:bz}(hA:At l e q x c s){r:List Str}(h:pO l x s=some r):∃ r' u',r=r'++[u']∧u'.length≤1000∧r.length≤100:=by
 unfold pO at h
 cases ho:HB x.lem s with
 |none=>rw [ho] at h;cases h
 |some u=>
  rw [ho] at h
  have hul:u.length≤1000:=by
   have:=Jr (CV hA.ent.lem) hA.sok
   unfold HB at ho
   revert ho
   cases decide ((x.lem.length:Int)<s.cut) with
   |true=>simp [sel]
   |false=>intro ho;rw [← Option.some.inj ho];omega
  obtain ⟨r',u',h1,h2,h3⟩:=Jv l.vowels l.spells.l [] u r hul h
  have:=yp hk
  exact ⟨r',u',h1,h2,by simp at h3;omega⟩
theorem mfl{H H0:List ag}{e q:Int}{x:az}{n0:Nat}(hx0:x.ok n0)(hn:n0≤H.length){p:Nat}(hpl:p<H.length)(hc:bP H0 H)(k:List Fra):∀ (n i:Nat),i+n=(x.forms.l).length →
  M.go dz H0 (.c ii :: .lp ⟨(some [1,2,3,20,21,22]),[],true⟩ ii H :: .blk 0 :: .c (.lv [1,2,3])::k) (kv [(1,.int .i64 e),(2,.int .i64 q),(3,.ptr p 0),(20,.slice x.forms.tag 2 (x.forms.l.map bT.row)),(21,.int .i64 x.forms.l.length),(22,.int .i64 i)]) H =
   orE (bE (QH q) i (x.forms.l.drop i)) (H.take H0.length) (M.go dz H0 k (kv [(1,.int .i64 e),(2,.int .i64 q),(3,.ptr p 0)]) H)
 |0,i,h=>by
  have e:i=(x.forms.l).length:=by omega
  subst e
  rw [ao M ii.eq_1]
  simp (maxSteps:=3000000) (maxDischargeDepth:=6) +contextual -implicitDefEqProofs only [amA M,amB,↓ae,↓aa,↓aj,↓ah,Nat.reduceBEq,Nat.reduceAdd,env,am,gj,Nat.lt_irrefl,List.drop_length]
 |n+1,i,h=>by
  have hi:i<(x.forms.l).length:=by omega
  have hx:(x.forms.l)[i]?=some (x.forms.l)[i]:=List.getElem?_eq_getElem hi
  have hd:((x.forms.l).drop i)=(x.forms.l)[i]::(x.forms.l).drop (i+1):=List.drop_eq_getElem_cons hi
  have hm:(x.forms.l)[i]∈(x.forms.l):=List.getElem_mem hi
  have ih:=mfl (H:=H) (H0:=H0) (e:=e) (q:=q) (x:=x) (n0:=n0) (hx0:=hx0) (hn:=hn) (p:=p) (hpl:=hpl) hc k n (i+1)  (by omega)
  simp only [kv_cons,kv_nil] at ih
  have w2:Wk H.length (.ptr p 0) (.ptr p 0):=wk_ptr hpl
  have w3:Wk H.length (.slice x.forms.tag 2 (x.forms.l.map bT.row)) (.slice x.forms.tag 2 (x.forms.l.map bT.row)):=(hx0.forms.mono hn (fun _ h=>h.mono hn)).wk (fun _ h=>h.wk)
  rw [ao M ii.eq_1]
  simp (maxSteps:=3000000) (maxDischargeDepth:=6) +contextual -implicitDefEqProofs only [amA M,amB,↓ae,↓aa,↓aj,↓ah,Nat.reduceBEq,Nat.reduceAdd,env,am,gj,hx,hd,hi,ih,amG,AV.cell,w2,w3,bn hi hx0.forms.len,aA hi,Aj,hc,QH]
theorem FI(r':List Str)(u':Str){t:Tag}(h:(r'++[u']).length≤100):yV 1 (.slice t 1 ((r'++[u']).map d9)) (.int .i64 (IntKind.i64.wrap (((r'++[u']).length:Int)-1)))=some (.vptr 1 ((r'++[u']).map d9) r'.length 0):=by
 have e:IntKind.i64.wrap (((r'++[u']).length:Int)-1)=(r'.length:Int):=by
  simp only [List.length_append,List.length_cons,List.length_nil] at h ⊢
  rw [dq (by omega) (by omega)];omega
 rw [e]
 exact aA (by simp)
theorem FJ(r':List Str)(u':Str):(r'++[u'])[r'.length]?=some u':=by simp
theorem L3(r':List Str)(u':Str):(r'++[u']).getLastD []=u':=by simp
theorem Sq(hN:bp E)(hW:WdE M)(hE:kW E)(hS:SpE E)(hX:rU M)(hY:Jt M)(hB:s5 E)(hF:tn E){l:Lex}(hl:l.ok 0)(hk:dI l=0){e q:Int}{x:az}{c:aW}{s:bz}(hA:At l e q x c s)(H:List ag) :
  M.run gi [.agg l.row,.int .i64 e,.int .i64 q] H=some (.ret (.str (CB l x s q)),H):=by
 rw [aL M hF.morph_language_form rfl (c:=oN) rfl,oN]
 have hx0:=hl.entries.all x (List.mem_of_getElem? hA.ex)
 have h1:=fun k=>mfl M (H:=H++[.cells l.row aN]) (H0:=H) (e:=e) (q:=q) hx0 (Nat.zero_le _) (p:=H.length) (by simp) (cut_app H _) k x.forms.l.length 0 (by omega)
 simp only [kv_cons,kv_nil,Int.ofNat_zero,List.drop_zero,GA] at h1
 have hsl:=fun H=>Nw M hW hE hF hl e q H
 simp only [hA.sl hk,Option.getD_some,Option.isSome_some] at hsl
 have hst:=fun H=>QF M hN hS hX hB hF hl (No hk) hA (by have:=yp hk;omega) H
 have hsw:∀ n,WkL n s.row s.row:=fun n=>(((hl.classes.all c hA.cm).slots.all s (List.mem_of_getElem? hA.sx)).mono (Nat.zero_le n)).wk
 cases hi:Sp x.forms.l q with
 |some w=>
  have e1:CB l x s q=w:=by simp [CB,hi]
  rw [e1]
  simp only [hi] at h1
  simp (maxSteps:=3000000) (maxDischargeDepth:=6) +contextual -implicitDefEqProofs only [amA M,amB,↓ae,↓aa,↓aj,↓ah,Nat.reduceBEq,Nat.reduceAdd,env,am,gj,amG,AV.cell,Nat.reduceMul,Nat.reduceLeDiff,h1,hA.ex,eu hA.e0 hA.el,br,cD]
 |none=>
  have e1:CB l x s q=GB (pO l x s):=by simp [CB,hi]
  rw [e1]
  simp only [hi] at h1
  cases hr:pO l x s with
  |none=>
   simp only [hr,CA,Option.getD_none,Option.isSome_none,List.map_nil] at hst
   simp (maxSteps:=3000000) (maxDischargeDepth:=6) +contextual -implicitDefEqProofs only [amA M,amB,↓ae,↓aa,↓aj,↓ah,Nat.reduceBEq,Nat.reduceAdd,env,am,gj,amG,AV.cell,Nat.reduceMul,Nat.reduceLeDiff,h1,hsl,hst,hA.ex,eu hA.e0 hA.el,br,cD,gO,GB]
  |some r=>
   obtain ⟨r',u',g1,g2,g3⟩:=G7 hk hA hr
   subst g1
   simp only [hr,CA,Option.getD_some,Option.isSome_some] at hst
   have hra:=fun H=>Ju M hN hF hS hX hY hB (s:=u') (by omega) H
   cases hd:decide ((24:Int)<((tP u').length:Int)) with
   |true=>
    have e2:GB (some (r'++[u']))=[]:=by simp only [GB,L3,hd,sel]
    rw [e2]
    simp (maxSteps:=3000000) (maxDischargeDepth:=6) +contextual -implicitDefEqProofs only [amA M,amB,↓ae,↓aa,↓aj,↓ah,Nat.reduceBEq,Nat.reduceAdd,env,am,gj,amG,AV.cell,Nat.reduceMul,Nat.reduceLeDiff,h1,hsl,hst,hra,hd,FI r' u' g3,FJ,hA.ex,eu hA.e0 hA.el,br,cD,gO,JK]
   |false=>
    have e2:GB (some (r'++[u']))=tP u':=by simp only [GB,L3,hd,sel]
    rw [e2]
    simp (maxSteps:=3000000) (maxDischargeDepth:=6) +contextual -implicitDefEqProofs only [amA M,amB,↓ae,↓aa,↓aj,↓ah,Nat.reduceBEq,Nat.reduceAdd,env,am,gj,amG,AV.cell,Nat.reduceMul,Nat.reduceLeDiff,h1,hsl,hst,hra,hd,FI r' u' g3,FJ,hA.ex,eu hA.e0 hA.el,br,cD,gO,JK]
end
section
attribute [local congr] aP dR bF aQ bq aZ aR aE aF a6 a7
variable{E:bL}(M:dK dW E)
theorem U2{H H0:List ag}{e q:Int}{x:az}{n0:Nat}(hx0:x.ok n0){p:Nat}(hc:bP H0 H)(k:List Fra):∀ (n i:Nat) (He:List ag),i+n=(x.forms.l).length →
  M.go dj H0 (.c iF :: .lp ⟨(some [1,2,3,9,10]),[],false⟩ iF He :: .blk 0 :: .c (.lv [1,2,3])::k) (kv [(1,.int .i64 e),(2,.int .i64 q),(3,.ptr p 0),(9,.slice x.forms.tag 2 (x.forms.l.map bT.row)),(10,.int .i64 i)]) H =
   orE (bE (QH q) i (x.forms.l.drop i)) (H.take H0.length) (M.go dj H0 k (kv [(1,.int .i64 e),(2,.int .i64 q),(3,.ptr p 0)]) H)
 |0,i,He,h=>by
  have e:i=(x.forms.l).length:=by omega
  subst e
  rw [ao M iF.eq_1]
  simp (maxSteps:=3000000) (maxDischargeDepth:=6) +contextual -implicitDefEqProofs only [amA M,amB,↓ae,↓aa,↓aj,↓ah,Nat.reduceBEq,Nat.reduceAdd,env,am,dU,Nat.lt_irrefl,List.drop_length]
 |n+1,i,He,h=>by
  have hi:i<(x.forms.l).length:=by omega
  have hx:(x.forms.l)[i]?=some (x.forms.l)[i]:=List.getElem?_eq_getElem hi
  have hd:((x.forms.l).drop i)=(x.forms.l)[i]::(x.forms.l).drop (i+1):=List.drop_eq_getElem_cons hi
  have hm:(x.forms.l)[i]∈(x.forms.l):=List.getElem_mem hi
  have ih:=fun He=>U2 (H:=H) (H0:=H0) (e:=e) (q:=q) (x:=x) (n0:=n0) (hx0:=hx0) (p:=p) hc k n (i+1)  He (by omega)
  simp only [kv_cons,kv_nil] at ih
  rw [ao M iF.eq_1]
  simp (maxSteps:=3000000) (maxDischargeDepth:=6) +contextual -implicitDefEqProofs only [amA M,amB,↓ae,↓aa,↓aj,↓ah,Nat.reduceBEq,Nat.reduceAdd,env,am,dU,hx,hd,hi,ih,bn hi hx0.forms.len,aA hi,Aj,hc,QH]
theorem Um{w:Str}(hw:w.length≤1000000){H H0:List ag}(k:List Fra):∀ (n i:Nat) (o:Str) (He:List ag),i+n=w.length→o.length≤i →
  M.go dj H0 (.c fO :: .lp ⟨(some [13,14,15]),[],false⟩ fO He :: .blk 2 :: .c (.lv [14])::k) (kv [(13,.str w),(14,.str o),(15,.int .i64 i)]) H=M.go dj H0 k (kv [(14,.str (o++tP (w.drop i)))]) H
 |0,i,o,He,h,ho=>by
  have e:i=w.length:=by omega
  subst e
  have e2:tP []=[]:=rfl
  rw [List.drop_length,e2,List.append_nil]
  rw [ao M fO.eq_1]
  simp (maxSteps:=3000000) (maxDischargeDepth:=6) +contextual -implicitDefEqProofs only [amA M,amB,↓ae,↓aa,↓aj,↓ah,Nat.reduceBEq,Nat.reduceAdd,env,am,dU,Nat.lt_irrefl]
 |n+1,i,o,He,h,ho=>by
  have hi:i<w.length:=by omega
  have hx:w[i]?=some w[i]:=List.getElem?_eq_getElem hi
  have hd:w.drop i=w[i]::w.drop (i+1):=List.drop_eq_getElem_cons hi
  have q2:=FB (s:=w) (k:=.i64) (k':=.i64) (i:=i) (j:=i+1) (by omega) (by omega)
  rw [Nat.add_sub_cancel_left,hd] at q2
  simp only [List.take_succ_cons,List.take_zero] at q2
  have hb:∀ c:UInt8,((c.toNat:Int) == 43)=(c == 43):=fun c=>by
   rw [Bool.eq_iff_iff,beq_iff_eq,beq_iff_eq]
   refine ⟨fun h=>UInt8.toNat_inj.1 (by have:c.toNat=43:=by omega
                                        simpa using this),fun h=>by rw [h];rfl⟩
  rw [hd]
  generalize w[i]=c at hx q2
  cases hc:c == 43 with
  |true=>
   have e2:tP (c::w.drop (i+1))=tP (w.drop (i+1)):=by simp [tP,hc]
   have ih:=fun He=>Um hw (H:=H) (H0:=H0) k n (i+1) o He (by omega) (by omega)
   simp only [kv_cons,kv_nil] at ih
   rw [e2]
   rw [ao M fO.eq_1]
   simp (maxSteps:=3000000) (maxDischargeDepth:=6) +contextual -implicitDefEqProofs only [amA M,amB,↓ae,↓aa,↓aj,↓ah,Nat.reduceBEq,Nat.reduceAdd,env,am,dU,hi,hx,hb,hc,ih,bn hi (show w.length≤aY by simp only [aY];omega)]
  |false=>
   have e2:o++tP (c::w.drop (i+1))=(o++[c])++tP (w.drop (i+1)):=by simp [tP,hc]
   have ih:=fun He=>Um hw (H:=H) (H0:=H0) k n (i+1) (o++[c]) He (by omega) (by simp;omega)
   simp only [kv_cons,kv_nil] at ih
   rw [e2]
   rw [ao M fO.eq_1]
   simp (maxSteps:=3000000) (maxDischargeDepth:=6) +contextual -implicitDefEqProofs only [amA M,amB,↓ae,↓aa,↓aj,↓ah,Nat.reduceBEq,Nat.reduceAdd,env,am,dU,hi,hx,hb,hc,ih,q2,kn (s:=o) (t:=[c]) (by simp;omega),bn hi (show w.length≤aY by simp only [aY];omega)]
theorem QI(hN:bp E)(hR:tm E)(hS:Ej E)(hF:tn E){l:Lex}(hl:l.ok 0)(hk:dI l=0){e q:Int}{x:az}{c:aW}{s:bz}(hA:At l e q x c s)(H:List ag) :
  M.run jn [.agg l.row,.int .i64 e,.int .i64 q] H=some (.ret (.str (CB l x s q)),H):=by
 rw [aL M hF.truchmanref02_form rfl (c:=pF) rfl,pF]
 have hx0:=hl.entries.all x (List.mem_of_getElem? hA.ex)
 have h1:=fun k L He=>U2 M (H:=H++(.cells l.row aq::L)) (H0:=H) (e:=e) (q:=q) hx0 (p:=H.length) (cut_app H _) k x.forms.l.length 0 He (by omega)
 simp only [kv_cons,kv_nil,Int.ofNat_zero,List.drop_zero,GA] at h1
 have hsl:=fun H=>Gz M hR hF hl hk e q H
 simp only [hA.sl hk,Option.getD_some,Option.isSome_some] at hsl
 have hst:=fun H=>OQ M hN hR hS hF hl hk hA H
 cases hi:Sp x.forms.l q with
 |some w=>
  have e1:CB l x s q=w:=by simp [CB,hi]
  rw [e1]
  simp only [hi] at h1
  simp (maxSteps:=3000000) (maxDischargeDepth:=6) +contextual -implicitDefEqProofs only [amA M,amB,↓ae,↓aa,↓aj,↓ah,Nat.reduceBEq,Nat.reduceAdd,env,am,dU,amG,AV.cell,Nat.reduceMul,Nat.reduceLeDiff,h1,hsl,hA.ex,eu hA.e0 hA.el,br,cD,gO]
 |none=>
  have e1:CB l x s q=GB (pO l x s):=by simp [CB,hi]
  rw [e1]
  simp only [hi] at h1
  cases hr:pO l x s with
  |none=>
   simp only [hr,CA,Option.getD_none,Option.isSome_none,List.map_nil] at hst
   simp (maxSteps:=3000000) (maxDischargeDepth:=6) +contextual -implicitDefEqProofs only [amA M,amB,↓ae,↓aa,↓aj,↓ah,Nat.reduceBEq,Nat.reduceAdd,env,am,dU,amG,AV.cell,Nat.reduceMul,Nat.reduceLeDiff,h1,hsl,hst,hA.ex,eu hA.e0 hA.el,br,cD,gO,GB]
  |some r=>
   obtain ⟨r',u',g1,g2,g3⟩:=G7 hk hA hr
   subst g1
   simp only [hr,CA,Option.getD_some,Option.isSome_some] at hst
   have h2:=fun H0 H k He=>Um M (w:=u') (by omega) (H:=H) (H0:=H0) k u'.length 0 [] He (by omega) (Nat.le_refl _)
   simp only [kv_cons,kv_nil,Int.ofNat_zero,List.drop_zero,List.nil_append] at h2
   cases hd:decide ((24:Int)<((tP u').length:Int)) with
   |true=>
    have e2:GB (some (r'++[u']))=[]:=by simp only [GB,L3,hd,sel]
    rw [e2]
    simp (maxSteps:=3000000) (maxDischargeDepth:=6) +contextual -implicitDefEqProofs only [amA M,amB,↓ae,↓aa,↓aj,↓ah,Nat.reduceBEq,Nat.reduceAdd,env,am,dU,amG,AV.cell,Nat.reduceMul,Nat.reduceLeDiff,h1,hsl,hst,h2,hd,FI r' u' g3,FJ,hA.ex,eu hA.e0 hA.el,br,cD,gO,JK]
   |false=>
    have e2:GB (some (r'++[u']))=tP u':=by simp only [GB,L3,hd,sel]
    rw [e2]
    simp (maxSteps:=3000000) (maxDischargeDepth:=6) +contextual -implicitDefEqProofs only [amA M,amB,↓ae,↓aa,↓aj,↓ah,Nat.reduceBEq,Nat.reduceAdd,env,am,dU,amG,AV.cell,Nat.reduceMul,Nat.reduceLeDiff,h1,hsl,hst,h2,hd,FI r' u' g3,FJ,hA.ex,eu hA.e0 hA.el,br,cD,gO,JK]
end
section
attribute [local congr] aP dR bF aQ bq aZ aR aE aF a6 a7
variable{E:bL}(M:dK dW E)
theorem TJ{l:Lex}(hk:dI l=0){e:Int}(he:0≤e){x:az}(hx:l.entries.l[e.toNat]?=some x){c:aW}(hc:DN l x c){i:Nat}{s:bz}(hs:c.slots.l[i]?=some s):At l e (i:Int) x c s:=by
 have hcm:c∈l.classes.l:=List.mem_of_find?_eq_some hc.cls
 exact ⟨he,by omega,(List.getElem?_eq_some_iff.1 hx).1,hx,hc,hcm,by simpa using (List.getElem?_eq_some_iff.1 hs).1,by simpa using hs,TI (PD hk hcm (List.mem_of_getElem? hs))⟩
theorem QJ(hW:WdE M)(hE:kW E)(hF:tn E){l:Lex}(hl:l.ok 0){e:Int}(he:0≤e){x:az}(hx:l.entries.l[e.toNat]?=some x){c:aW}(hc:DN l x c)(H:List ag) :
  M.run mW [.agg l.row,.int .i64 e] H=some (.ret (.int .i64 c.slots.l.length),H):=by
 rw [aL M hF.morph_language_slots rfl (c:=nl) rfl,nl]
 have hcl:=fun H=>p6 M hE hl hc.cls (H:=H) (Nat.zero_le _)
 have hw:=fun H T L=>LJ hW (g:=fG) (first:=[]) (cap:=[]) (args:=[.agg l.row,.str x.cls]) (v:=.tuple [.agg c.row,.bool true]) hcl H T L
 simp (maxSteps:=3000000) (maxDischargeDepth:=6) +contextual -implicitDefEqProofs only [amA M,amB,↓ae,↓aa,↓aj,↓ah,Nat.reduceBEq,Nat.reduceAdd,env,am,As,amG,AV.cell,Nat.reduceMul,Nat.reduceLeDiff,hx,eu he (List.getElem?_eq_some_iff.1 hx).1,y6 hW,hcl,hw,br,cD,gL]
theorem Jw(hR:tm E)(hF:tn E){l:Lex}(hl:l.ok 0){e:Int}(he:0≤e){x:az}(hx:l.entries.l[e.toNat]?=some x){c:aW}(hc:DN l x c)(H:List ag) :
  M.run ot [.agg l.row,.int .i64 e] H=some (.ret (.int .i64 c.slots.l.length),H):=by
 rw [aL M hF.truchmanref02_Slots rfl (c:=oO) rfl,oO]
 have hcl:=fun H=>wC M hR hl x.cls H
 rcases nL (fun c:aW=>c.name == x.cls) l.classes.l 0 with ⟨h1,h2⟩ | ⟨j,c',h1,h2,h3⟩
 ·exact absurd (hc.cls.symm.trans h2) (by simp)
 obtain rfl:c=c':=Option.some.inj (hc.cls.symm.trans h3)
 rw [h1,Nat.zero_add] at hcl
 have hj:j<l.classes.l.length:=(List.getElem?_eq_some_iff.1 h2).1
 simp (maxSteps:=3000000) (maxDischargeDepth:=6) +contextual -implicitDefEqProofs only [amA M,amB,↓ae,↓aa,↓aj,↓ah,Nat.reduceBEq,Nat.reduceAdd,env,am,Bm,amG,AV.cell,Nat.reduceMul,Nat.reduceLeDiff,hx,eu he (List.getElem?_eq_some_iff.1 hx).1,h2,aA hj,hcl,br,cD,gL]
theorem GC{l:Lex}(hk:dI l=0){x:az}{c:aW}(hc:DN l x c):c.slots.l.length≤24:=by
 have hcm:c∈l.classes.l:=List.mem_of_find?_eq_some hc.cls
 obtain ⟨k,hk2⟩:=List.getElem?_of_mem hcm
 have h2:=(oh (zQ hk).1).2 k c hk2
 unfold AM at h2
 have h3:=(kC (by decide) (kC (by decide) (kC (by decide) h2).2).2)
 have:=of_decide_eq_false (kC (by decide) (kC (by decide) (kC (by decide) h2).2).2).1
 omega
theorem sms{H H0:List ag}{l:List Str}{ta tb:Tag}(hl:l.length≤aY)(k:List Fra):∀ (n i:Nat) (He:List ag),i+n=l.length →
  M.go cC H0 (.c eB :: .lp ⟨(some [0,1,5]),[],false⟩ eB He :: .blk 0 :: .c (.lv [])::k) (kv [(0,.slice ta 1 (l.map d9)),(1,.slice tb 1 (l.map d9)),(5,.int .i64 i)]) H =
   (M.go cC H0 k .leaf H)
 |0,i,He,h=>by
  have e:i=l.length:=by omega
  subst e
  rw [ao M eB.eq_1]
  simp (maxSteps:=3000000) (maxDischargeDepth:=6) +contextual -implicitDefEqProofs only [amA M,amB,↓ae,↓aa,↓aj,↓ah,Nat.reduceBEq,Nat.reduceAdd,env,am,kh,Nat.lt_irrefl,List.drop_length]
 |n+1,i,He,h=>by
  have hi:i<l.length:=by omega
  have hx:l[i]?=some l[i]:=List.getElem?_eq_getElem hi
  have hd:(l.drop i)=l[i]::l.drop (i+1):=List.drop_eq_getElem_cons hi
  have hm:l[i]∈l:=List.getElem_mem hi
  have ih:=fun He=>sms (H:=H) (H0:=H0) (l:=l) (ta:=ta) (tb:=tb) (hl:=hl) k n (i+1)  He (by omega)
  simp only [kv_cons,kv_nil] at ih
  rw [ao M eB.eq_1]
  simp (maxSteps:=3000000) (maxDischargeDepth:=6) +contextual -implicitDefEqProofs only [amA M,amB,↓ae,↓aa,↓aj,↓ah,Nat.reduceBEq,Nat.reduceAdd,env,am,kh,hx,hd,hi,ih,aA hi,JK,beq_self_eq_true,bn hi hl]
theorem HC(hF:tn E){l:List Str}{ta tb:Tag}(hl:l.length≤aY)(H:List ag):M.run j4 [.slice ta 1 (l.map d9),.slice tb 1 (l.map d9)] H=some (.ret (.bool true),H):=by
 rw [aL M hF.truchmanlaw02_SameStrings rfl (c:=kg) rfl,kg]
 have h1:=fun k He=>sms M (H:=H) (H0:=H) (ta:=ta) (tb:=tb) hl k l.length 0 He (by omega)
 simp only [kv_cons,kv_nil,Int.ofNat_zero,List.drop_zero] at h1
 simp (maxSteps:=3000000) (maxDischargeDepth:=6) +contextual -implicitDefEqProofs only [amA M,amB,↓ae,↓aa,↓aj,↓ah,Nat.reduceBEq,Nat.reduceAdd,env,am,kh,h1,bne_self_eq_false,beq_self_eq_true]
end
section
attribute [local congr] aP dR bF aQ bq aZ aR aE aF a6 a7
variable{E:bL}(M:dK dW E)
structure BuiE (E:bL):Prop where
 morph_language_opens:E.fn sf=some nr
 morph_language_build:E.fn sc=some nk
 morph_Build:E.fn DB=some x6
 truchmanref02_linked:E.fn sg=some ns
 truchmanref02_built:E.fn tu=some oL
 truchmanref02_Build:E.fn tt=some oB
theorem PH{l:Lex}{e q:Int}{x:az}{c:aW}{s:bz}(hA:At l e q x c s):(FF x s).length≤aY:=by
 have hm:=hA.uni
 rw [uX,hA.ent.short.2,hA.sok.feats.2] at hm
 have hl:=CU _ _ _ _ (Nat.le_refl _) hm
 have h8:=hA.ent.short.1
 have h9:=hA.sok.feats.1
 simp only [aY];omega
end
section
attribute [local congr] aP dR bF aQ bq aZ aR aE aF a6 a7
variable{E:bL}(M:dK dW E)
structure NC (E:bL):Prop where
 morph_Find_1:E.fn sd=some ma
 morph_Find:E.fn Ak=some pW
 truchmanref02_Find:E.fn px=some eA
 morph_Bundle:E.fn vN=some mb
 morph_Generate:E.fn tD=some eQ
 truchmanref02_Generate:E.fn lF=some b7
def QK(l:Lex)(lem cls:Str):AV:=
 sel (!(dI l == 0)) (.tuple [.int .i64 0,.int .u8 (dI l)]) (sel (decide (qn (fun x:az=>x.lem == lem&&x.cls == cls) 0 l.entries.l<0)) (.tuple [.int .i64 0,.int .u8 7]) (.tuple [.int .i64 (qn (fun x:az=>x.lem == lem&&x.cls == cls) 0 l.entries.l),.int .u8 0]))
theorem OX(hG:NC E)(x:az)(a b:Str){H:List ag}{q r:Nat}{T T2:TypeId}(hq:H[q]?=some (.cells [.str a] T))(hr:H[r]?=some (.cells [.str b] T2)):M.run sd [.agg x.row,.ptr q 0,.ptr r 0] H=some (.ret (.bool (x.lem == a&&x.cls == b)),H):=by
 rw [aL M hG.morph_Find_1 rfl (c:=vT) rfl,vT]
 simp (maxSteps:=3000000) (maxDischargeDepth:=6) +contextual -implicitDefEqProofs only [amA M,amB,↓ae,↓aa,↓aj,↓ah,Nat.reduceBEq,Nat.reduceAdd,env,am,II,cD,hq,hr,bS hq,bS hr]
theorem Sr(hN:bp E)(hE:kW E)(hG:NC E){l:Lex}(hl:l.ok 0)(a b:Str)(H:List ag) :
  M.run Ak [.agg l.row,.str a,.str b] H=some (.ret (QK l a b),H):=by
 rw [aL M hG.morph_Find rfl (c:=Ap) rfl,Ap]
 unfold QK
 cases hk:dI l == 0 with
 |false=>
  simp (maxSteps:=3000000) (maxDischargeDepth:=6) +contextual -implicitDefEqProofs only [amA M,amB,↓ae,↓aa,↓aj,↓ah,Nat.reduceBEq,Nat.reduceAdd,env,am,Aq,amG,AV.cell,Nat.reduceMul,Nat.reduceLeDiff,zN M hN hE hl,Nat.zero_le,hk,br,wk_tuple,sel]
 |true=>
  have hcf:=u3 M hE.slices_IndexFunc_api_Entry_api_Entry (g:=sd) (fr:=[]) (cap:=[.ptr (H.length+1) 0,.ptr (H.length+2) 0]) (p:=fun x=>x.lem == a&&x.cls == b) (tg:=l.entries.tag) hl.entries.len
   (H:=H++[.cells l.row aq,.cells [.str a] aD,.cells [.str b] aD]) (fun x _=>OX M hG x a b (T:=aD) (T2:=aD) (by rw [hp_getk];rfl) (by rw [hp_getk];rfl))
  generalize qn (fun x:az=>x.lem == a&&x.cls == b) 0 l.entries.l=j at hcf
  cases hj:decide (j<0) with
  |true=>
   simp (maxSteps:=3000000) (maxDischargeDepth:=6) +contextual -implicitDefEqProofs only [amA M,amB,↓ae,↓aa,↓aj,↓ah,Nat.reduceBEq,Nat.reduceAdd,env,am,Aq,amG,AV.cell,Nat.reduceMul,Nat.reduceLeDiff,zN M hN hE hl,Nat.zero_le,hk,hcf,hj,br,wk_tuple,sel]
  |false=>
   simp (maxSteps:=3000000) (maxDischargeDepth:=6) +contextual -implicitDefEqProofs only [amA M,amB,↓ae,↓aa,↓aj,↓ah,Nat.reduceBEq,Nat.reduceAdd,env,am,Aq,amG,AV.cell,Nat.reduceMul,Nat.reduceLeDiff,zN M hN hE hl,Nat.zero_le,hk,hcf,hj,br,wk_tuple,sel]
def Tk(a b:Str):Nat→az→Option AV:=fun i x=>sel (x.lem == a&&x.cls == b) (some (.tuple [.int .i64 i,.int .u8 0])) none
theorem K6(a b:Str)(H:List ag)(x:Option Out):∀ (l:List az) (i:Nat),orE (bE (Tk a b) i l) H x=sel (decide (qn (fun x:az=>x.lem == a&&x.cls == b) i l<0)) x (some (.ret (.tuple [.int .i64 (qn (fun x:az=>x.lem == a&&x.cls == b) i l),.int .u8 0]),H))
 |[],i=>rfl
 |y::l,i=>by
  rw [iV,show Tk a b i y=sel (y.lem == a&&y.cls == b) (some (.tuple [.int .i64 i,.int .u8 0])) none from rfl,CN,xJ,y7,ue,y8,K6 a b H x l (i+1)]
  rw [qn]
  cases (y.lem == a&&y.cls == b) with
  |true=>
   have:¬ ((i:Int)<0):=by omega
   simp [sel,this]
  |false=>rfl
theorem U3{H H0:List ag}{a b:Str}{l:Lex}{n0:Nat}(hl:l.ok n0){p:Nat}{T:TypeId}(hp:H[p]?=some (.cells l.row T))(hc:bP H0 H)(k:List Fra):∀ (n i:Nat) (He:List ag),i+n=(l.entries.l).length →
  M.go eA H0 (.c iD :: .lp ⟨(some [1,2,3,9]),[],false⟩ iD He :: .blk 0 :: .c (.lv [])::k) (kv [(1,.str a),(2,.str b),(3,.ptr p 0),(9,.int .i64 i)]) H =
   orE (bE (Tk a b) i (l.entries.l.drop i)) (H.take H0.length) (M.go eA H0 k .leaf H)
 |0,i,He,h=>by
  have e:i=(l.entries.l).length:=by omega
  subst e
  rw [ao M iD.eq_1]
  simp (maxSteps:=3000000) (maxDischargeDepth:=6) +contextual -implicitDefEqProofs only [amA M,amB,↓ae,↓aa,↓aj,↓ah,Nat.reduceBEq,Nat.reduceAdd,env,am,jq,Nat.lt_irrefl,List.drop_length,br,hp]
 |n+1,i,He,h=>by
  have hi:i<(l.entries.l).length:=by omega
  have hx:(l.entries.l)[i]?=some (l.entries.l)[i]:=List.getElem?_eq_getElem hi
  have hd:((l.entries.l).drop i)=(l.entries.l)[i]::(l.entries.l).drop (i+1):=List.drop_eq_getElem_cons hi
  have hm:(l.entries.l)[i]∈(l.entries.l):=List.getElem_mem hi
  have ih:=fun He=>U3 (H:=H) (H0:=H0) (a:=a) (b:=b) (l:=l) (n0:=n0) (hl:=hl) (p:=p) (T:=T) (hp:=hp) hc k n (i+1)  He (by omega)
  simp only [kv_cons,kv_nil] at ih
  rw [ao M iD.eq_1]
  simp (maxSteps:=3000000) (maxDischargeDepth:=6) +contextual -implicitDefEqProofs only [amA M,amB,↓ae,↓aa,↓aj,↓ah,Nat.reduceBEq,Nat.reduceAdd,env,am,jq,hx,hd,hi,ih,hp,bn hi hl.entries.len,aA hi,br,cD,hc,Tk,wk_tuple]
theorem QL(hN:bp E)(hR:tm E)(hG:NC E){l:Lex}(hl:l.ok 0)(a b:Str)(H:List ag) :
  M.run px [.agg l.row,.str a,.str b] H=some (.ret (QK l a b),H):=by
 rw [aL M hG.truchmanref02_Find rfl (c:=pD) rfl,pD]
 unfold QK
 cases hk:dI l == 0 with
 |false=>
  simp (maxSteps:=3000000) (maxDischargeDepth:=6) +contextual -implicitDefEqProofs only [amA M,amB,↓ae,↓aa,↓aj,↓ah,Nat.reduceBEq,Nat.reduceAdd,env,am,jq,amG,AV.cell,Nat.reduceMul,Nat.reduceLeDiff,lP M hN hR hl,Nat.zero_le,hk,br,wk_tuple,sel]
 |true=>
  have h1:=fun k He=>U3 M (H:=H++[.cells l.row aq]) (H0:=H) (a:=a) (b:=b) hl (p:=H.length) (T:=aq) (by rw [cf];rfl) (cut_app H _) k l.entries.l.length 0 He (by omega)
  simp only [kv_cons,kv_nil,Int.ofNat_zero,List.drop_zero,K6] at h1
  cases hj:decide (qn (fun x:az=>x.lem == a&&x.cls == b) 0 l.entries.l<0) with
  |true=>
   simp only [hj,sel] at h1
   simp (maxSteps:=3000000) (maxDischargeDepth:=6) +contextual -implicitDefEqProofs only [amA M,amB,↓ae,↓aa,↓aj,↓ah,Nat.reduceBEq,Nat.reduceAdd,env,am,jq,amG,AV.cell,Nat.reduceMul,Nat.reduceLeDiff,lP M hN hR hl,Nat.zero_le,hk,h1,br,wk_tuple,sel]
  |false=>
   simp only [hj,sel] at h1
   simp (maxSteps:=3000000) (maxDischargeDepth:=6) +contextual -implicitDefEqProofs only [amA M,amB,↓ae,↓aa,↓aj,↓ah,Nat.reduceBEq,Nat.reduceAdd,env,am,jq,amG,AV.cell,Nat.reduceMul,Nat.reduceLeDiff,lP M hN hR hl,Nat.zero_le,hk,h1,br,wk_tuple,sel]
theorem Tl(l:Lex)(a b:Str):∃ (n c:Int),QK l a b = .tuple [.int .i64 n,.int .u8 c]:=by
 unfold QK
 cases (!(dI l == 0))<;>cases decide (qn (fun x:az=>x.lem == a&&x.cls == b) 0 l.entries.l<0)<;>exact ⟨_,_,rfl⟩
def HD(l:Lex)(b:List au):Int:=sel (!(dI l == 0)) (dI l) (kN l b)
theorem OY(hN:bp E)(hE:kW E)(hG:NC E){l:Lex}(hl:l.ok 0){b:Sl au}(hb:b.ok 0 (au.ok 0))(H:List ag) :
  M.run vN [.agg l.row,.slice b.tag 2 (b.l.map au.row)] H=some (.ret (.int .u8 (HD l b.l)),H):=by
 rw [aL M hG.morph_Bundle rfl (c:=vU) rfl,vU]
 unfold HD
 cases hk:dI l == 0 with
 |false=>
  simp (maxSteps:=3000000) (maxDischargeDepth:=6) +contextual -implicitDefEqProofs only [amA M,amB,↓ae,↓aa,↓aj,↓ah,Nat.reduceBEq,Nat.reduceAdd,env,am,B7,amG,AV.cell,Nat.reduceMul,Nat.reduceLeDiff,zN M hN hE hl,Nat.zero_le,hk,br,sel]
 |true=>
  simp (maxSteps:=3000000) (maxDischargeDepth:=6) +contextual -implicitDefEqProofs only [amA M,amB,↓ae,↓aa,↓aj,↓ah,Nat.reduceBEq,Nat.reduceAdd,env,am,B7,amG,AV.cell,Nat.reduceMul,Nat.reduceLeDiff,zN M hN hE hl,AL M hE hl hb,Nat.zero_le,hk,br,sel]
end
section
attribute [local congr] aP dR bF aQ bq aZ aR aE aF a6 a7
variable{E:bL}(M:dK dW E)
def ND(l:Lex)(fe:List au)(x:az)(i:Nat)(s:bz)(o:List Str):List Str:=
 sel (!(CB l x s i == [])&&LV fe (FF x s) && !(o.any fun t=>CB l x s i == t)) (o++[CB l x s i]) o
def Eo(l:Lex)(fe:List au)(x:az):Nat→List bz→List Str→List Str
 |_,[],o=>o
 |i,s::t,o=>Eo l fe x (i+1) t (ND l fe x i s o)
def AS(l:Lex)(fe:List au)(lem:Str):List az→List Str→Bool→List Str×Bool
 |[],o,b=>(o,b)
 |x::t,o,b=>sel (x.lem == lem) (AS l fe lem t (Eo l fe x 0 (match xO l x.cls with | some c=>c.slots.l | none=>[]) o) true) (AS l fe lem t o b)
theorem Jx(l:Lex)(fe:List au)(x:az)(i:Nat)(s:bz)(o:List Str):(ND l fe x i s o).length≤o.length+1:=by
 unfold ND
 cases (!(CB l x s i == [])&&LV fe (FF x s) && !(o.any fun t=>CB l x s i == t))<;>simp [sel]
theorem FK(l:Lex)(fe:List au)(x:az):∀ (t:List bz) (i:Nat) (o:List Str),(Eo l fe x i t o).length≤o.length+t.length
 |[],_,_=>Nat.le_refl _
 |s::t,i,o=>by
  have h1:=FK l fe x t (i+1) (ND l fe x i s o)
  have h2:=Jx l fe x i s o
  rw [Eo,List.length_cons];omega
theorem Ss{H0:List ag}(n m:Nat)(T:TypeId)(x:ag)(L:List ag):bP (H0++[.tok n T,x]) (H0++(.tok m T::x::L)):=⟨by simp,fun i y hi hy=>by
 rw [List.length_append] at hi
 by_cases h:i<H0.length
 ·rw [List.getElem?_append_left h] at hy ⊢;exact .inl hy
 ·by_cases h2:i=H0.length
  ·subst h2
   rw [cf] at hy
   obtain rfl:=Option.some.inj hy
   exact .inr trivial
  ·obtain rfl:i=H0.length+1:=by simp at hi;omega
   rw [hp_getk] at hy ⊢
   exact .inl hy⟩
theorem CW(H0:List ag)(x y:ag)(L:List ag):(H0++(x::y::L)).take (H0.length+2)=H0++[x,y]:=by
 rw [show H0++(x::y::L)=(H0++[x,y])++L by simp,show H0.length+2=(H0++[x,y]).length by simp,List.take_left]
theorem gnl(hN:bp E)(hW:WdE M)(hE:kW E)(hS:SpE E)(hX:rU M)(hY:Jt M)(hB:s5 E)(hF:tn E)(hU:yn E){srt:List au→List au}(hO:Jk M srt)(hP:Srt srt){l:Lex}(hl:l.ok 0)(hk:dI l=0)
  {lem:Str}{fe:Sl au} (hfe:fe.ok 0 (au.ok 0)) {e:Nat}{x:az} (hx:l.entries.l[e]?=some x) {c:aW} (hc:DN l x c) {e2:Int}
  {H H0:List ag}{x0:ag}{p:Nat}{T:TypeId} (hp:H[p]?=some (.cells l.row T)) {fd:Bool} (k:List Fra):∀ (n i:Nat) (o:List Str) (He:List ag),He=H++[.tok (o.length*1) aD,x0]→i+n=c.slots.l.length→o.length+n≤10000→c.slots.l.length≤1000 →
  M.go eQ H0 (.c fp :: .lp ⟨(some [1,2,9,10,11,12,27,28,29,40,41]),[(10,1,aD)],true⟩ fp He :: .blk 2 :: .c (.lv [1,2,9,10,11,27,28,29])::k) (kv [(1,.str lem),(2,.slice fe.tag 2 (fe.l.map au.row)),(9,.ptr p 0),(10,.slice (.own H.length) 1 (o.map d9)),(11,.bool fd),(12,.int .i64 e),(27,.slice l.entries.tag 4 (l.entries.l.map az.row)),(28,.int .i64 l.entries.l.length),(29,.int .i64 e2),(40,.int .i64 c.slots.l.length),(41,.int .i64 i)]) (H++[.tok (o.length*1) aD,x0]) =
   M.go eQ H0 k (kv [(1,.str lem),(2,.slice fe.tag 2 (fe.l.map au.row)),(9,.ptr p 0),(10,.slice (.own H.length) 1 ((Eo l fe.l x i (c.slots.l.drop i) o).map d9)),(11,.bool fd),(27,.slice l.entries.tag 4 (l.entries.l.map az.row)),(28,.int .i64 l.entries.l.length),(29,.int .i64 e2)]) (H++[.tok ((Eo l fe.l x i (c.slots.l.drop i) o).length*1) aD,x0])
 |0,i,o,He,hHe,h,ho,hcl=>by
  have e:i=c.slots.l.length:=by omega
  subst e
  rw [List.drop_length,Eo]
  rw [ao M fp.eq_1]
  simp (maxSteps:=3000000) (maxDischargeDepth:=6) +contextual -implicitDefEqProofs only [amA M,amB,↓ae,↓aa,↓aj,↓ah,Nat.reduceBEq,Nat.reduceAdd,env,am,eg,Nat.lt_irrefl]
 |n+1,i,o,He,hHe,h,ho,hcl=>by
  subst hHe
  have hi:i<c.slots.l.length:=by omega
  have hs:c.slots.l[i]?=some c.slots.l[i]:=List.getElem?_eq_getElem hi
  have hd:c.slots.l.drop i=c.slots.l[i]::c.slots.l.drop (i+1):=List.drop_eq_getElem_cons hi
  generalize c.slots.l[i]=s at hs hd
  have hA:At l (e:Int) (i:Int) x c s:=TJ hk (by omega) (by simpa using hx) hc hs
  have hsl:=fun H=>Nw M hW hE hF hl e i H
  simp only [hA.sl hk,Option.getD_some,Option.isSome_some] at hsl
  have hf:=fun H=>Sq M hN hW hE hS hX hY hB hF hl hk hA H
  have hlf:=fun H=>OM M hU hO hP hF hA H
  have hsu:=fun H=>LW M hE hU (a:=fe) (b:=⟨.any,FF x s⟩) hfe.len (PH hA) H
  simp only at hsu
  have hp':=fun L=>bS (L:=L) hp
  have hpl:=(List.getElem?_eq_some_iff.1 hp).1
  have hct:=fun v H'=>vq M hE (v:=v) (tg:=.own H.length) (l:=o) (by simp only [aY];omega) H'
  have w1:Wk (H.length+2) (.ptr p 0) (.ptr p 0):=wk_ptr (by omega)
  have w2:Wk (H.length+2) (.slice fe.tag 2 (fe.l.map au.row)) (.slice fe.tag 2 (fe.l.map au.row)):=(hfe.mono (Nat.zero_le _) (fun _ h=>h.mono (Nat.zero_le _))).wk (fun _ h=>h.wk)
  have w3:Wk (H.length+2) (.slice l.entries.tag 4 (l.entries.l.map az.row)) (.slice l.entries.tag 4 (l.entries.l.map az.row)):=(hl.entries.mono (Nat.zero_le _) (fun _ h=>h.mono (Nat.zero_le _))).wk (fun _ h=>h.wk)
  have w4:=fun l:List Str=>wk_slice (n:=H.length+2) (esz:=1) (tag:=.own H.length) (show H.length<H.length+2 by omega) (FH _ l)
  have hws:=bn hi (show c.slots.l.length≤aY by simp only [aY];omega)
  have hcc:=fun m L=>Ss (H0:=H) (o.length*1) m aD x0 L
  rw [hd,Eo]
  have hgl:=Jx l fe.l x i s o
  have ih:=gnl hN hW hE hS hX hY hB hF hU hO hP hl hk (lem:=lem) hfe hx hc (e2:=e2) (H0:=H0) (x0:=x0) hp (fd:=fd) k n (i+1) (ND l fe.l x i s o) _ rfl (by omega) (by omega) hcl
  simp only [kv_cons,kv_nil] at ih ⊢
  revert ih
  unfold ND
  generalize CB l x s i=w at hf
  intro ih
  cases hw:w == [] with
  |true=>
   simp only [hw,Bool.not_true,Bool.false_and,sel] at ih ⊢
   rw [ao M fp.eq_1]
   simp (maxSteps:=3000000) (maxDischargeDepth:=6) +contextual -implicitDefEqProofs only [amA M,amB,↓ae,↓aa,↓aj,↓ah,Nat.reduceBEq,Nat.reduceAdd,env,am,eg,amG,AV.cell,Nat.reduceMul,Nat.reduceLeDiff,hi,hsl,hf,hw,hp',ih,w1,w2,w3,w4,hcc,CW,hws,br,gO]
  |false=>
   cases hsb:LV fe.l (FF x s) with
   |false=>
    simp only [hw,hsb,Bool.and_false,Bool.false_and,sel] at ih ⊢
    rw [hsb] at hsu
    rw [ao M fp.eq_1]
    simp (maxSteps:=3000000) (maxDischargeDepth:=6) +contextual -implicitDefEqProofs only [amA M,amB,↓ae,↓aa,↓aj,↓ah,Nat.reduceBEq,Nat.reduceAdd,env,am,eg,amG,AV.cell,Nat.reduceMul,Nat.reduceLeDiff,hi,hsl,hf,hw,hlf,hsu,hp',ih,w1,w2,w3,w4,hcc,CW,hws,br,gO]
   |true=>
    rw [hsb] at hsu
    have hct2:=fun H'=>hct w H'
    cases ha:o.any (fun t=>w == t) with
    |true=>
     simp only [hw,hsb,ha,Bool.not_true,Bool.and_false,sel] at ih ⊢
     rw [ha] at hct2
     rw [ao M fp.eq_1]
     simp (maxSteps:=3000000) (maxDischargeDepth:=6) +contextual -implicitDefEqProofs only [amA M,amB,↓ae,↓aa,↓aj,↓ah,Nat.reduceBEq,Nat.reduceAdd,env,am,eg,amG,AV.cell,Nat.reduceMul,Nat.reduceLeDiff,hi,hsl,hf,hw,hlf,hsu,hct2,hp',ih,w1,w2,w3,w4,hcc,CW,hws,br,gO]
    |false=>
     simp only [hw,hsb,ha,Bool.not_false,Bool.and_true,sel] at ih ⊢
     rw [ha] at hct2
     have ap:=fun L=>LZ (row:=d9) (l:=o) (x:=w) (r:=[.str w]) (sz:=1) (bytes:=16) (e:=aD) H L rfl rfl rfl (by omega) (by omega)
     rw [ao M fp.eq_1]
     simp (maxSteps:=3000000) (maxDischargeDepth:=6) +contextual -implicitDefEqProofs only [amA M,amB,↓ae,↓aa,↓aj,↓ah,Nat.reduceBEq,Nat.reduceAdd,env,am,eg,amG,AV.cell,Nat.reduceMul,Nat.reduceLeDiff,hi,hsl,hf,hw,hlf,hsu,hct2,ap,hp',ih,w1,w2,w3,w4,hcc,CW,hws,br,gO]
end
section
attribute [local congr] aP dR bF aQ bq aZ aR aE aF a6 a7
variable{E:bL}(M:dK dW E)
theorem Jy{l:Lex}(hk:dI l=0)(fe:List au)(lem:Str):∀ (t:List az) (o:List Str) (b:Bool),(∀ x∈t,∃ c,DN l x c)→(AS l fe lem t o b).1.length≤o.length+24*t.length
 |[],_,_,_=>Nat.le_refl _
 |x::t,o,b,h=>by
  obtain ⟨c,hc⟩:=h x (by simp)
  have hs:=GC hk hc
  have ht:=fun y hy=>h y (List.mem_cons_of_mem _ hy)
  rw [AS,hc.cls,List.length_cons]
  have h2:=FK l fe x c.slots.l 0 o
  cases x.lem == lem with
  |true=>have h1:=Jy hk fe lem t (Eo l fe x 0 c.slots.l o) true ht;simp only [sel];omega
  |false=>have h1:=Jy hk fe lem t o b ht;simp only [sel];omega
theorem Tm{l:Lex}(hk:dI l=0):∀ x∈l.entries.l,∃ c,DN l x c:=fun x hx=>by
 obtain ⟨k,hk2⟩:=List.getElem?_of_mem hx
 exact Jo hk hk2
theorem gno(hN:bp E)(hW:WdE M)(hE:kW E)(hS:SpE E)(hX:rU M)(hY:Jt M)(hB:s5 E)(hF:tn E)(hU:yn E){srt:List au→List au}(hO:Jk M srt)(hP:Srt srt){l:Lex}(hl:l.ok 0)(hk:dI l=0)
  {lem:Str}{fe:Sl au} (hfe:fe.ok 0 (au.ok 0)) {H H0:List ag}{p:Nat}{T:TypeId} (hp:H[p]?=some (.cells l.row T)) (k:List Fra):∀ (n i:Nat) (o:List Str) (fd:Bool) (He:List ag),He=H++[.tok (o.length*1) aD]→i+n=l.entries.l.length→o.length+24*n≤9000 →
  M.go eQ H0 (.c jb :: .lp ⟨(some [1,2,9,10,11,27,28,29]),[(10,1,aD)],true⟩ jb He :: .blk 0 :: .c (.lv [10,11])::k) (kv [(1,.str lem),(2,.slice fe.tag 2 (fe.l.map au.row)),(9,.ptr p 0),(10,.slice (.own H.length) 1 (o.map d9)),(11,.bool fd),(27,.slice l.entries.tag 4 (l.entries.l.map az.row)),(28,.int .i64 l.entries.l.length),(29,.int .i64 i)]) (H++[.tok (o.length*1) aD]) =
   M.go eQ H0 k (kv [(10,.slice (.own H.length) 1 ((AS l fe.l lem (l.entries.l.drop i) o fd).1.map d9)),(11,.bool (AS l fe.l lem (l.entries.l.drop i) o fd).2)]) (H++[.tok ((AS l fe.l lem (l.entries.l.drop i) o fd).1.length*1) aD])
 |0,i,o,fd,He,hHe,h,ho=>by
  have e:i=l.entries.l.length:=by omega
  subst e
  rw [List.drop_length,AS]
  rw [ao M jb.eq_1]
  simp (maxSteps:=3000000) (maxDischargeDepth:=6) +contextual -implicitDefEqProofs only [amA M,amB,↓ae,↓aa,↓aj,↓ah,Nat.reduceBEq,Nat.reduceAdd,env,am,eg,Nat.lt_irrefl]
 |n+1,i,o,fd,He,hHe,h,ho=>by
  subst hHe
  have hi:i<l.entries.l.length:=by omega
  have hx:l.entries.l[i]?=some l.entries.l[i]:=List.getElem?_eq_getElem hi
  have hd:l.entries.l.drop i=l.entries.l[i]::l.entries.l.drop (i+1):=List.drop_eq_getElem_cons hi
  generalize l.entries.l[i]=x at hx hd
  obtain ⟨c,hc⟩:=Jo hk hx
  have hsl:=GC hk hc
  have hp':=fun L=>bS (L:=L) hp
  have hpl:=(List.getElem?_eq_some_iff.1 hp).1
  have hss:=fun H=>QJ M hW hE hF hl (e:=(i:Int)) (by omega) (by simpa using hx) hc H
  have w1:Wk (H.length+1) (.ptr p 0) (.ptr p 0):=wk_ptr (by omega)
  have w2:Wk (H.length+1) (.slice fe.tag 2 (fe.l.map au.row)) (.slice fe.tag 2 (fe.l.map au.row)):=(hfe.mono (Nat.zero_le _) (fun _ h=>h.mono (Nat.zero_le _))).wk (fun _ h=>h.wk)
  have w3:Wk (H.length+1) (.slice l.entries.tag 4 (l.entries.l.map az.row)) (.slice l.entries.tag 4 (l.entries.l.map az.row)):=(hl.entries.mono (Nat.zero_le _) (fun _ h=>h.mono (Nat.zero_le _))).wk (fun _ h=>h.wk)
  have w4:=fun l:List Str=>wk_slice (n:=H.length+1) (esz:=1) (tag:=.own H.length) (by simp [Iy]) (FH _ l)
  have hws:=bn hi hl.entries.len
  rw [hd,AS,hc.cls]
  cases hb:x.lem == lem with
  |false=>
   have ih:=gno hN hW hE hS hX hY hB hF hU hO hP hl hk (lem:=lem) hfe (H0:=H0) hp k n (i+1) o fd _ rfl (by omega) (by omega)
   simp only [kv_cons,kv_nil,sel] at ih ⊢
   rw [ao M jb.eq_1]
   simp (maxSteps:=3000000) (maxDischargeDepth:=6) +contextual -implicitDefEqProofs only [amA M,amB,↓ae,↓aa,↓aj,↓ah,Nat.reduceBEq,Nat.reduceAdd,env,am,eg,amG,AV.cell,Nat.reduceMul,Nat.reduceLeDiff,hi,hx,hb,hp',ih,w1,w2,w3,w4,LX,Js,hws,aA hi,br,cD]
  |true=>
   have hgl:=FK l fe.l x c.slots.l 0 o
   have ih:=gno hN hW hE hS hX hY hB hF hU hO hP hl hk (lem:=lem) hfe (H0:=H0) hp k n (i+1) (Eo l fe.l x 0 c.slots.l o) true _ rfl (by omega) (by omega)
   have hin:=fun k=>gnl M hN hW hE hS hX hY hB hF hU hO hP hl hk (lem:=lem) hfe hx hc (e2:=(i:Int)) (H0:=H0) (x0:=.cells x.row bG) hp (fd:=true) k c.slots.l.length 0 o _ rfl (by omega) (by omega) (by omega)
   simp only [kv_cons,kv_nil,sel,Int.ofNat_zero,List.drop_zero] at ih hin ⊢
   rw [ao M jb.eq_1]
   simp (maxSteps:=3000000) (maxDischargeDepth:=6) +contextual -implicitDefEqProofs only [amA M,amB,↓ae,↓aa,↓aj,↓ah,Nat.reduceBEq,Nat.reduceAdd,env,am,eg,amG,AV.cell,Nat.reduceMul,Nat.reduceLeDiff,hi,hx,hb,hp',hss,hin,ih,w1,w2,w3,w4,LX,Js,hws,aA hi,br,cD]
def QM(l:Lex)(lem:Str)(fe:List au):AV:=
 sel (!(HD l fe == 0)) (.tuple [.slice .any 1 [],.int .u8 (HD l fe)]) (sel (AS l fe lem l.entries.l [] false).2 (.tuple [.slice .any 1 ((AS l fe lem l.entries.l [] false).1.map d9),.int .u8 0]) (.tuple [.slice .any 1 [],.int .u8 7]))
theorem K7{l:Lex}{fe:List au}(h:(HD l fe == 0)=true):dI l=0∧kN l fe=0:=by
 have h:=eq_of_beq h
 unfold HD at h
 cases hk:dI l == 0 with
 |true=>rw [hk] at h;exact ⟨eq_of_beq hk,h⟩
 |false=>rw [hk] at h;have h2:dI l=0:=h;rw [h2] at hk;cases hk
theorem Jz{l:Lex}(hk:dI l=0):l.entries.l.length≤128:=by
 have:=(oh (zQ hk).2.1).1
 omega
theorem L4(hN:bp E)(hW:WdE M)(hE:kW E)(hS:SpE E)(hX:rU M)(hY:Jt M)(hB:s5 E)(hF:tn E)(hU:yn E){srt:List au→List au}(hO:Jk M srt)(hP:Srt srt)(hG:NC E){l:Lex}(hl:l.ok 0){lem:Str}{fe:Sl au}(hfe:fe.ok 0 (au.ok 0))(H:List ag) :
  M.run tD [.agg l.row,.str lem,.slice fe.tag 2 (fe.l.map au.row)] H=some (.ret (QM l lem fe.l),H):=by
 rw [aL M hG.morph_Generate rfl (c:=tF) rfl,tF]
 unfold QM
 have hbu:=fun H=>OY M hN hE hG hl hfe H
 cases hb:HD l fe.l == 0 with
 |false=>
  simp (maxSteps:=3000000) (maxDischargeDepth:=6) +contextual -implicitDefEqProofs only [amA M,amB,↓ae,↓aa,↓aj,↓ah,Nat.reduceBEq,Nat.reduceAdd,env,am,eg,amG,AV.cell,Nat.reduceMul,Nat.reduceLeDiff,hbu,hb,br,ed,wk_tuple,sel]
 |true=>
  obtain ⟨hk,hb2⟩:=K7 hb
  have hel:=Jz hk
  have h1:=fun k=>gno M hN hW hE hS hX hY hB hF hU hO hP hl hk (lem:=lem) hfe (H:=H++[.cells l.row aq,.cells l.row aN]) (H0:=H) (p:=H.length+1) (T:=aN) (by rw [hp_getk];rfl) k l.entries.l.length 0 [] false _ rfl (by omega) (by simp;omega)
  simp only [kv_cons,kv_nil,Int.ofNat_zero,List.drop_zero,List.length_append,List.length_cons,List.length_nil,Nat.zero_add,Nat.reduceAdd,List.append_assoc,List.cons_append,List.nil_append,List.map_nil,Nat.zero_mul] at h1
  generalize AS l fe.l lem l.entries.l [] false=r at h1
  cases hr:r.2 with
  |true=>
   rw [hr] at h1
   simp only [sel]
   simp (maxSteps:=3000000) (maxDischargeDepth:=6) +contextual -implicitDefEqProofs only [amA M,amB,↓ae,↓aa,↓aj,↓ah,Nat.reduceBEq,Nat.reduceAdd,env,am,eg,amG,AV.cell,Nat.reduceMul,Nat.reduceLeDiff,hbu,hb,h1,br,LY,implies_true,cut_app,wk_tuple]
  |false=>
   rw [hr] at h1
   simp only [sel]
   simp (maxSteps:=3000000) (maxDischargeDepth:=6) +contextual -implicitDefEqProofs only [amA M,amB,↓ae,↓aa,↓aj,↓ah,Nat.reduceBEq,Nat.reduceAdd,env,am,eg,amG,AV.cell,Nat.reduceMul,Nat.reduceLeDiff,hbu,hb,h1,br,ed,cut_app,wk_tuple]
theorem QN{l:Lex}(hk:dI l=0){e q:Int}{x:az}{c:aW}{s:bz}(hA:At l e q x c s):AR l e q = .tuple [.slice .any 2 ((FF x s).map au.row),.int .u8 0]:=by
 simp [AR,Jp,Sg,Si,hk,hA.sl hk,hA.ent']
theorem U4(hN:bp E)(hR:tm E)(hQ:Ej E)(hF:tn E)(hU:yn E){l:Lex}(hl:l.ok 0)(hk:dI l=0)
  {lem:Str}{fe:Sl au} (hfe:fe.ok 0 (au.ok 0)) {e:Nat}{x:az} (hx:l.entries.l[e]?=some x) {c:aW} (hc:DN l x c)
  {H H0:List ag}{p:Nat}{T:TypeId} (hp:H[p]?=some (.cells l.row T)) {fd:Bool} (k:List Fra):∀ (n i:Nat) (o:List Str) (He:List ag),i+n=c.slots.l.length→o.length+n≤10000→c.slots.l.length≤1000 →
  M.go b7 H0 (.c cM :: .lp ⟨(some [1,2,3,10,11,12,13]),[(10,1,aD)],false⟩ cM He :: .blk 2 :: .c (.lv [1,2,3,10,11,12])::k) (kv [(1,.str lem),(2,.slice fe.tag 2 (fe.l.map au.row)),(3,.ptr p 0),(10,.slice (.own H.length) 1 (o.map d9)),(11,.bool fd),(12,.int .i64 e),(13,.int .i64 i)]) (H++[.tok (o.length*1) aD]) =
   M.go b7 H0 k (kv [(1,.str lem),(2,.slice fe.tag 2 (fe.l.map au.row)),(3,.ptr p 0),(10,.slice (.own H.length) 1 ((Eo l fe.l x i (c.slots.l.drop i) o).map d9)),(11,.bool fd),(12,.int .i64 e)]) (H++[.tok ((Eo l fe.l x i (c.slots.l.drop i) o).length*1) aD])
 |0,i,o,He,h,ho,hcl=>by
  have e0:i=c.slots.l.length:=by omega
  subst e0
  have hp':=fun L=>bS (L:=L) hp
  have hss:=fun H=>Jw M hR hF hl (e:=(e:Int)) (by omega) (by simpa using hx) hc H
  rw [List.drop_length,Eo]
  rw [ao M cM.eq_1]
  simp (maxSteps:=3000000) (maxDischargeDepth:=6) +contextual -implicitDefEqProofs only [amA M,amB,↓ae,↓aa,↓aj,↓ah,Nat.reduceBEq,Nat.reduceAdd,env,am,bC,Nat.lt_irrefl,hp',hss,br]
 |n+1,i,o,He,h,ho,hcl=>by
  have hi:i<c.slots.l.length:=by omega
  have hs:c.slots.l[i]?=some c.slots.l[i]:=List.getElem?_eq_getElem hi
  have hd:c.slots.l.drop i=c.slots.l[i]::c.slots.l.drop (i+1):=List.drop_eq_getElem_cons hi
  generalize c.slots.l[i]=s at hs hd
  have hA:At l (e:Int) (i:Int) x c s:=TJ hk (by omega) (by simpa using hx) hc hs
  have hss:=fun H=>Jw M hR hF hl (e:=(e:Int)) (by omega) (by simpa using hx) hc H
  have hft:=fun H=>ON M hN hR hF hl e i H
  rw [QN hk hA] at hft
  have hf:=fun H=>QI M hN hR hQ hF hl hk hA H
  have hsu:=fun H=>J3 M hU (a:=fe) (b:=⟨.any,FF x s⟩) hfe.len (PH hA) H
  simp only at hsu
  have hp':=fun L=>bS (L:=L) hp
  have hct:=fun v H'=>HP M hR (v:=v) (tg:=.own H.length) (l:=o) (by simp only [aY];omega) H'
  have hws:=bn hi (show c.slots.l.length≤aY by simp only [aY];omega)
  rw [hd,Eo]
  have hgl:=Jx l fe.l x i s o
  have ih:=fun He=>U4 hN hR hQ hF hU hl hk (lem:=lem) hfe hx hc (H0:=H0) hp (fd:=fd) k n (i+1) (ND l fe.l x i s o) He (by omega) (by omega) hcl
  simp only [kv_cons,kv_nil] at ih ⊢
  revert ih
  unfold ND
  generalize CB l x s i=w at hf
  intro ih
  cases hw:w == [] with
  |true=>
   simp only [hw,Bool.not_true,Bool.false_and,sel] at ih ⊢
   rw [ao M cM.eq_1]
   simp (maxSteps:=3000000) (maxDischargeDepth:=6) +contextual -implicitDefEqProofs only [amA M,amB,↓ae,↓aa,↓aj,↓ah,Nat.reduceBEq,Nat.reduceAdd,env,am,bC,amG,AV.cell,Nat.reduceMul,Nat.reduceLeDiff,hi,hss,hft,hf,hw,hp',ih,hws,br,gO]
  |false=>
   cases hsb:LV fe.l (FF x s) with
   |false=>
    simp only [hw,hsb,Bool.and_false,Bool.false_and,sel] at ih ⊢
    rw [hsb] at hsu
    rw [ao M cM.eq_1]
    simp (maxSteps:=3000000) (maxDischargeDepth:=6) +contextual -implicitDefEqProofs only [amA M,amB,↓ae,↓aa,↓aj,↓ah,Nat.reduceBEq,Nat.reduceAdd,env,am,bC,amG,AV.cell,Nat.reduceMul,Nat.reduceLeDiff,hi,hss,hft,hf,hw,hsu,hp',ih,hws,br,gO]
   |true=>
    rw [hsb] at hsu
    have hct2:=fun H'=>hct w H'
    cases ha:o.any (fun t=>w == t) with
    |true=>
     simp only [hw,hsb,ha,Bool.not_true,Bool.and_false,sel] at ih ⊢
     rw [ha] at hct2
     rw [ao M cM.eq_1]
     simp (maxSteps:=3000000) (maxDischargeDepth:=6) +contextual -implicitDefEqProofs only [amA M,amB,↓ae,↓aa,↓aj,↓ah,Nat.reduceBEq,Nat.reduceAdd,env,am,bC,amG,AV.cell,Nat.reduceMul,Nat.reduceLeDiff,hi,hss,hft,hf,hw,hsu,hct2,hp',ih,hws,br,gO]
    |false=>
     simp only [hw,hsb,ha,Bool.not_false,Bool.and_true,sel] at ih ⊢
     rw [ha] at hct2
     have ap:=Rz (row:=d9) (l:=o) (x:=w) (r:=[.str w]) (sz:=1) (bytes:=16) (e:=aD) H rfl rfl rfl (by omega) (by omega)
     rw [ao M cM.eq_1]
     simp (maxSteps:=3000000) (maxDischargeDepth:=6) +contextual -implicitDefEqProofs only [amA M,amB,↓ae,↓aa,↓aj,↓ah,Nat.reduceBEq,Nat.reduceAdd,env,am,bC,amG,AV.cell,Nat.reduceMul,Nat.reduceLeDiff,hi,hss,hft,hf,hw,hsu,hct2,ap,hp',ih,hws,br,gO]
theorem Un(hN:bp E)(hR:tm E)(hQ:Ej E)(hF:tn E)(hU:yn E){l:Lex}(hl:l.ok 0)(hk:dI l=0)
  {lem:Str}{fe:Sl au} (hfe:fe.ok 0 (au.ok 0)) {H H0:List ag}{p:Nat}{T:TypeId} (hp:H[p]?=some (.cells l.row T)) (k:List Fra):∀ (n i:Nat) (o:List Str) (fd:Bool) (He:List ag),i+n=l.entries.l.length→o.length+24*n≤9000 →
  M.go b7 H0 (.c eh :: .lp ⟨(some [1,2,3,10,11,12]),[(10,1,aD)],false⟩ eh He :: .blk 0 :: .c (.lv [10,11])::k) (kv [(1,.str lem),(2,.slice fe.tag 2 (fe.l.map au.row)),(3,.ptr p 0),(10,.slice (.own H.length) 1 (o.map d9)),(11,.bool fd),(12,.int .i64 i)]) (H++[.tok (o.length*1) aD]) =
   M.go b7 H0 k (kv [(10,.slice (.own H.length) 1 ((AS l fe.l lem (l.entries.l.drop i) o fd).1.map d9)),(11,.bool (AS l fe.l lem (l.entries.l.drop i) o fd).2)]) (H++[.tok ((AS l fe.l lem (l.entries.l.drop i) o fd).1.length*1) aD])
 |0,i,o,fd,He,h,ho=>by
  have e:i=l.entries.l.length:=by omega
  subst e
  have hp':=fun L=>bS (L:=L) hp
  rw [List.drop_length,AS]
  rw [ao M eh.eq_1]
  simp (maxSteps:=3000000) (maxDischargeDepth:=6) +contextual -implicitDefEqProofs only [amA M,amB,↓ae,↓aa,↓aj,↓ah,Nat.reduceBEq,Nat.reduceAdd,env,am,bC,Nat.lt_irrefl,hp',br]
 |n+1,i,o,fd,He,h,ho=>by
  have hi:i<l.entries.l.length:=by omega
  have hx:l.entries.l[i]?=some l.entries.l[i]:=List.getElem?_eq_getElem hi
  have hd:l.entries.l.drop i=l.entries.l[i]::l.entries.l.drop (i+1):=List.drop_eq_getElem_cons hi
  generalize l.entries.l[i]=x at hx hd
  obtain ⟨c,hc⟩:=Jo hk hx
  have hsl:=GC hk hc
  have hp':=fun L=>bS (L:=L) hp
  have hws:=bn hi hl.entries.len
  rw [hd,AS,hc.cls]
  cases hb:x.lem == lem with
  |false=>
   have ih:=fun He=>Un hN hR hQ hF hU hl hk (lem:=lem) hfe (H0:=H0) hp k n (i+1) o fd He (by omega) (by omega)
   simp only [kv_cons,kv_nil,sel] at ih ⊢
   rw [ao M eh.eq_1]
   simp (maxSteps:=3000000) (maxDischargeDepth:=6) +contextual -implicitDefEqProofs only [amA M,amB,↓ae,↓aa,↓aj,↓ah,Nat.reduceBEq,Nat.reduceAdd,env,am,bC,amG,AV.cell,Nat.reduceMul,Nat.reduceLeDiff,hi,hx,hb,hp',ih,hws,aA hi,br,cD]
  |true=>
   have hgl:=FK l fe.l x c.slots.l 0 o
   have ih:=fun He=>Un hN hR hQ hF hU hl hk (lem:=lem) hfe (H0:=H0) hp k n (i+1) (Eo l fe.l x 0 c.slots.l o) true He (by omega) (by omega)
   have hin:=fun k He=>U4 M hN hR hQ hF hU hl hk (lem:=lem) hfe hx hc (H0:=H0) hp (fd:=true) k c.slots.l.length 0 o He (by omega) (by omega) (by omega)
   simp only [kv_cons,kv_nil,sel,Int.ofNat_zero,List.drop_zero] at ih hin ⊢
   rw [ao M eh.eq_1]
   simp (maxSteps:=3000000) (maxDischargeDepth:=6) +contextual -implicitDefEqProofs only [amA M,amB,↓ae,↓aa,↓aj,↓ah,Nat.reduceBEq,Nat.reduceAdd,env,am,bC,amG,AV.cell,Nat.reduceMul,Nat.reduceLeDiff,hi,hx,hb,hp',hin,ih,hws,aA hi,br,cD]
theorem J6(hN:bp E)(hR:tm E)(hQ:Ej E)(hF:tn E)(hU:yn E)(hG:NC E){l:Lex}(hl:l.ok 0){lem:Str}{fe:Sl au}(hfe:fe.ok 0 (au.ok 0))(H:List ag) :
  M.run lF [.agg l.row,.str lem,.slice fe.tag 2 (fe.l.map au.row)] H=some (.ret (QM l lem fe.l),H):=by
 rw [aL M hG.truchmanref02_Generate rfl (c:=lH) rfl,lH]
 unfold QM
 cases hk:dI l == 0 with
 |false=>
  have e1:HD l fe.l=dI l:=by simp [HD,hk,sel]
  rw [e1,hk]
  simp (maxSteps:=3000000) (maxDischargeDepth:=6) +contextual -implicitDefEqProofs only [amA M,amB,↓ae,↓aa,↓aj,↓ah,Nat.reduceBEq,Nat.reduceAdd,env,am,bC,amG,AV.cell,Nat.reduceMul,Nat.reduceLeDiff,lP M hN hR hl,Nat.zero_le,hk,br,ed,wk_tuple,sel]
 |true=>
  have e1:HD l fe.l=kN l fe.l:=by simp [HD,hk,sel]
  rw [e1]
  cases hb:kN l fe.l == 0 with
  |false=>
   simp (maxSteps:=3000000) (maxDischargeDepth:=6) +contextual -implicitDefEqProofs only [amA M,amB,↓ae,↓aa,↓aj,↓ah,Nat.reduceBEq,Nat.reduceAdd,env,am,bC,amG,AV.cell,Nat.reduceMul,Nat.reduceLeDiff,lP M hN hR hl,pN M hR hl hfe.len,Nat.zero_le,hk,hb,br,ed,wk_tuple,sel]
  |true=>
   have hk0:=eq_of_beq hk
   have hel:=Jz hk0
   have h1:=fun k He=>Un M hN hR hQ hF hU hl hk0 (lem:=lem) hfe (H:=H++[.cells l.row aq]) (H0:=H) (p:=H.length) (T:=aq) (by rw [cf];rfl) k l.entries.l.length 0 [] false He (by omega) (by simp;omega)
   simp only [kv_cons,kv_nil,Int.ofNat_zero,List.drop_zero,List.length_append,List.length_cons,List.length_nil,Nat.zero_add,Nat.reduceAdd,List.append_assoc,List.cons_append,List.nil_append,List.map_nil,Nat.zero_mul] at h1
   generalize AS l fe.l lem l.entries.l [] false=r at h1
   cases hr:r.2 with
   |true=>
    rw [hr] at h1
    simp only [sel]
    simp (maxSteps:=3000000) (maxDischargeDepth:=6) +contextual -implicitDefEqProofs only [amA M,amB,↓ae,↓aa,↓aj,↓ah,Nat.reduceBEq,Nat.reduceAdd,env,am,bC,amG,AV.cell,Nat.reduceMul,Nat.reduceLeDiff,lP M hN hR hl,pN M hR hl hfe.len,Nat.zero_le,hk,hb,h1,br,LY,implies_true,cut_app,wk_tuple]
   |false=>
    rw [hr] at h1
    simp only [sel]
    simp (maxSteps:=3000000) (maxDischargeDepth:=6) +contextual -implicitDefEqProofs only [amA M,amB,↓ae,↓aa,↓aj,↓ah,Nat.reduceBEq,Nat.reduceAdd,env,am,bC,amG,AV.cell,Nat.reduceMul,Nat.reduceLeDiff,lP M hN hR hl,pN M hR hl hfe.len,Nat.zero_le,hk,hb,h1,br,ed,cut_app,wk_tuple]
theorem Tn(l:Lex)(lem:Str)(fe:List au):∃ (r:List Str) (c:Int),QM l lem fe = .tuple [.slice .any 1 (r.map d9),.int .u8 c]∧r.length≤aY:=by
 unfold QM
 cases hb:HD l fe == 0 with
 |false=>exact ⟨[],_,rfl,by simp⟩
 |true=>
  obtain ⟨hk,_⟩:=K7 hb
  have h1:=Jy hk fe lem l.entries.l [] false (Tm hk)
  have h2:=Jz hk
  simp at h1
  cases hr:(AS l fe lem l.entries.l [] false).2 with
  |true=>exact ⟨_,0,rfl,by simp only [aY];omega⟩
  |false=>exact ⟨[],_,rfl,by simp⟩
theorem Ep(hN:bp E)(hW:WdE M)(hE:kW E)(hR:tm E)(hg:Ei E)(hS:SpE E)(hX:rU M)(hY:Jt M)(hB:s5 E)(hQ:Ej E)(hF:tn E)(hU:yn E){srt:List au→List au}(hO:Jk M srt)(hP:Srt srt)(hG:NC E)(h:E.fn i9=some dk)
  {l:Lex} (hl:l.ok 0) {x:Ask} (hx:x.ok 0) {H:List ag} (hlv:∀ H,M.run dw [] H=some (.ret (.bool true),H)) :
  M.run i9 [.agg l.row,.agg x.row] H=some (.ret (.bool true),H):=by
 rw [aL M h rfl (c:=ja) rfl,ja]
 have a1:=fun H=>Sr M hN hE hG hl x.lem x.cls H
 have a2:=fun H=>QL M hN hR hG hl x.lem x.cls H
 have b1:=fun H=>L4 M hN hW hE hS hX hY hB hF hU hO hP hG hl (lem:=x.lem) hx.feats H
 have b2:=fun H=>J6 M hN hR hQ hF hU hG hl (lem:=x.lem) hx.feats H
 obtain ⟨n,c,e⟩:=Tl l x.lem x.cls
 obtain ⟨r,d,e2,hr⟩:=Tn l x.lem x.feats.l
 simp only [e,e2] at a1 a2 b1 b2
 have s2:=fun H=>HC M hF (ta:=.any) (tb:=.any) hr H
 simp (maxSteps:=3000000) (maxDischargeDepth:=6) +contextual -implicitDefEqProofs only [amA M,amB,↓ae,↓aa,↓aj,↓ah,Nat.reduceBEq,Nat.reduceAdd,env,am,tE,amG,AV.cell,Nat.reduceMul,Nat.reduceLeDiff,hlv,Qw M hg hl,Nat.zero_le,a1,a2,b1,b2,s2,br,Vh,beq_self_eq_true,cut_app]
end
section
open Go.ChangeShapes Go.WideShapes
structure jJ (P:Program):Prop where
 u_string:P.underlying aD=some .string
 c_string:P.cellsOf aD=1
 f_Feat:fieldsOf P aU=some [(0,aD),(1,aD)]
 c_Feat:P.cellsOf aU=2
 u_sl_string:P.underlying xK=some (.slice aD)
 c_sl_string:P.cellsOf xK=1
 f_Trait:fieldsOf P gf=some [(0,aD),(1,xK)]
 c_Trait:P.cellsOf gf=2
 u_sl_Feat:P.underlying dJ=some (.slice aU)
 c_sl_Feat:P.cellsOf dJ=1
 u_int:P.underlying zd=some (.int .i64)
 c_int:P.cellsOf zd=1
 f_Slot:fieldsOf P bQ=some [(0,zd),(1,aD),(2,aD),(3,dJ)]
 c_Slot:P.cellsOf bQ=4
 u_sl_Slot:P.underlying tY=some (.slice bQ)
 c_sl_Slot:P.cellsOf tY=1
 f_Class:fieldsOf P b6=some [(0,aD),(1,tY)]
 c_Class:P.cellsOf b6=2
 f_Irreg:fieldsOf P dQ=some [(0,zd),(1,aD)]
 c_Irreg:P.cellsOf dQ=2
 u_sl_Irreg:P.underlying m6=some (.slice dQ)
 c_sl_Irreg:P.cellsOf m6=1
 f_Entry:fieldsOf P bG=some [(0,aD),(1,aD),(2,dJ),(3,m6)]
 c_Entry:P.cellsOf bG=4
 f_Spell:fieldsOf P cY=some [(0,aD),(1,aD),(2,aD),(3,aD)]
 c_Spell:P.cellsOf cY=4
 f_Link:fieldsOf P m7=some [(0,aD),(1,aD),(2,dJ)]
 c_Link:P.cellsOf m7=3
 u_sl_Trait:P.underlying sk=some (.slice gf)
 c_sl_Trait:P.cellsOf sk=1
 u_sl_Class:P.underlying sm=some (.slice b6)
 c_sl_Class:P.cellsOf sm=1
 u_sl_Entry:P.underlying sn=some (.slice bG)
 c_sl_Entry:P.cellsOf sn=1
 u_sl_Spell:P.underlying so=some (.slice cY)
 c_sl_Spell:P.cellsOf so=1
 u_sl_Link:P.underlying tX=some (.slice m7)
 c_sl_Link:P.cellsOf tX=1
 f_Lex:fieldsOf P aq=some [(0,aD),(1,sk),(2,sm),(3,sn),(4,so),(5,tX)]
 c_Lex:P.cellsOf aq=6
 f_First:fieldsOf P rA=some [(0,zd),(1,zd),(2,zd)]
 c_First:P.cellsOf rA=3
 u_sl_First:P.underlying vS=some (.slice rA)
 c_sl_First:P.cellsOf vS=1
 f_Analysis:fieldsOf P kr=some [(0,vS),(1,zd),(2,zd)]
 c_Analysis:P.cellsOf kr=3
 f_Ask:fieldsOf P iU=some [(0,aD),(1,aD),(2,dJ),(3,zd),(4,zd)]
 c_Ask:P.cellsOf iU=5
section
variable{P:Program}{W:World}{G:Nat→Option (List AV)}
theorem QO(h:jJ P):mM P W G aU au.row (au.ok 0):=
 jh h.f_Feat h.c_Feat (bo (fI h.u_string) h.c_string (bo (fI h.u_string) h.c_string (lD _))) (fun a=>⟨a.1,a.2.1⟩) (fun a=>rfl) (fun a ha=>⟨ha.1,ha.2.1⟩)
theorem JA(h:jJ P):mM P W G xK (fun s:Sl Str=>[.slice s.tag 1 (s.l.map d9)]) (fun s=>s.ok 0 fun s=>s.length≤aY):=
 k8 h.u_sl_string h.c_string (by decide) (fun _=>rfl) (fI h.u_string)
theorem OZ(h:jJ P):mM P W G gf bA.row (bA.ok 0):=
 jh h.f_Trait h.c_Trait (bo (fI h.u_string) h.c_string (bo (JA h) h.c_sl_string (lD _))) (fun a=>⟨a.1,a.2.1⟩) (fun a=>rfl) (fun a ha=>⟨ha.1,ha.2.1⟩)
theorem vt(h:jJ P):mM P W G dJ (fun s:Sl au=>[.slice s.tag 2 (s.l.map au.row)]) (fun s=>s.ok 0 (au.ok 0)):=
 k8 h.u_sl_Feat h.c_Feat (by decide) (fun _=>by simp only [mL]) (QO h)
theorem QP(h:jJ P):mM P W G bQ bz.row (bz.ok 0):=
 jh h.f_Slot h.c_Slot (bo (CO h.u_int) h.c_int (bo (fI h.u_string) h.c_string (bo (fI h.u_string) h.c_string (bo (vt h) h.c_sl_Feat (lD _))))) (fun a=>⟨a.1,a.2.1,a.2.2.1,a.2.2.2.1⟩) (fun a=>rfl) (fun a ha=>⟨ha.1,ha.2.1,ha.2.2.1,ha.2.2.2.1⟩)
theorem L5(h:jJ P):mM P W G tY (fun s:Sl bz=>[.slice s.tag 4 (s.l.map bz.row)]) (fun s=>s.ok 0 (bz.ok 0)):=
 k8 h.u_sl_Slot h.c_Slot (by decide) (fun _=>by simp only [gO]) (QP h)
theorem O0(h:jJ P):mM P W G b6 aW.row (aW.ok 0):=
 jh h.f_Class h.c_Class (bo (fI h.u_string) h.c_string (bo (L5 h) h.c_sl_Slot (lD _))) (fun a=>⟨a.1,a.2.1⟩) (fun a=>rfl) (fun a ha=>⟨ha.1,ha.2.1⟩)
theorem O1(h:jJ P):mM P W G dQ bT.row (bT.ok 0):=
 jh h.f_Irreg h.c_Irreg (bo (CO h.u_int) h.c_int (bo (fI h.u_string) h.c_string (lD _))) (fun a=>⟨a.1,a.2.1⟩) (fun a=>rfl) (fun a ha=>⟨ha.1,ha.2.1⟩)
theorem J7(h:jJ P):mM P W G m6 (fun s:Sl bT=>[.slice s.tag 2 (s.l.map bT.row)]) (fun s=>s.ok 0 (bT.ok 0)):=
 k8 h.u_sl_Irreg h.c_Irreg (by decide) (fun _=>by simp only [Aj]) (O1 h)
theorem O2(h:jJ P):mM P W G bG az.row (az.ok 0):=
 jh h.f_Entry h.c_Entry (bo (fI h.u_string) h.c_string (bo (fI h.u_string) h.c_string (bo (vt h) h.c_sl_Feat (bo (J7 h) h.c_sl_Irreg (lD _))))) (fun a=>⟨a.1,a.2.1,a.2.2.1,a.2.2.2.1⟩) (fun a=>rfl) (fun a ha=>⟨ha.1,ha.2.1,ha.2.2.1,ha.2.2.2.1⟩)
theorem O3(h:jJ P):mM P W G cY bt.row (bt.ok 0):=
 jh h.f_Spell h.c_Spell (bo (fI h.u_string) h.c_string (bo (fI h.u_string) h.c_string (bo (fI h.u_string) h.c_string (bo (fI h.u_string) h.c_string (lD _))))) (fun a=>⟨a.1,a.2.1,a.2.2.1,a.2.2.2.1⟩) (fun a=>rfl) (fun a ha=>⟨ha.1,ha.2.1,ha.2.2.1,ha.2.2.2.1⟩)
theorem QQ(h:jJ P):mM P W G m7 ez.row (ez.ok 0):=
 jh h.f_Link h.c_Link (bo (fI h.u_string) h.c_string (bo (fI h.u_string) h.c_string (bo (vt h) h.c_sl_Feat (lD _)))) (fun a=>⟨a.1,a.2.1,a.2.2.1⟩) (fun a=>rfl) (fun a ha=>⟨ha.1,ha.2.1,ha.2.2.1⟩)
theorem J8(h:jJ P):mM P W G sk (fun s:Sl bA=>[.slice s.tag 2 (s.l.map bA.row)]) (fun s=>s.ok 0 (bA.ok 0)):=
 k8 h.u_sl_Trait h.c_Trait (by decide) (fun _=>by simp only [oo]) (OZ h)
theorem J9(h:jJ P):mM P W G sm (fun s:Sl aW=>[.slice s.tag 2 (s.l.map aW.row)]) (fun s=>s.ok 0 (aW.ok 0)):=
 k8 h.u_sl_Class h.c_Class (by decide) (fun _=>by simp only [gL]) (O0 h)
theorem Ka(h:jJ P):mM P W G sn (fun s:Sl az=>[.slice s.tag 4 (s.l.map az.row)]) (fun s=>s.ok 0 (az.ok 0)):=
 k8 h.u_sl_Entry h.c_Entry (by decide) (fun _=>by simp only [cD]) (O2 h)
theorem Kb(h:jJ P):mM P W G so (fun s:Sl bt=>[.slice s.tag 4 (s.l.map bt.row)]) (fun s=>s.ok 0 (bt.ok 0)):=
 k8 h.u_sl_Spell h.c_Spell (by decide) (fun _=>by simp only [lC]) (O3 h)
theorem L6(h:jJ P):mM P W G tX (fun s:Sl ez=>[.slice s.tag 3 (s.l.map ez.row)]) (fun s=>s.ok 0 (ez.ok 0)):=
 k8 h.u_sl_Link h.c_Link (by decide) (fun _=>by simp only [KA]) (QQ h)
theorem St(h:jJ P):mM P W G aq Lex.row (Lex.ok 0):=
 jh h.f_Lex h.c_Lex (bo (fI h.u_string) h.c_string (bo (J8 h) h.c_sl_Trait (bo (J9 h) h.c_sl_Class (bo (Ka h) h.c_sl_Entry (bo (Kb h) h.c_sl_Spell (bo (L6 h) h.c_sl_Link (lD _))))))) (fun a=>⟨a.1,a.2.1,a.2.2.1,a.2.2.2.1,a.2.2.2.2.1,a.2.2.2.2.2.1⟩) (fun a=>rfl) (fun a ha=>⟨ha.1,ha.2.1,ha.2.2.1,ha.2.2.2.1,ha.2.2.2.2.1,ha.2.2.2.2.2.1⟩)
theorem Su(h:jJ P):mM P W G iU Ask.row (Ask.ok 0):=
 jh h.f_Ask h.c_Ask (bo (fI h.u_string) h.c_string (bo (fI h.u_string) h.c_string (bo (vt h) h.c_sl_Feat (bo (CO h.u_int) h.c_int (bo (CO h.u_int) h.c_int (lD _)))))) (fun a=>⟨a.1,a.2.1,a.2.2.1,a.2.2.2.1,a.2.2.2.2.1⟩) (fun a=>rfl) (fun a ha=>⟨ha.1,ha.2.1,ha.2.2.1,ha.2.2.2.1,ha.2.2.2.2.1⟩)
end
end
section
open Go.Shelf Go.RowKit Go.Lib Go.Sort Go.Proofs
def To:Go.Shelf.Ren:=⟨fun | 6=>166 | 15=>190 | 14=>189 | 28=>217 | 29=>203 | 20=>209 | 21=>210 | 22=>211 | 23=>212 | 24=>213 | 25=>214 | 26=>215 | 27=>216 | 46=>230 | 47=>231 | 48=>232 | 49=>233 | 50=>234 | 57=>238 | n=>n,fun | 22=>44 | 24=>55 | 25=>209 | 3=>3 | 39=>229 | 0=>0 | 53=>235 | 55=>158 | 4=>4 | 46=>241 | 45=>240 | 50=>141 | 5=>5 | 9=>9 | 66=>260 | 70=>264 | 76=>273 | 77=>274 | n=>n,fun | n=>n⟩
theorem L7:Go.Proofs.SlLaysF0.n6 Tryz.prog To where
 mixed:=by kernel_rfl
 f6:=⟨Tryz.f166.name,by kernel_rfl,Tryz.func166.trans (congrArg some (by kernel_rfl))⟩
 f14:=⟨Tryz.f189.name,by kernel_rfl,Tryz.func189.trans (congrArg some (by kernel_rfl))⟩
 f15:=Tryz.func190.trans (congrArg some (by kernel_rfl))
 f20:=⟨Tryz.f209.name,by kernel_rfl,Tryz.func209.trans (congrArg some (by kernel_rfl))⟩
 f21:=⟨Tryz.f210.name,by kernel_rfl,Tryz.func210.trans (congrArg some (by kernel_rfl))⟩
 f22:=⟨Tryz.f211.name,by kernel_rfl,Tryz.func211.trans (congrArg some (by kernel_rfl))⟩
 f23:=⟨Tryz.f212.name,by kernel_rfl,Tryz.func212.trans (congrArg some (by kernel_rfl))⟩
 f24:=⟨Tryz.f213.name,by kernel_rfl,Tryz.func213.trans (congrArg some (by kernel_rfl))⟩
 f25:=⟨Tryz.f214.name,by kernel_rfl,Tryz.func214.trans (congrArg some (by kernel_rfl))⟩
 f26:=⟨Tryz.f215.name,by kernel_rfl,Tryz.func215.trans (congrArg some (by kernel_rfl))⟩
 f27:=⟨Tryz.f216.name,by kernel_rfl,Tryz.func216.trans (congrArg some (by kernel_rfl))⟩
 f28:=Tryz.func217.trans (congrArg some (by kernel_rfl))
 f29:=Tryz.func203.trans (congrArg some (by kernel_rfl))
 f46:=⟨Tryz.f230.name,by kernel_rfl,Tryz.func230.trans (congrArg some (by kernel_rfl))⟩
 f47:=Tryz.func231.trans (congrArg some (by kernel_rfl))
 f48:=Tryz.func232.trans (congrArg some (by kernel_rfl))
 f49:=⟨Tryz.f233.name,by kernel_rfl,Tryz.func233.trans (congrArg some (by kernel_rfl))⟩
 f50:=⟨Tryz.f234.name,by kernel_rfl,Tryz.func234.trans (congrArg some (by kernel_rfl))⟩
 f57:=⟨Tryz.f238.name,by kernel_rfl,Tryz.func238.trans (congrArg some (by kernel_rfl))⟩
 t0:=Tryz.underlying0
 a0:=Tryz.isAgg0
 z0:=Tryz.sizeOf0
 v0:=Tryz.zeroValue0
 t3:=Tryz.underlying3
 a3:=Tryz.isAgg3
 z3:=Tryz.sizeOf3
 v3:=Tryz.zeroValue3
 t4:=Tryz.underlying4
 a4:=Tryz.isAgg4
 z4:=Tryz.sizeOf4
 v4:=Tryz.zeroValue4
 t5:=Tryz.underlying5
 a5:=Tryz.isAgg5
 z5:=Tryz.sizeOf5
 v5:=Tryz.zeroValue5
 t9:=Tryz.underlying9
 a9:=Tryz.isAgg9
 z9:=Tryz.sizeOf9
 v9:=Tryz.zeroValue9
 t22:=Tryz.underlying44
 a22:=Tryz.isAgg44
 z22:=Tryz.sizeOf44
 v22:=Tryz.zeroValue44
 t25:=Tryz.underlying209
 a25:=Tryz.isAgg209
 z25:=Tryz.sizeOf209
 v25:=Tryz.zeroValue209
 t39:=Tryz.underlying229
 a39:=Tryz.isAgg229
 z39:=Tryz.sizeOf229
 v39:=Tryz.zeroValue229
 t45:=Tryz.underlying240
 a45:=Tryz.isAgg240
 z45:=Tryz.sizeOf240
 v45:=Tryz.zeroValue240
 t46:=Tryz.underlying241
 a46:=Tryz.isAgg241
 z46:=Tryz.sizeOf241
 v46:=Tryz.zeroValue241
 t50:=Tryz.underlying141
 a50:=Tryz.isAgg141
 z50:=Tryz.sizeOf141
 v50:=Tryz.zeroValue141
 t53:=Tryz.underlying235
 a53:=Tryz.isAgg235
 z53:=Tryz.sizeOf235
 v53:=Tryz.zeroValue235
 t55:=Tryz.underlying158
 a55:=Tryz.isAgg158
 z55:=Tryz.sizeOf158
 v55:=Tryz.zeroValue158
 t66:=Tryz.underlying260
 a66:=Tryz.isAgg260
 z66:=Tryz.sizeOf260
 v66:=Tryz.zeroValue260
 t70:=Tryz.underlying264
 a70:=Tryz.isAgg264
 z70:=Tryz.sizeOf264
 v70:=Tryz.zeroValue264
 t76:=Tryz.underlying273
 a76:=Tryz.isAgg273
 z76:=Tryz.sizeOf273
 v76:=Tryz.zeroValue273
 t77:=Tryz.underlying274
 a77:=Tryz.isAgg274
 z77:=Tryz.sizeOf274
 v77:=Tryz.zeroValue274
set_option maxHeartbeats 2000000 in
theorem Tp(a b:ByteArray)(w:World):Calls Tryz.prog 191 #[.string a,.string b] w fun e w'=>e = .returned (.int .i64 (Lib.compareBytes a.data.toList b.data.toList))∧w'=w:=by
 go_enter Tryz.func191,Tryz.ntmps191
 go_wp2
 rw [run_callFunc_extern Tryz.func218 (by kernel_rfl) (by kernel_rfl) (by kernel_rfl) (e:=Extern.BytealgCompare.compare) (by kernel_rfl),Lib.run_compareString]
 simp only [Result.andThen]
 rw [Oper.upon_value]
 go_wp2
 go_ret
 exact ⟨rfl,rfl⟩
set_option maxHeartbeats 2000000 in
theorem Tq(a b:ByteArray)(w:World):Calls Tryz.prog 168 #[.string a,.string b] w fun e w'=>e = .returned (.int .i64 (Lib.compareBytes a.data.toList b.data.toList))∧w'=w:=by
 have hcon:=fun W'=>Tp a b W'
 generalize Lib.compareBytes a.data.toList b.data.toList=r at hcon ⊢
 go_enter Tryz.func168,Tryz.ntmps168
 go_wp2_with (go_at_call 191;refine (hcon _).mono ?_;rintro e w' ⟨rfl,rfl⟩)
 go_ret
 exact ⟨rfl,rfl⟩
set_option maxHeartbeats 2000000 in
theorem QR(x y:Pr)(W:World):Calls Tryz.prog 167 #[.agg #[.string ⟨x.1.toArray⟩,.string ⟨x.2.toArray⟩],.agg #[.string ⟨y.1.toArray⟩,.string ⟨y.2.toArray⟩]] W fun e w'=>e = .returned (.int .i64 (Jj x y))∧∃ q os',w'=Go.Sort.grow (W.drewN q) os':=by
 have hcon:∀ W',Calls Tryz.prog 168 #[.string ⟨x.1.toArray⟩,.string ⟨y.1.toArray⟩] W' fun e w'=>e = .returned (.int .i64 (Jj x y))∧w'=W':=fun W'=>by
  have:=Tq ⟨x.1.toArray⟩ ⟨y.1.toArray⟩ W'
  simpa [Jj] using this
 generalize Jj x y=r at hcon ⊢
 go_enter Tryz.func167,Tryz.ntmps167
 go_wp2_with (go_at_call 168;refine (hcon _).mono ?_;rintro e w' ⟨rfl,rfl⟩)
 go_ret
 exact ⟨rfl,0,_,by rw [alloc_eq_grow,alloc_eq_grow,grow_grow];rfl⟩
theorem Sv(blk off size:Nat)(w:World):CmpLays Tryz.prog 167 #[] Bw 2 Jj blk off size w:=fun _ _ _ _ x y=>QR x y _
theorem NE:∀ args w,(callFunc 166 args).run Tryz.prog w = .ok (.enter 166 args) w:=L7.f6.enters rfl
theorem O4(blk cap:Nat)(d:Array Pr)(w:World)(hH:HoldsK Bw 2 w blk 0 d)(hb:blk<w.heap.size)(hd:d.size<4611686018427387904) :
  Calls Tryz.prog 166 #[.slice (some ⟨blk,0,none⟩) d.size cap,.func (.func 167) #[] #[]] w fun e w'=>e = .returned (.tuple #[])∧∃ n os,w'=sortWorldK Bw 2 w blk 0 n (tz d) os:=
 AnyQ.slices_SortFunc_eq L7 2 Tryz.isAgg55 Tryz.sizeOf55 Bw (fun _=>rfl) (fun x v hv=>by simp [Bw] at hv;rcases hv with rfl | rfl<;>rfl) Jj UX 167 #[] blk 0 cap d w (enters_of Tryz.func167 (by kernel_rfl) rfl) (Sv blk 0 d.size w) hH hb hd
theorem QS(p:Option Addr)(cap:Nat)(fv:Value)(w:World):Calls Tryz.prog 166 #[.slice p 0 cap,fv] w fun e w'=>e = .returned (.tuple #[])∧w'=w:=AnyF.slices_SortFunc_none L7 p cap fv w
end
section
open Go.Proofs
def Uo(f:FuncId):Option AFn:=(bif Nat.blt f 107 then (bif Nat.blt f 59 then (bif Nat.blt f 41 then (bif Nat.blt f 19 then (bif Nat.blt f 15 then (bif Nat.blt f 7 then (bif Nat.blt f 6 then (bif Nat.beq f 5 then some pd else none) else (bif Nat.beq f 6 then some dk else none)) else (bif Nat.blt f 14 then (bif Nat.beq f 7 then some aG else none) else (bif Nat.beq f 14 then some lG else none))) else (bif Nat.blt f 17 then (bif Nat.blt f 16 then (bif Nat.beq f 15 then some x6 else none) else (bif Nat.beq f 16 then some oB else none)) else (bif Nat.blt f 18 then (bif Nat.beq f 17 then some pW else none) else (bif Nat.beq f 18 then some eA else none)))) else (bif Nat.blt f 30 then (bif Nat.blt f 21 then (bif Nat.blt f 20 then (bif Nat.beq f 19 then some eQ else none) else (bif Nat.beq f 20 then some b7 else none)) else (bif Nat.blt f 22 then (bif Nat.beq f 21 then some cC else none) else (bif Nat.beq f 22 then some cS else none))) else (bif Nat.blt f 35 then (bif Nat.blt f 34 then (bif Nat.beq f 30 then some bZ else none) else (bif Nat.beq f 34 then some eX else none)) else (bif Nat.blt f 39 then (bif Nat.beq f 35 then some dX else none) else (bif Nat.blt f 40 then (bif Nat.beq f 39 then some jl else none) else (bif Nat.beq f 40 then some c9 else none)))))) else (bif Nat.blt f 50 then (bif Nat.blt f 45 then (bif Nat.blt f 43 then (bif Nat.blt f 42 then (bif Nat.beq f 41 then some jM else none) else (bif Nat.beq f 42 then some cE else none)) else (bif Nat.blt f 44 then (bif Nat.beq f 43 then some dx else none) else (bif Nat.beq f 44 then some jN else none))) else (bif Nat.blt f 47 then (bif Nat.blt f 46 then (bif Nat.beq f 45 then some cF else none) else (bif Nat.beq f 46 then some eY else none)) else (bif Nat.blt f 48 then (bif Nat.beq f 47 then some jO else none) else (bif Nat.blt f 49 then (bif Nat.beq f 48 then some cG else none) else (bif Nat.beq f 49 then some dy else none))))) else (bif Nat.blt f 54 then (bif Nat.blt f 52 then (bif Nat.blt f 51 then (bif Nat.beq f 50 then some jP else none) else (bif Nat.beq f 51 then some cH else none)) else (bif Nat.blt f 53 then (bif Nat.beq f 52 then some eZ else none) else (bif Nat.beq f 53 then some jQ else none))) else (bif Nat.blt f 56 then (bif Nat.blt f 55 then (bif Nat.beq f 54 then some cT else none) else (bif Nat.beq f 55 then some fq else none)) else (bif Nat.blt f 57 then (bif Nat.beq f 56 then some nk else none) else (bif Nat.blt f 58 then (bif Nat.beq f 57 then some oL else none) else (bif Nat.beq f 58 then some aI else none))))))) else (bif Nat.blt f 86 then (bif Nat.blt f 68 then (bif Nat.blt f 63 then (bif Nat.blt f 61 then (bif Nat.blt f 60 then (bif Nat.beq f 59 then some ma else none) else (bif Nat.beq f 60 then some mb else none)) else (bif Nat.blt f 62 then (bif Nat.beq f 61 then some fM else none) else (bif Nat.beq f 62 then some fb else none))) else (bif Nat.blt f 65 then (bif Nat.blt f 64 then (bif Nat.beq f 63 then some dz else none) else (bif Nat.beq f 64 then some kp else none)) else (bif Nat.blt f 66 then (bif Nat.beq f 65 then some fN else none) else (bif Nat.blt f 67 then (bif Nat.beq f 66 then some cj else none) else (bif Nat.beq f 67 then some dS else none))))) else (bif Nat.blt f 72 then (bif Nat.blt f 70 then (bif Nat.blt f 69 then (bif Nat.beq f 68 then some gk else none) else (bif Nat.beq f 69 then some gl else none)) else (bif Nat.blt f 71 then (bif Nat.beq f 70 then some dj else none) else (bif Nat.beq f 71 then some b8 else none))) else (bif Nat.blt f 83 then (bif Nat.blt f 82 then (bif Nat.beq f 72 then some fy else none) else (bif Nat.beq f 82 then some aX else none)) else (bif Nat.blt f 84 then (bif Nat.beq f 83 then some cI else none) else (bif Nat.blt f 85 then (bif Nat.beq f 84 then some co else none) else (bif Nat.beq f 85 then some a8 else none)))))) else (bif Nat.blt f 98 then (bif Nat.blt f 93 then (bif Nat.blt f 89 then (bif Nat.blt f 87 then (bif Nat.beq f 86 then some eb else none) else (bif Nat.beq f 87 then some cO else none)) else (bif Nat.blt f 92 then (bif Nat.beq f 89 then some da else none) else (bif Nat.beq f 92 then some gB else none))) else (bif Nat.blt f 95 then (bif Nat.blt f 94 then (bif Nat.beq f 93 then some jm else none) else (bif Nat.beq f 94 then some bb else none)) else (bif Nat.blt f 96 then (bif Nat.beq f 95 then some ei else none) else (bif Nat.blt f 97 then (bif Nat.beq f 96 then some bc else none) else (bif Nat.beq f 97 then some ej else none))))) else (bif Nat.blt f 102 then (bif Nat.blt f 100 then (bif Nat.blt f 99 then (bif Nat.beq f 98 then some cU else none) else (bif Nat.beq f 99 then some ek else none)) else (bif Nat.blt f 101 then (bif Nat.beq f 100 then some lK else none) else (bif Nat.beq f 101 then some eE else none))) else (bif Nat.blt f 104 then (bif Nat.blt f 103 then (bif Nat.beq f 102 then some jR else none) else (bif Nat.beq f 103 then some lL else none)) else (bif Nat.blt f 105 then (bif Nat.beq f 104 then some be else none) else (bif Nat.blt f 106 then (bif Nat.beq f 105 then some em else none) else (bif Nat.beq f 106 then some bg else none)))))))) else (bif Nat.blt f 155 then (bif Nat.blt f 124 then (bif Nat.blt f 115 then (bif Nat.blt f 111 then (bif Nat.blt f 109 then (bif Nat.blt f 108 then (bif Nat.beq f 107 then some en else none) else (bif Nat.beq f 108 then some lM else none)) else (bif Nat.blt f 110 then (bif Nat.beq f 109 then some aM else none) else (bif Nat.beq f 110 then some eo else none))) else (bif Nat.blt f 113 then (bif Nat.blt f 112 then (bif Nat.beq f 111 then some ks else none) else (bif Nat.beq f 112 then some ku else none)) else (bif Nat.blt f 114 then (bif Nat.beq f 113 then some nr else none) else (bif Nat.beq f 114 then some ns else none)))) else (bif Nat.blt f 119 then (bif Nat.blt f 117 then (bif Nat.blt f 116 then (bif Nat.beq f 115 then some db else none) else (bif Nat.beq f 116 then some fA else none)) else (bif Nat.blt f 118 then (bif Nat.beq f 117 then some bh else none) else (bif Nat.beq f 118 then some jc else none))) else (bif Nat.blt f 121 then (bif Nat.blt f 120 then (bif Nat.beq f 119 then some cq else none) else (bif Nat.beq f 120 then some og else none)) else (bif Nat.blt f 122 then (bif Nat.beq f 121 then some bN else none) else (bif Nat.blt f 123 then (bif Nat.beq f 122 then some ec else none) else (bif Nat.beq f 123 then some io else none)))))) else (bif Nat.blt f 146 then (bif Nat.blt f 140 then (bif Nat.blt f 127 then (bif Nat.blt f 125 then (bif Nat.beq f 124 then some b4 else none) else (bif Nat.beq f 125 then some dA else none)) else (bif Nat.blt f 128 then (bif Nat.beq f 127 then some jU else none) else (bif Nat.beq f 128 then some jV else none))) else (bif Nat.blt f 142 then (bif Nat.blt f 141 then (bif Nat.beq f 140 then some eF else none) else (bif Nat.beq f 141 then some bH else none)) else (bif Nat.blt f 143 then (bif Nat.beq f 142 then some gm else none) else (bif Nat.blt f 144 then (bif Nat.beq f 143 then some dc else none) else (bif Nat.beq f 144 then some eG else none))))) else (bif Nat.blt f 150 then (bif Nat.blt f 148 then (bif Nat.blt f 147 then (bif Nat.beq f 146 then some iJ else none) else (bif Nat.beq f 147 then some eT else none)) else (bif Nat.blt f 149 then (bif Nat.beq f 148 then some jv else none) else (bif Nat.beq f 149 then some aJ else none))) else (bif Nat.blt f 152 then (bif Nat.blt f 151 then (bif Nat.beq f 150 then some aK else none) else (bif Nat.beq f 151 then some cV else none)) else (bif Nat.blt f 153 then (bif Nat.beq f 152 then some dZ else none) else (bif Nat.blt f 154 then (bif Nat.beq f 153 then some du else none) else (bif Nat.beq f 154 then some iK else none))))))) else (bif Nat.blt f 177 then (bif Nat.blt f 164 then (bif Nat.blt f 159 then (bif Nat.blt f 157 then (bif Nat.blt f 156 then (bif Nat.beq f 155 then some ny else none) else (bif Nat.beq f 156 then some aS else none)) else (bif Nat.blt f 158 then (bif Nat.beq f 157 then some jW else none) else (bif Nat.beq f 158 then some iL else none))) else (bif Nat.blt f 161 then (bif Nat.blt f 160 then (bif Nat.beq f 159 then some aw else none) else (bif Nat.beq f 160 then some de else none)) else (bif Nat.blt f 162 then (bif Nat.beq f 161 then some dg else none) else (bif Nat.blt f 163 then (bif Nat.beq f 162 then some er else none) else (bif Nat.beq f 163 then some aT else none))))) else (bif Nat.blt f 169 then (bif Nat.blt f 167 then (bif Nat.blt f 165 then (bif Nat.beq f 164 then some bI else none) else (bif Nat.beq f 165 then some cK else none)) else (bif Nat.blt f 168 then (bif Nat.beq f 167 then some A2 else none) else (bif Nat.beq f 168 then some xL else none))) else (bif Nat.blt f 171 then (bif Nat.blt f 170 then (bif Nat.beq f 169 then some aO else none) else (bif Nat.beq f 170 then some dF else none)) else (bif Nat.blt f 172 then (bif Nat.beq f 171 then some iO else none) else (bif Nat.blt f 174 then (bif Nat.beq f 172 then some iy else none) else (bif Nat.beq f 174 then some cX else none)))))) else (bif Nat.blt f 193 then (bif Nat.blt f 186 then (bif Nat.blt f 184 then (bif Nat.blt f 179 then (bif Nat.beq f 177 then some bJ else none) else (bif Nat.beq f 179 then some eI else none)) else (bif Nat.blt f 185 then (bif Nat.beq f 184 then some jw else none) else (bif Nat.beq f 185 then some gb else none))) else (bif Nat.blt f 188 then (bif Nat.blt f 187 then (bif Nat.beq f 186 then some dC else none) else (bif Nat.beq f 187 then some dh else none)) else (bif Nat.blt f 191 then (bif Nat.beq f 188 then some c7 else none) else (bif Nat.blt f 192 then (bif Nat.beq f 191 then some lg else none) else (bif Nat.beq f 192 then some ct else none))))) else (bif Nat.blt f 207 then (bif Nat.blt f 196 then (bif Nat.blt f 194 then (bif Nat.beq f 193 then some fQ else none) else (bif Nat.beq f 194 then some b9 else none)) else (bif Nat.blt f 197 then (bif Nat.beq f 196 then some kx else none) else (bif Nat.beq f 197 then some ff else none))) else (bif Nat.blt f 219 then (bif Nat.blt f 208 then (bif Nat.beq f 207 then some ca else none) else (bif Nat.beq f 208 then some eJ else none)) else (bif Nat.blt f 221 then (bif Nat.beq f 219 then some dG else none) else (bif Nat.blt f 229 then (bif Nat.beq f 221 then some iz else none) else (bif Nat.beq f 229 then some gc else none)))))))))
theorem tQ:ab Tryz.prog G0 5 pd:=by unfold ab;kernel_rfl
theorem rV:ab Tryz.prog G0 6 dk:=by unfold ab;kernel_rfl
theorem yq:ab Tryz.prog G0 7 aG:=by unfold ab;kernel_rfl
theorem GD:ab Tryz.prog G0 14 lG:=by unfold ab;kernel_rfl
theorem GE:ab Tryz.prog G0 15 x6:=by unfold ab;kernel_rfl
theorem yr:ab Tryz.prog G0 16 oB:=by unfold ab;kernel_rfl
theorem HE:ab Tryz.prog G0 17 pW:=by unfold ab;kernel_rfl
theorem zR:ab Tryz.prog G0 18 eA:=by unfold ab;kernel_rfl
theorem Do:ab Tryz.prog G0 19 eQ:=by unfold ab;kernel_rfl
theorem vu:ab Tryz.prog G0 20 b7:=by unfold ab;kernel_rfl
theorem tR:ab Tryz.prog G0 21 cC:=by unfold ab;kernel_rfl
theorem wF:ab Tryz.prog G0 22 cS:=by unfold ab;kernel_rfl
theorem yt:ab Tryz.prog G0 30 bZ:=by unfold ab;kernel_rfl
theorem yu:ab Tryz.prog G0 34 eX:=by unfold ab;kernel_rfl
theorem vv:ab Tryz.prog G0 35 dX:=by unfold ab;kernel_rfl
theorem GF:ab Tryz.prog G0 39 jl:=by unfold ab;kernel_rfl
theorem xd:ab Tryz.prog G0 40 c9:=by unfold ab;kernel_rfl
theorem Er:ab Tryz.prog G0 41 jM:=by unfold ab;kernel_rfl
theorem xf:ab Tryz.prog G0 42 cE:=by unfold ab;kernel_rfl
theorem yv:ab Tryz.prog G0 43 dx:=by unfold ab;kernel_rfl
theorem Et:ab Tryz.prog G0 44 jN:=by unfold ab;kernel_rfl
theorem xg:ab Tryz.prog G0 45 cF:=by unfold ab;kernel_rfl
theorem yw:ab Tryz.prog G0 46 eY:=by unfold ab;kernel_rfl
theorem Eu:ab Tryz.prog G0 47 jO:=by unfold ab;kernel_rfl
theorem xh:ab Tryz.prog G0 48 cG:=by unfold ab;kernel_rfl
theorem yx:ab Tryz.prog G0 49 dy:=by unfold ab;kernel_rfl
theorem Ev:ab Tryz.prog G0 50 jP:=by unfold ab;kernel_rfl
theorem xi:ab Tryz.prog G0 51 cH:=by unfold ab;kernel_rfl
theorem yy:ab Tryz.prog G0 52 eZ:=by unfold ab;kernel_rfl
theorem Ew:ab Tryz.prog G0 53 jQ:=by unfold ab;kernel_rfl
theorem yz:ab Tryz.prog G0 54 cT:=by unfold ab;kernel_rfl
theorem zS:ab Tryz.prog G0 55 fq:=by unfold ab;kernel_rfl
theorem xj:ab Tryz.prog G0 56 nk:=by unfold ab;kernel_rfl
theorem yA:ab Tryz.prog G0 57 oL:=by unfold ab;kernel_rfl
theorem n8:ab Tryz.prog G0 58 aI:=by unfold ab;kernel_rfl
theorem FL:ab Tryz.prog G0 59 ma:=by unfold ab;kernel_rfl
theorem FM:ab Tryz.prog G0 60 mb:=by unfold ab;kernel_rfl
theorem xk:ab Tryz.prog G0 61 fM:=by unfold ab;kernel_rfl
theorem yB:ab Tryz.prog G0 62 fb:=by unfold ab;kernel_rfl
theorem yC:ab Tryz.prog G0 63 dz:=by unfold ab;kernel_rfl
theorem Dp:ab Tryz.prog G0 64 kp:=by unfold ab;kernel_rfl
theorem xl:ab Tryz.prog G0 65 fN:=by unfold ab;kernel_rfl
theorem rt:ab Tryz.prog G0 66 cj:=by unfold ab;kernel_rfl
theorem xm:ab Tryz.prog G0 67 dS:=by unfold ab;kernel_rfl
theorem yD:ab Tryz.prog G0 68 gk:=by unfold ab;kernel_rfl
theorem yE:ab Tryz.prog G0 69 gl:=by unfold ab;kernel_rfl
theorem zT:ab Tryz.prog G0 70 dj:=by unfold ab;kernel_rfl
theorem vw:ab Tryz.prog G0 71 b8:=by unfold ab;kernel_rfl
theorem Bx:ab Tryz.prog G0 72 fy:=by unfold ab;kernel_rfl
theorem By:ab Tryz.prog G0 82 aX:=by unfold ab;kernel_rfl
theorem xn:ab Tryz.prog G0 83 cI:=by unfold ab;kernel_rfl
theorem wG:ab Tryz.prog G0 84 co:=by unfold ab;kernel_rfl
theorem wH:ab Tryz.prog G0 85 a8:=by unfold ab;kernel_rfl
theorem yF:ab Tryz.prog G0 86 eb:=by unfold ab;kernel_rfl
theorem s7:ab Tryz.prog G0 87 cO:=by unfold ab;kernel_rfl
theorem tS:ab Tryz.prog G0 89 da:=by unfold ab;kernel_rfl
theorem FN:ab Tryz.prog G0 92 gB:=by unfold ab;kernel_rfl
theorem HF:ab Tryz.prog G0 93 jm:=by unfold ab;kernel_rfl
theorem mE:ab Tryz.prog G0 94 bb:=by unfold ab;kernel_rfl
theorem wI:ab Tryz.prog G0 95 ei:=by unfold ab;kernel_rfl
theorem mF:ab Tryz.prog G0 96 bc:=by unfold ab;kernel_rfl
theorem wJ:ab Tryz.prog G0 97 ej:=by unfold ab;kernel_rfl
theorem yG:ab Tryz.prog G0 98 cU:=by unfold ab;kernel_rfl
theorem wK:ab Tryz.prog G0 99 ek:=by unfold ab;kernel_rfl
theorem GG:ab Tryz.prog G0 100 lK:=by unfold ab;kernel_rfl
theorem xo:ab Tryz.prog G0 101 eE:=by unfold ab;kernel_rfl
theorem Ex:ab Tryz.prog G0 102 jR:=by unfold ab;kernel_rfl
theorem GH:ab Tryz.prog G0 103 lL:=by unfold ab;kernel_rfl
theorem mG:ab Tryz.prog G0 104 be:=by unfold ab;kernel_rfl
theorem wL:ab Tryz.prog G0 105 em:=by unfold ab;kernel_rfl
theorem nN:ab Tryz.prog G0 106 bg:=by unfold ab;kernel_rfl
theorem wM:ab Tryz.prog G0 107 en:=by unfold ab;kernel_rfl
theorem GI:ab Tryz.prog G0 108 lM:=by unfold ab;kernel_rfl
theorem ko:ab Tryz.prog G0 109 aM:=by unfold ab;kernel_rfl
theorem wN:ab Tryz.prog G0 110 eo:=by unfold ab;kernel_rfl
theorem FO:ab Tryz.prog G0 111 ks:=by unfold ab;kernel_rfl
theorem FP:ab Tryz.prog G0 112 ku:=by unfold ab;kernel_rfl
theorem xp:ab Tryz.prog G0 113 nr:=by unfold ab;kernel_rfl
theorem xq:ab Tryz.prog G0 114 ns:=by unfold ab;kernel_rfl
theorem xr:ab Tryz.prog G0 115 db:=by unfold ab;kernel_rfl
theorem zU:ab Tryz.prog G0 116 fA:=by unfold ab;kernel_rfl
theorem nO:ab Tryz.prog G0 117 bh:=by unfold ab;kernel_rfl
theorem Bz:ab Tryz.prog G0 118 jc:=by unfold ab;kernel_rfl
theorem pP:ab Tryz.prog G0 119 cq:=by unfold ab;kernel_rfl
theorem GJ:ab Tryz.prog G0 120 og:=by unfold ab;kernel_rfl
theorem tp:ab Tryz.prog G0 121 bN:=by unfold ab;kernel_rfl
theorem yH:ab Tryz.prog G0 122 ec:=by unfold ab;kernel_rfl
theorem zV:ab Tryz.prog G0 123 io:=by unfold ab;kernel_rfl
theorem yI:ab Tryz.prog G0 124 b4:=by unfold ab;kernel_rfl
theorem yJ:ab Tryz.prog G0 125 dA:=by unfold ab;kernel_rfl
theorem Ey:ab Tryz.prog G0 127 jU:=by unfold ab;kernel_rfl
theorem Ez:ab Tryz.prog G0 128 jV:=by unfold ab;kernel_rfl
theorem xt:ab Tryz.prog G0 140 eF:=by unfold ab;kernel_rfl
theorem zW:ab Tryz.prog G0 141 bH:=by unfold ab;kernel_rfl
theorem yK:ab Tryz.prog G0 142 gm:=by unfold ab;kernel_rfl
theorem tT:ab Tryz.prog G0 143 dc:=by unfold ab;kernel_rfl
theorem xu:ab Tryz.prog G0 144 eG:=by unfold ab;kernel_rfl
theorem FQ:ab Tryz.prog G0 146 iJ:=by unfold ab;kernel_rfl
theorem JB:ab Tryz.prog G0 147 eT:=by unfold ab;kernel_rfl
theorem FR:ab Tryz.prog G0 148 jv:=by unfold ab;kernel_rfl
theorem n9:ab Tryz.prog G0 149 aJ:=by unfold ab;kernel_rfl
theorem oa:ab Tryz.prog G0 150 aK:=by unfold ab;kernel_rfl
theorem yL:ab Tryz.prog G0 151 cV:=by unfold ab;kernel_rfl
theorem vx:ab Tryz.prog G0 152 dZ:=by unfold ab;kernel_rfl
theorem uA:ab Tryz.prog G0 153 du:=by unfold ab;kernel_rfl
theorem CC:ab Tryz.prog G0 154 iK:=by unfold ab;kernel_rfl
theorem HG:ab Tryz.prog G0 155 ny:=by unfold ab;kernel_rfl
theorem pn:ab Tryz.prog G0 156 aS:=by unfold ab;kernel_rfl
theorem EA:ab Tryz.prog G0 157 jW:=by unfold ab;kernel_rfl
theorem CD:ab Tryz.prog G0 158 iL:=by unfold ab;kernel_rfl
theorem kP:ab Tryz.prog G0 159 aw:=by unfold ab;kernel_rfl
theorem tU:ab Tryz.prog G0 160 de:=by unfold ab;kernel_rfl
theorem xv:ab Tryz.prog G0 161 dg:=by unfold ab;kernel_rfl
theorem CE:ab Tryz.prog G0 162 er:=by unfold ab;kernel_rfl
theorem po:ab Tryz.prog G0 163 aT:=by unfold ab;kernel_rfl
theorem qR:ab Tryz.prog G0 164 bI:=by unfold ab;kernel_rfl
theorem qq:ab Tryz.prog G0 165 cK:=by unfold ab;kernel_rfl
theorem EB:ab Tryz.prog G0 167 A2:=by unfold ab;kernel_rfl
theorem CF:ab Tryz.prog G0 168 xL:=by unfold ab;kernel_rfl
theorem p8:ab Tryz.prog G0 169 aO:=by unfold ab;kernel_rfl
theorem wO:ab Tryz.prog G0 170 dF:=by unfold ab;kernel_rfl
theorem qS:ab Tryz.prog G0 171 iO:=by unfold ab;kernel_rfl
theorem qr:ab Tryz.prog G0 172 iy:=by unfold ab;kernel_rfl
theorem tq:ab Tryz.prog G0 174 cX:=by unfold ab;kernel_rfl
theorem zX:ab Tryz.prog G0 177 bJ:=by unfold ab;kernel_rfl
theorem xw:ab Tryz.prog G0 179 eI:=by unfold ab;kernel_rfl
theorem FS:ab Tryz.prog G0 184 jw:=by unfold ab;kernel_rfl
theorem AT:ab Tryz.prog G0 185 gb:=by unfold ab;kernel_rfl
theorem yM:ab Tryz.prog G0 186 dC:=by unfold ab;kernel_rfl
theorem xx:ab Tryz.prog G0 187 dh:=by unfold ab;kernel_rfl
theorem ru:ab Tryz.prog G0 188 c7:=by unfold ab;kernel_rfl
theorem qT:ab Tryz.prog G0 191 lg:=by unfold ab;kernel_rfl
theorem wP:ab Tryz.prog G0 192 ct:=by unfold ab;kernel_rfl
theorem o9:ab Tryz.prog G0 193 fQ:=by unfold ab;kernel_rfl
theorem qV:ab Tryz.prog G0 194 b9:=by unfold ab;kernel_rfl
theorem uB:ab Tryz.prog G0 196 kx:=by unfold ab;kernel_rfl
theorem mK:ab Tryz.prog G0 197 ff:=by unfold ab;kernel_rfl
theorem qW:ab Tryz.prog G0 207 ca:=by unfold ab;kernel_rfl
theorem xy:ab Tryz.prog G0 208 eJ:=by unfold ab;kernel_rfl
theorem wQ:ab Tryz.prog G0 219 dG:=by unfold ab;kernel_rfl
theorem qs:ab Tryz.prog G0 221 iz:=by unfold ab;kernel_rfl
theorem AU:ab Tryz.prog G0 229 gc:=by unfold ab;kernel_rfl
theorem Tr:∀ f af,Uo f=some af→ab Tryz.prog G0 f af:=fun f af h=>by
 unfold Uo at h
 revert h
 exact (al (al (al (al (al (al (al (ak (C:=_) tQ) (ak (C:=_) rV)) (al (ak (C:=_) yq) (ak (C:=_) GD))) (al (al (ak (C:=_) GE) (ak (C:=_) yr)) (al (ak (C:=_) HE) (ak (C:=_) zR)))) (al (al (al (ak (C:=_) Do) (ak (C:=_) vu)) (al (ak (C:=_) tR) (ak (C:=_) wF))) (al (al (ak (C:=_) yt) (ak (C:=_) yu)) (al (ak (C:=_) vv) (al (ak (C:=_) GF) (ak (C:=_) xd)))))) (al (al (al (al (ak (C:=_) Er) (ak (C:=_) xf)) (al (ak (C:=_) yv) (ak (C:=_) Et))) (al (al (ak (C:=_) xg) (ak (C:=_) yw)) (al (ak (C:=_) Eu) (al (ak (C:=_) xh) (ak (C:=_) yx))))) (al (al (al (ak (C:=_) Ev) (ak (C:=_) xi)) (al (ak (C:=_) yy) (ak (C:=_) Ew))) (al (al (ak (C:=_) yz) (ak (C:=_) zS)) (al (ak (C:=_) xj) (al (ak (C:=_) yA) (ak (C:=_) n8))))))) (al (al (al (al (al (ak (C:=_) FL) (ak (C:=_) FM)) (al (ak (C:=_) xk) (ak (C:=_) yB))) (al (al (ak (C:=_) yC) (ak (C:=_) Dp)) (al (ak (C:=_) xl) (al (ak (C:=_) rt) (ak (C:=_) xm))))) (al (al (al (ak (C:=_) yD) (ak (C:=_) yE)) (al (ak (C:=_) zT) (ak (C:=_) vw))) (al (al (ak (C:=_) Bx) (ak (C:=_) By)) (al (ak (C:=_) xn) (al (ak (C:=_) wG) (ak (C:=_) wH)))))) (al (al (al (al (ak (C:=_) yF) (ak (C:=_) s7)) (al (ak (C:=_) tS) (ak (C:=_) FN))) (al (al (ak (C:=_) HF) (ak (C:=_) mE)) (al (ak (C:=_) wI) (al (ak (C:=_) mF) (ak (C:=_) wJ))))) (al (al (al (ak (C:=_) yG) (ak (C:=_) wK)) (al (ak (C:=_) GG) (ak (C:=_) xo))) (al (al (ak (C:=_) Ex) (ak (C:=_) GH)) (al (ak (C:=_) mG) (al (ak (C:=_) wL) (ak (C:=_) nN)))))))) (al (al (al (al (al (al (ak (C:=_) wM) (ak (C:=_) GI)) (al (ak (C:=_) ko) (ak (C:=_) wN))) (al (al (ak (C:=_) FO) (ak (C:=_) FP)) (al (ak (C:=_) xp) (ak (C:=_) xq)))) (al (al (al (ak (C:=_) xr) (ak (C:=_) zU)) (al (ak (C:=_) nO) (ak (C:=_) Bz))) (al (al (ak (C:=_) pP) (ak (C:=_) GJ)) (al (ak (C:=_) tp) (al (ak (C:=_) yH) (ak (C:=_) zV)))))) (al (al (al (al (ak (C:=_) yI) (ak (C:=_) yJ)) (al (ak (C:=_) Ey) (ak (C:=_) Ez))) (al (al (ak (C:=_) xt) (ak (C:=_) zW)) (al (ak (C:=_) yK) (al (ak (C:=_) tT) (ak (C:=_) xu))))) (al (al (al (ak (C:=_) FQ) (ak (C:=_) JB)) (al (ak (C:=_) FR) (ak (C:=_) n9))) (al (al (ak (C:=_) oa) (ak (C:=_) yL)) (al (ak (C:=_) vx) (al (ak (C:=_) uA) (ak (C:=_) CC))))))) (al (al (al (al (al (ak (C:=_) HG) (ak (C:=_) pn)) (al (ak (C:=_) EA) (ak (C:=_) CD))) (al (al (ak (C:=_) kP) (ak (C:=_) tU)) (al (ak (C:=_) xv) (al (ak (C:=_) CE) (ak (C:=_) po))))) (al (al (al (ak (C:=_) qR) (ak (C:=_) qq)) (al (ak (C:=_) EB) (ak (C:=_) CF))) (al (al (ak (C:=_) p8) (ak (C:=_) wO)) (al (ak (C:=_) qS) (al (ak (C:=_) qr) (ak (C:=_) tq)))))) (al (al (al (al (ak (C:=_) zX) (ak (C:=_) xw)) (al (ak (C:=_) FS) (ak (C:=_) AT))) (al (al (ak (C:=_) yM) (ak (C:=_) xx)) (al (ak (C:=_) ru) (al (ak (C:=_) qT) (ak (C:=_) wP))))) (al (al (al (ak (C:=_) o9) (ak (C:=_) qV)) (al (ak (C:=_) uB) (ak (C:=_) mK))) (al (al (ak (C:=_) qW) (ak (C:=_) xy)) (al (ak (C:=_) wQ) (al (ak (C:=_) qs) (ak (C:=_) AU)))))))))
def Up(f:FuncId)(args:List AV)(H:List ag):Option Out:=
 match args with
 |[]=>bif Nat.beq f dw then some (.ret (.bool true),H) else none
 |args=>match QD bk gH f args H with
  |some r=>some r
  |none=>RD f args H
theorem Ts{f:FuncId}{args:List AV}{H H':List ag}{r:u4}(h:Up f args H=some (r,H')):eU Tryz.prog G0 f args H fun r2 H2=>r2=r∧H2=H':=by
 unfold Up at h
 split at h
 ·cases h1:Nat.beq f dw with
  |true=>rw [h1] at h;cases h;rw [Nat.eq_of_beq_eq_true h1];exact RF H
  |false=>rw [h1] at h;cases h
 ·split at h
  ·rename_i r' hr
   cases h
   exact Th NE O4 QS hr
  ·exact Pm h
noncomputable def EN:bL := { P:=Tryz.prog,G:=G0,fn:=Uo,orc:=Up,dfn:=fun _=>none }
theorem TK:EN.Ok:=⟨Pn,fun f af h=>Tr f af h,(fun _ _ _ h=>by cases h),(fun _ _ _ _ _ h=>by cases h),fun _ _ _ _ _ h=>Ts h⟩
theorem Tt(M:dK dW EN):Jk M Sc:=by
 refine ⟨fun H => ?_,fun {l H id T} h0 hl hx => ?_,fun l => ?_⟩
 ·rw [CM M rfl];rfl
 ·rw [CM M rfl]
  have hd:Ns (b5 l)=some (l.map toP):=by rw [PA];exact KY _
  have hs:QD bk gH bk [.rslice id 0 l.length 2 true,.fn (.func gH) [] []] H=some (.ret (.tuple []),H.set id (.cells (b5 (Sc l)) T)):=by
   have hb:∀ n:Nat,Nat.beq n n=true:=fun n=>by simp
   have hle:Nat.ble l.length 4000000000=true:=Nat.ble_eq_true_of_le hl
   unfold QD
   simp only [hb,Bool.and_self,cond_true,hx,hd,List.length_map,hle]
   rw [Sc,Tg]
  show (match QD bk gH bk [.rslice id 0 l.length 2 true,.fn (.func gH) [] []] H with
   |some r=>some r
   |none=>RD bk [.rslice id 0 l.length 2 true,.fn (.func gH) [] []] H)=_
  rw [hs]
 ·simpa using (Se.perm l).length_eq
end
end Go.Am
