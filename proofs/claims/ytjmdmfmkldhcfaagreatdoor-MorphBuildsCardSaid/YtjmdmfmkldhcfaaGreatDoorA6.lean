import Derived.Test.YtjmdmfmkldhcfaaGreatDoorA5
import Derived.Lib.Bytealg
import Derived.Shelf.SlSortCmp.WholeK
import Derived.Lib.RowBridge
/-
  Part 6 of the tool: an abstract machine over the model, proved sound, and what it says of the functions that the law reaches. Condition: none but those that each theorem names.
-/
set_option linter.unusedVariables false
set_option linter.unusedSimpArgs false
set_option maxRecDepth 100000
set_option maxHeartbeats 4000000
namespace Go.Am
open Go.RowKit
section
attribute [local congr] aS eb bQ aT bv bb aU aC aD bc be
variable{E:bP}(M:dO d8 E)
def yc(l:Lex):Int:=lK 8 (Gj l) l.traits.l
theorem MT(hN:bz E)(hE:lG E){l:Lex}{n:Nat}(hl:l.ok n){H:List ag}(hn:n≤H.length){p q:Nat}{T T2:TypeId}(hp:H[p]?=some (.cells l.row T))(hq:H[q]?=some (.cells l.row T2)) :
  M.run qQ [.ptr p 0,.ptr q 0] H=some (.ret (.int .u8 (yc l)),H):=by
 rw [aM M hE.morph_Check_1 rfl (c:=uA) rfl,uA]
 have he:=IP M hE.morph_each_api_Trait (g:=kA) (fr:=[.agg l.row]) (cap:=[]) (F:=Gj l) (tg:=l.traits.tag) (l:=l.traits.l) (H:=H) hl.traits.len
  (wk_fn ⟨wk_agg (hl.mono hn).wk,trivial⟩ trivial) ((hl.traits.mono hn (fun _ h=>h.mono hn)).wk (fun _ h=>h.wk))
  (fun L i x hx=>Qh M hN hE hl (hl.traits.all x (List.mem_of_getElem? hx)) (List.getElem?_eq_some_iff.1 hx).1 _)
 simp (maxSteps:=3000000) (maxDischargeDepth:=6) +contextual -implicitDefEqProofs only [amA M,amB,↓ae,↓aa,↓aj,↓ah,Nat.reduceBEq,Nat.reduceAdd,env,am,Ha,he 8,bp,hp,hq,yc]
def tD(l:Lex):Int:=lK 16 (Cf l) l.classes.l
theorem MU(hN:bz E)(hE:lG E){l:Lex}{n:Nat}(hl:l.ok n){H:List ag}(hn:n≤H.length){p q:Nat}{T T2:TypeId}(hp:H[p]?=some (.cells l.row T))(hq:H[q]?=some (.cells l.row T2)) :
  M.run qR [.ptr p 0,.ptr q 0] H=some (.ret (.int .u8 (tD l)),H):=by
 rw [aM M hE.morph_Check_2 rfl (c:=uB) rfl,uB]
 have he:=IR M hE.morph_each_api_Class (g:=kB) (fr:=[.agg l.row]) (cap:=[]) (F:=Cf l) (tg:=l.classes.tag) (l:=l.classes.l) (H:=H) hl.classes.len
  (wk_fn ⟨wk_agg (hl.mono hn).wk,trivial⟩ trivial) ((hl.classes.mono hn (fun _ h=>h.mono hn)).wk (fun _ h=>h.wk))
  (fun L i x hx=>Qi M hN hE hl (hl.classes.all x (List.mem_of_getElem? hx)) (List.getElem?_eq_some_iff.1 hx).1 (by simp;omega))
 simp (maxSteps:=3000000) (maxDischargeDepth:=6) +contextual -implicitDefEqProofs only [amA M,amB,↓ae,↓aa,↓aj,↓ah,Nat.reduceBEq,Nat.reduceAdd,env,am,Hb,he 16,bp,hp,hq,tD]
def wq(l:Lex):Int:=lK 128 (yb l) l.entries.l
theorem MV(hN:bz E)(hE:lG E){l:Lex}{n:Nat}(hl:l.ok n){H:List ag}(hn:n≤H.length){p q:Nat}{T T2:TypeId}(hp:H[p]?=some (.cells l.row T))(hq:H[q]?=some (.cells l.row T2)) :
  M.run qS [.ptr p 0,.ptr q 0] H=some (.ret (.int .u8 (wq l)),H):=by
 rw [aM M hE.morph_Check_3 rfl (c:=uC) rfl,uC]
 have he:=IT M hE.morph_each_api_Entry (g:=kC) (fr:=[.agg l.row]) (cap:=[]) (F:=yb l) (tg:=l.entries.tag) (l:=l.entries.l) (H:=H) hl.entries.len
  (wk_fn ⟨wk_agg (hl.mono hn).wk,trivial⟩ trivial) ((hl.entries.mono hn (fun _ h=>h.mono hn)).wk (fun _ h=>h.wk))
  (fun L i x hx=>Qk M hN hE hl (hl.entries.all x (List.mem_of_getElem? hx)) (List.getElem?_eq_some_iff.1 hx).1 (by simp;omega))
 simp (maxSteps:=3000000) (maxDischargeDepth:=6) +contextual -implicitDefEqProofs only [amA M,amB,↓ae,↓aa,↓aj,↓ah,Nat.reduceBEq,Nat.reduceAdd,env,am,Hc,he 128,bp,hp,hq,wq]
def yd(l:Lex):Int:=lK 16 (fun _ x=>tC x) l.spells.l
theorem MW(hN:bz E)(hE:lG E){l:Lex}{n:Nat}(hl:l.ok n){H:List ag}(hn:n≤H.length){p q:Nat}{T T2:TypeId}(hp:H[p]?=some (.cells l.row T))(hq:H[q]?=some (.cells l.row T2)) :
  M.run qT [.ptr p 0,.ptr q 0] H=some (.ret (.int .u8 (yd l)),H):=by
 rw [aM M hE.morph_Check_4 rfl (c:=uD) rfl,uD]
 have he:=IV M hE.morph_each_api_Spell (g:=kD) (fr:=[.agg l.row]) (cap:=[]) (F:=fun _ x=>tC x) (tg:=l.spells.tag) (l:=l.spells.l) (H:=H) hl.spells.len
  (wk_fn ⟨wk_agg (hl.mono hn).wk,trivial⟩ trivial) ((hl.spells.mono hn (fun _ h=>h.mono hn)).wk (fun _ h=>h.wk))
  (fun L i x hx=>MS M hN hE (hl.spells.all x (List.mem_of_getElem? hx)) i _)
 simp (maxSteps:=3000000) (maxDischargeDepth:=6) +contextual -implicitDefEqProofs only [amA M,amB,↓ae,↓aa,↓aj,↓ah,Nat.reduceBEq,Nat.reduceAdd,env,am,Hd,he 16,bp,hp,hq,yd]
def Aw(l:Lex):Int:=lK 8 (fun _ x=>DA l x) l.links.l
theorem MX(hN:bz E)(hE:lG E){l:Lex}{n:Nat}(hl:l.ok n){H:List ag}(hn:n≤H.length){p q:Nat}{T T2:TypeId}(hp:H[p]?=some (.cells l.row T))(hq:H[q]?=some (.cells l.row T2)) :
  M.run qV [.ptr p 0,.ptr q 0] H=some (.ret (.int .u8 (Aw l)),H):=by
 rw [aM M hE.morph_Check_5 rfl (c:=uE) rfl,uE]
 have he:=JM M hE.morph_each_api_Link (g:=kX) (fr:=[.agg l.row]) (cap:=[]) (F:=fun _ x=>DA l x) (tg:=l.links.tag) (l:=l.links.l) (H:=H) hl.links.len
  (wk_fn ⟨wk_agg (hl.mono hn).wk,trivial⟩ trivial) ((hl.links.mono hn (fun _ h=>h.mono hn)).wk (fun _ h=>h.wk))
  (fun L i x hx=>N6 M hN hE hl (hl.links.all x (List.mem_of_getElem? hx)) i (by simp;omega))
 simp (maxSteps:=3000000) (maxDischargeDepth:=6) +contextual -implicitDefEqProofs only [amA M,amB,↓ae,↓aa,↓aj,↓ah,Nat.reduceBEq,Nat.reduceAdd,env,am,Hf,he 8,bp,hp,hq,Aw]
structure Clo where
 g:Nat
 fr:List AV
 cap:List AV
 e:Int
def Clo.row(x:Clo):List AV:=[.fn (.func x.g) x.fr x.cap]
theorem U0:(∀ x:Clo,cX none x.row 0=some (.fn (.func x.g) x.fr x.cap)):=fun _=>rfl
theorem fst{H H0:List ag}{tg:Tag}{l:List Clo}(hs:l.length≤aZ)(hp:∀ x∈l,M.run x.g (x.fr++x.cap) H=some (.ret (.int .u8 x.e),H))(hc:bO H0 H)(k:List Fra):∀ (n i:Nat) (He:List ag),i+n=l.length →
  M.go ji H0 (.c nK :: .lp ⟨(some [6,7,8]),[],false⟩ nK He :: .blk 0 :: .c (.lv [])::k) (kv [(6,.slice tg 1 (l.map Clo.row)),(7,.int .i64 l.length),(8,.int .i64 i)]) H =
   orE (bI (pC fun _ x=>x.e) i (l.drop i)) (H.take H0.length) (M.go ji H0 k .leaf H)
 |0,i,He,h=>by
  have e:i=l.length:=by omega
  subst e
  rw [ao M nK.eq_1]
  simp (maxSteps:=3000000) (maxDischargeDepth:=6) +contextual -implicitDefEqProofs only [amA M,amB,↓ae,↓aa,↓aj,↓ah,Nat.reduceBEq,Nat.reduceAdd,env,am,xY,Nat.lt_irrefl,List.drop_length]
 |n+1,i,He,h=>by
  have hi:i<l.length:=by omega
  have hx:l[i]?=some l[i]:=List.getElem?_eq_getElem hi
  have hd:(l.drop i)=l[i]::l.drop (i+1):=List.drop_eq_getElem_cons hi
  have hm:l[i]∈l:=List.getElem_mem hi
  have ih:=fun He=>fst (H:=H) (H0:=H0) (tg:=tg) (l:=l) (hs:=hs) (hp:=hp) hc k n (i+1)  He (by omega)
  simp only [kv_cons,kv_nil] at ih
  rw [ao M nK.eq_1]
  simp (maxSteps:=3000000) (maxDischargeDepth:=6) +contextual -implicitDefEqProofs only [amA M,amB,↓ae,↓aa,↓aj,↓ah,Nat.reduceBEq,Nat.reduceAdd,env,am,xY,hx,hd,hi,ih,hp _ hm,bq hi hs,az hi,U0,hc,pC]
theorem Ql(hE:lG E){tg:Tag}{l:List Clo}(hs:l.length≤aZ){H:List ag}(hp:∀ x∈l,M.run x.g (x.fr++x.cap) H=some (.ret (.int .u8 x.e),H)) :
  M.run xN [.slice tg 1 (l.map Clo.row)] H=some (.ret (.int .u8 (ul (fun _ x=>x.e) 0 l)),H):=by
 rw [aM M hE.morph_first rfl (c:=xX) rfl,xX]
 have hl:=fun k He=>fst M (tg:=tg) hs hp (cut_refl H) k l.length 0 He (by omega)
 simp only [kv_cons,kv_nil,Int.ofNat_zero,List.drop_zero] at hl
 simp (maxSteps:=3000000) (maxDischargeDepth:=6) +contextual -implicitDefEqProofs only [amA M,amB,↓ae,↓aa,↓aj,↓ah,Nat.reduceBEq,Nat.reduceAdd,env,am,xY,hl]
 exact mr _ l 0 H
def iU(l:Lex):Int:=
 ul (fun _ e=>e) 0 [Qg l,yc l,tD l,wq l,yd l,Aw l]
theorem CC(hN:bz E)(hE:lG E){l:Lex}{n:Nat}(hl:l.ok n){H:List ag}(hn:n≤H.length) :
  M.run lr [.agg l.row] H=some (.ret (.int .u8 (iU l)),H):=by
 rw [aM M hE.morph_Check rfl (c:=xU) rfl,xU]
 have hf:=Ql M hE (tg:=.full) (H:=H++[.cells l.row aq,.cells l.row bu])
  (l:=[⟨j1,[.agg l.row],[],Qg l⟩,⟨qQ,[],[.ptr H.length 0,.ptr (H.length+1) 0],yc l⟩,⟨qR,[],[.ptr H.length 0,.ptr (H.length+1) 0],tD l⟩,
   ⟨qS,[],[.ptr H.length 0,.ptr (H.length+1) 0],wq l⟩,⟨qT,[],[.ptr H.length 0,.ptr (H.length+1) 0],yd l⟩,⟨qV,[],[.ptr H.length 0,.ptr (H.length+1) 0],Aw l⟩]) (by simp [aZ]) (by
  have h0:(H++[ag.cells l.row aq,.cells l.row bu])[H.length]?=some (.cells l.row aq):=by rw [cu];rfl
  have h1:(H++[ag.cells l.row aq,.cells l.row bu])[H.length+1]?=some (.cells l.row bu):=by rw [hp_getk];rfl
  have h2:n≤(H++[ag.cells l.row aq,.cells l.row bu]).length:=by simp;omega
  intro x hx
  simp only [List.mem_cons,List.not_mem_nil,or_false] at hx
  rcases hx with rfl | rfl | rfl | rfl | rfl | rfl
  ·exact N5 M hN hE hl _
  ·exact MT M hN hE hl h2 h0 h1
  ·exact MU M hN hE hl h2 h0 h1
  ·exact MV M hN hE hl h2 h0 h1
  ·exact MW M hN hE hl h2 h0 h1
  ·exact MX M hN hE hl h2 h0 h1)
 simp only [List.map_cons,List.map_nil,Clo.row] at hf
 simp (maxSteps:=3000000) (maxDischargeDepth:=6) +contextual -implicitDefEqProofs only [amA M,amB,↓ae,↓aa,↓aj,↓ah,Nat.reduceBEq,Nat.reduceAdd,env,am,JE,amG,AV.cell,Nat.reduceMul,Nat.reduceLeDiff,hf,bp]
 rfl
end
section
attribute [local congr] aS eb bQ aT bv bb aU aC aD bc be
variable{E:bP}(M:dO d8 E)
structure tE (E:bP):Prop where
 truchmanref02_trait:E.fn kG=some eg
 truchmanref02_Class:E.fn eU=some ee
 truchmanref02_in:E.fn ko=some fu
 truchmanref02_bundle:E.fn fE=some dV
 truchmanref02_traits:E.fn mP=some cH
 truchmanref02_classes:E.fn lR=some co
 truchmanref02_Unify:E.fn i5=some b4
 truchmanref02_entries:E.fn lS=some aY
 truchmanref02_Check:E.fn gd=some bZ
theorem Pd{H H0:List ag}{l:Lex}{n0:Nat}(hl:l.ok n0){v:Str}{p:Nat}{T:TypeId}(hp:H[p]?=some (.cells l.row T))(hc:bO H0 H)(k:List Fra):∀ (n i:Nat) (He:List ag),i+n=(l.traits.l).length →
  M.go eg H0 (.c ik :: .lp ⟨(some [1,2,5]),[],false⟩ ik He :: .blk 0 :: .c (.lv [])::k) (kv [(1,.str v),(2,.ptr p 0),(5,.int .i64 i)]) H =
   orE (bI (wX fun t=>t.name == v) i (l.traits.l.drop i)) (H.take H0.length) (M.go eg H0 k .leaf H)
 |0,i,He,h=>by
  have e:i=(l.traits.l).length:=by omega
  subst e
  rw [ao M ik.eq_1]
  simp (maxSteps:=3000000) (maxDischargeDepth:=6) +contextual -implicitDefEqProofs only [amA M,amB,↓ae,↓aa,↓aj,↓ah,Nat.reduceBEq,Nat.reduceAdd,env,am,oO,Nat.lt_irrefl,List.drop_length,bp,hp]
 |n+1,i,He,h=>by
  have hi:i<(l.traits.l).length:=by omega
  have hx:(l.traits.l)[i]?=some (l.traits.l)[i]:=List.getElem?_eq_getElem hi
  have hd:((l.traits.l).drop i)=(l.traits.l)[i]::(l.traits.l).drop (i+1):=List.drop_eq_getElem_cons hi
  have hm:(l.traits.l)[i]∈(l.traits.l):=List.getElem_mem hi
  have ih:=fun He=>Pd (H:=H) (H0:=H0) (l:=l) (n0:=n0) (hl:=hl) (v:=v) (p:=p) (T:=T) (hp:=hp) hc k n (i+1)  He (by omega)
  simp only [kv_cons,kv_nil] at ih
  rw [ao M ik.eq_1]
  simp (maxSteps:=3000000) (maxDischargeDepth:=6) +contextual -implicitDefEqProofs only [amA M,amB,↓ae,↓aa,↓aj,↓ah,Nat.reduceBEq,Nat.reduceAdd,env,am,oO,hx,hd,hi,ih,bq hi hl.traits.len,az hi,bp,oa,hp,wX,hc]
theorem I0(hR:tE E){l:Lex}{n:Nat}(hl:l.ok n)(v:Str)(H:List ag):M.run kG [.agg l.row,.str v] H=some (.ret (.int .i64 (uP (fun t=>t.name == v) 0 l.traits.l)),H):=by
 rw [aM M hR.truchmanref02_trait rfl (c:=oN) rfl,oN]
 have h1:=fun k He=>Pd M (H:=H++[.cells l.row aq]) hl (v:=v) (p:=H.length) (T:=aq) (by rw [cu];rfl) (cut_app H _) k l.traits.l.length 0 He (by omega)
 simp only [kv_cons,kv_nil,Int.ofNat_zero,List.drop_zero] at h1
 simp (maxSteps:=3000000) (maxDischargeDepth:=6) +contextual -implicitDefEqProofs only [amA M,amB,↓ae,↓aa,↓aj,↓ah,Nat.reduceBEq,Nat.reduceAdd,env,am,oO,h1,cut_app]
 exact mq _ _ 0 H
theorem Pe{H H0:List ag}{l:Lex}{n0:Nat}(hl:l.ok n0){v:Str}{p:Nat}{T:TypeId}(hp:H[p]?=some (.cells l.row T))(hc:bO H0 H)(k:List Fra):∀ (n i:Nat) (He:List ag),i+n=(l.classes.l).length →
  M.go ee H0 (.c ii :: .lp ⟨(some [1,2,5]),[],false⟩ ii He :: .blk 0 :: .c (.lv [])::k) (kv [(1,.str v),(2,.ptr p 0),(5,.int .i64 i)]) H =
   orE (bI (wX fun t=>t.name == v) i (l.classes.l.drop i)) (H.take H0.length) (M.go ee H0 k .leaf H)
 |0,i,He,h=>by
  have e:i=(l.classes.l).length:=by omega
  subst e
  rw [ao M ii.eq_1]
  simp (maxSteps:=3000000) (maxDischargeDepth:=6) +contextual -implicitDefEqProofs only [amA M,amB,↓ae,↓aa,↓aj,↓ah,Nat.reduceBEq,Nat.reduceAdd,env,am,oK,Nat.lt_irrefl,List.drop_length,bp,hp]
 |n+1,i,He,h=>by
  have hi:i<(l.classes.l).length:=by omega
  have hx:(l.classes.l)[i]?=some (l.classes.l)[i]:=List.getElem?_eq_getElem hi
  have hd:((l.classes.l).drop i)=(l.classes.l)[i]::(l.classes.l).drop (i+1):=List.drop_eq_getElem_cons hi
  have hm:(l.classes.l)[i]∈(l.classes.l):=List.getElem_mem hi
  have ih:=fun He=>Pe (H:=H) (H0:=H0) (l:=l) (n0:=n0) (hl:=hl) (v:=v) (p:=p) (T:=T) (hp:=hp) hc k n (i+1)  He (by omega)
  simp only [kv_cons,kv_nil] at ih
  rw [ao M ii.eq_1]
  simp (maxSteps:=3000000) (maxDischargeDepth:=6) +contextual -implicitDefEqProofs only [amA M,amB,↓ae,↓aa,↓aj,↓ah,Nat.reduceBEq,Nat.reduceAdd,env,am,oK,hx,hd,hi,ih,bq hi hl.classes.len,az hi,bp,iy,hp,wX,hc]
theorem Ax(hR:tE E){l:Lex}{n:Nat}(hl:l.ok n)(v:Str)(H:List ag):M.run eU [.agg l.row,.str v] H=some (.ret (.int .i64 (uP (fun t=>t.name == v) 0 l.classes.l)),H):=by
 rw [aM M hR.truchmanref02_Class rfl (c:=oJ) rfl,oJ]
 have h1:=fun k He=>Pe M (H:=H++[.cells l.row aq]) hl (v:=v) (p:=H.length) (T:=aq) (by rw [cu];rfl) (cut_app H _) k l.classes.l.length 0 He (by omega)
 simp only [kv_cons,kv_nil,Int.ofNat_zero,List.drop_zero] at h1
 simp (maxSteps:=3000000) (maxDischargeDepth:=6) +contextual -implicitDefEqProofs only [amA M,amB,↓ae,↓aa,↓aj,↓ah,Nat.reduceBEq,Nat.reduceAdd,env,am,oK,h1,cut_app]
 exact mq _ _ 0 H
def inF(v:Str):Nat→Str→Option AV:=fun _ s=>sel (v == s) (some (.bool true)) none
theorem MY(v:Str):∀ (l:List Str) (i:Nat) (H:List ag),orE (bI (inF v) i l) H (some (.ret (.bool false),H))=some (.ret (.bool (l.any fun s=>v == s)),H)
 |[],_,_=>rfl
 |s::l,i,H=>by
  rw [jl,inF,List.any_cons,EY,z8,BO,BP,vD,MY v l]
  cases v == s<;>rfl
theorem Ay(a b:Str):(a == b)=(b == a):=BEq.comm
theorem Uw{H H0:List ag}{v:Str}{tg:Tag}{l:List Str}(hs:l.length≤aZ)(hc:bO H0 H)(k:List Fra):∀ (n i:Nat) (He:List ag),i+n=l.length →
  M.go fu H0 (.c jp :: .lp ⟨(some [0,1,5]),[],false⟩ jp He :: .blk 0 :: .c (.lv [])::k) (kv [(0,.slice tg 1 (l.map jk)),(1,.str v),(5,.int .i64 i)]) H =
   orE (bI (inF v) i (l.drop i)) (H.take H0.length) (M.go fu H0 k .leaf H)
 |0,i,He,h=>by
  have e:i=l.length:=by omega
  subst e
  rw [ao M jp.eq_1]
  simp (maxSteps:=3000000) (maxDischargeDepth:=6) +contextual -implicitDefEqProofs only [amA M,amB,↓ae,↓aa,↓aj,↓ah,Nat.reduceBEq,Nat.reduceAdd,env,am,rb,Nat.lt_irrefl,List.drop_length]
 |n+1,i,He,h=>by
  have hi:i<l.length:=by omega
  have hx:l[i]?=some l[i]:=List.getElem?_eq_getElem hi
  have hd:(l.drop i)=l[i]::l.drop (i+1):=List.drop_eq_getElem_cons hi
  have hm:l[i]∈l:=List.getElem_mem hi
  have ih:=fun He=>Uw (H:=H) (H0:=H0) (v:=v) (tg:=tg) (l:=l) (hs:=hs) hc k n (i+1)  He (by omega)
  simp only [kv_cons,kv_nil] at ih
  rw [ao M jp.eq_1]
  simp (maxSteps:=3000000) (maxDischargeDepth:=6) +contextual -implicitDefEqProofs only [amA M,amB,↓ae,↓aa,↓aj,↓ah,Nat.reduceBEq,Nat.reduceAdd,env,am,rb,hx,hd,hi,ih,bq hi hs,az hi,Lx,inF,hc,Ay v]
theorem LF(hR:tE E){v:Str}{tg:Tag}{l:List Str}(hs:l.length≤aZ)(H:List ag):M.run ko [.slice tg 1 (l.map jk),.str v] H=some (.ret (.bool (l.any fun s=>v == s)),H):=by
 rw [aM M hR.truchmanref02_in rfl (c:=ra) rfl,ra]
 have h1:=fun k He=>Uw M (tg:=tg) (v:=v) hs (cut_refl H) k l.length 0 He (by omega)
 simp only [kv_cons,kv_nil,Int.ofNat_zero,List.drop_zero] at h1
 simp (maxSteps:=3000000) (maxDischargeDepth:=6) +contextual -implicitDefEqProofs only [amA M,amB,↓ae,↓aa,↓aj,↓ah,Nat.reduceBEq,Nat.reduceAdd,env,am,rb,h1]
 exact MY _ _ 0 H
theorem rbl{H H0:List ag}(hR:tE E){l:Lex}{n0:Nat}(hl:l.ok n0){b:List au}{tg:Tag}(hb:b.length≤aZ){p:Nat}{T:TypeId}(hp:H[p]?=some (.cells l.row T))(hc:bO H0 H)(k:List Fra):∀ (n i:Nat) (He:List ag),i+n=b.length →
  M.go dV H0 (.c dY :: .lp ⟨(some [1,2,5]),[],false⟩ dY He :: .blk 0 :: .c (.lv [])::k) (kv [(1,.slice tg 2 (b.map au.row)),(2,.ptr p 0),(5,.int .i64 i)]) H =
   orE (bI (pC (IY l b)) i (b.drop i)) (H.take H0.length) (M.go dV H0 k .leaf H)
 |0,i,He,h=>by
  have e:i=b.length:=by omega
  subst e
  rw [ao M dY.eq_1]
  simp (maxSteps:=3000000) (maxDischargeDepth:=6) +contextual -implicitDefEqProofs only [amA M,amB,↓ae,↓aa,↓aj,↓ah,Nat.reduceBEq,Nat.reduceAdd,env,am,iD,Nat.lt_irrefl,List.drop_length]
 |n+1,i,He,h=>by
  have hi:i<b.length:=by omega
  have hx:b[i]?=some b[i]:=List.getElem?_eq_getElem hi
  have hd:(b.drop i)=b[i]::b.drop (i+1):=List.drop_eq_getElem_cons hi
  have hm:b[i]∈b:=List.getElem_mem hi
  have ih:=fun He=>rbl (H:=H) (H0:=H0) (hR:=hR) (l:=l) (n0:=n0) (hl:=hl) (b:=b) (tg:=tg) (hb:=hb) (p:=p) (T:=T) (hp:=hp) hc k n (i+1)  He (by omega)
  simp only [kv_cons,kv_nil] at ih
  have hcf:=fun H=>I0 M hR hl b[i].name H
  rcases pD (fun t:bA=>t.name == b[i].name) l.traits.l 0 with ⟨h1,h2⟩ | ⟨j,t,h1,h2,h3⟩
  ·rw [h1] at hcf
   rw [ao M dY.eq_1]
   simp (maxSteps:=3000000) (maxDischargeDepth:=6) +contextual -implicitDefEqProofs only [amA M,amB,↓ae,↓aa,↓aj,↓ah,Nat.reduceBEq,Nat.reduceAdd,env,am,iD,hx,hd,hi,ih,hcf,bp,mE,hp,az hi,li,IY,h2,SV,qE,hc]
  ·rw [h1,Nat.zero_add] at hcf
   have hj:j<l.traits.l.length:=(List.getElem?_eq_some_iff.1 h2).1
   have htm:t∈l.traits.l:=List.mem_of_getElem? h2
   cases i with
   |zero=>
    rw [ao M dY.eq_1]
    simp (maxSteps:=3000000) (maxDischargeDepth:=6) +contextual -implicitDefEqProofs only [amA M,amB,↓ae,↓aa,↓aj,↓ah,Nat.reduceBEq,Nat.reduceAdd,env,am,iD,hx,hd,hi,ih,hcf,bp,mE,oa,hp,az hi,Rp hi,li,IY,h2,h3,Hr,Uu,D7,qE,hc,az hj,LF M hR (hl.traits.all t htm).values.len,bq hi hb]
   |succ i=>
    have hx1:b[i]?=some b[i]:=List.getElem?_eq_getElem (by omega)
    rw [ao M dY.eq_1]
    simp (maxSteps:=3000000) (maxDischargeDepth:=6) +contextual -implicitDefEqProofs only [amA M,amB,↓ae,↓aa,↓aj,↓ah,Nat.reduceBEq,Nat.reduceAdd,env,am,iD,hx,hd,hi,ih,hcf,bp,mE,oa,hp,az hi,li,IY,h2,h3,Hr,Uv,pF hx1,hx1,az (show i<b.length by omega),FV (show i+1≤aZ by omega),qE,hc,az hj,LF M hR (hl.traits.all t htm).values.len,bq hi hb]
theorem xF(hR:tE E){l:Lex}{b:List au}{tg:Tag}{n:Nat}(hl:l.ok n)(hb:b.length≤aZ)(H:List ag) :
  M.run fE [.agg l.row,.slice tg 2 (b.map au.row)] H=some (.ret (.int .u8 (pa l b)),H):=by
 rw [aM M hR.truchmanref02_bundle rfl (c:=nh) rfl,nh]
 have h1:=fun k He=>rbl M hR (H:=H++[.cells l.row aq]) hl (tg:=tg) hb (p:=H.length) (T:=aq) (by rw [cu];rfl) (cut_app H _) k b.length 0 He (by omega)
 simp only [kv_cons,kv_nil,Int.ofNat_zero,List.drop_zero] at h1
 simp (maxSteps:=3000000) (maxDischargeDepth:=6) +contextual -implicitDefEqProofs only [amA M,amB,↓ae,↓aa,↓aj,↓ah,Nat.reduceBEq,Nat.reduceAdd,env,am,iD,h1,cut_app,rj,o9,pa,lK]
end
section
attribute [local congr] aS eb bQ aT bv bb aU aC aD bc be
variable{E:bP}(M:dO d8 E)
theorem RE{α:Type}{p:α→Bool}:∀ {l:List α}{i:Nat}{x:α},l[i]?=some x→p x=true→∀ s:Nat,decide (uP p s l<((s+i:Nat):Int))=(l.take i).any p
 |[],_,_,h,_,_=>by simp at h
 |y::l,0,x,h,hp,s=>by
  obtain rfl:y=x:=by simpa using h
  simp only [uP,hp,sel,List.take_zero,List.any_nil,Nat.add_zero]
  exact decide_eq_false (by omega)
 |y::l,i+1,x,h,hp,s=>by
  rw [List.take_succ_cons,List.any_cons,uP]
  cases hy:p y with
  |true=>simp only [sel,Bool.true_or];exact decide_eq_true (by omega)
  |false=>
   have:=RE (l:=l) (i:=i) (x:=x) (by simpa using h) hp (s+1)
   rw [Bool.false_or,← this]
   simp only [sel]
   congr 2
   omega
theorem Pf{α:Type}{p:α→Bool}{l:List α}{i:Nat}{x:α}(h:l[i]?=some x)(hp:p x=true):decide (uP p 0 l<(i:Int))=(l.take i).any p:=by
 have:=RE h hp 0
 rwa [Nat.zero_add] at this
theorem rtv{H H0:List ag}(hN:bz E)(hR:tE E){t:bA}{n0:Nat}(ht:t.ok n0){p q:Nat}{T:TypeId}(hq:H[q]?=some (.cells t.row T)){i0:Nat}(hc:bO H0 H)(k:List Fra):∀ (n i:Nat) (He:List ag),i+n=(t.values.l).length →
  M.go cH H0 (.c gu :: .lp ⟨(some [1,3,4,5]),[],false⟩ gu He :: .blk 3 :: .c (.lv [1,3])::k) (kv [(1,.ptr p 0),(3,.int .i64 i0),(4,.ptr q 0),(5,.int .i64 i)]) H =
   orE (bI (pC (RD t)) i (t.values.l.drop i)) (H.take H0.length) (M.go cH H0 k (kv [(1,.ptr p 0),(3,.int .i64 i0)]) H)
 |0,i,He,h=>by
  have e:i=(t.values.l).length:=by omega
  subst e
  rw [ao M gu.eq_1]
  simp (maxSteps:=3000000) (maxDischargeDepth:=6) +contextual -implicitDefEqProofs only [amA M,amB,↓ae,↓aa,↓aj,↓ah,Nat.reduceBEq,Nat.reduceAdd,env,am,iF,Nat.lt_irrefl,List.drop_length,oa,hq]
 |n+1,i,He,h=>by
  have hi:i<(t.values.l).length:=by omega
  have hx:(t.values.l)[i]?=some (t.values.l)[i]:=List.getElem?_eq_getElem hi
  have hd:((t.values.l).drop i)=(t.values.l)[i]::(t.values.l).drop (i+1):=List.drop_eq_getElem_cons hi
  have hm:(t.values.l)[i]∈(t.values.l):=List.getElem_mem hi
  have ih:=fun He=>rtv (H:=H) (H0:=H0) (hN:=hN) (hR:=hR) (t:=t) (n0:=n0) (ht:=ht) (p:=p) (q:=q) (T:=T) (hq:=hq) (i0:=i0) hc k n (i+1)  He (by omega)
  simp only [kv_cons,kv_nil] at ih
  rw [ao M gu.eq_1]
  simp (maxSteps:=3000000) (maxDischargeDepth:=6) +contextual -implicitDefEqProofs only [amA M,amB,↓ae,↓aa,↓aj,↓ah,Nat.reduceBEq,Nat.reduceAdd,env,am,iF,hx,hd,hi,ih,bq hi ht.values.len,az hi,oa,Lx,hq,Gi M hN (ht.values.all _ hm),FU hi,LF M hR (yS ht.values.len i),li,RD,qE,hc]
theorem rtr{H H0:List ag}(hN:bz E)(hR:tE E){l:Lex}{n0:Nat}(hl:l.ok n0){p:Nat}{T:TypeId}(hp:H[p]?=some (.cells l.row T))(hc:bO H0 H)(k:List Fra):∀ (n i:Nat),i+n=(l.traits.l).length →
  M.go cH H0 (.c gv :: .lp ⟨(some [1,3]),[],true⟩ gv H :: .blk 0 :: .c (.lv [])::k) (kv [(1,.ptr p 0),(3,.int .i64 i)]) H =
   orE (bI (pC (Gj l)) i (l.traits.l.drop i)) (H.take H0.length) (M.go cH H0 k .leaf H)
 |0,i,h=>by
  have e:i=(l.traits.l).length:=by omega
  subst e
  rw [ao M gv.eq_1]
  simp (maxSteps:=3000000) (maxDischargeDepth:=6) +contextual -implicitDefEqProofs only [amA M,amB,↓ae,↓aa,↓aj,↓ah,Nat.reduceBEq,Nat.reduceAdd,env,am,iF,Nat.lt_irrefl,List.drop_length,bp,hp]
 |n+1,i,h=>by
  have hi:i<(l.traits.l).length:=by omega
  have hx:(l.traits.l)[i]?=some (l.traits.l)[i]:=List.getElem?_eq_getElem hi
  have hd:((l.traits.l).drop i)=(l.traits.l)[i]::(l.traits.l).drop (i+1):=List.drop_eq_getElem_cons hi
  have hm:(l.traits.l)[i]∈(l.traits.l):=List.getElem_mem hi
  have ih:=rtr (H:=H) (H0:=H0) (hN:=hN) (hR:=hR) (l:=l) (n0:=n0) (hl:=hl) (p:=p) (T:=T) (hp:=hp) hc k n (i+1)  (by omega)
  simp only [kv_cons,kv_nil] at ih
  have hp':=fun L=>cf (L:=L) hp
  have w1:Wk H.length (.ptr p 0) (.ptr p 0):=wk_ptr (List.getElem?_eq_some_iff.1 hp).1
  have ht:=hl.traits.all _ hm
  have h0:=fun k He=>rtv M (H:=H++[.cells l.traits.l[i].row gb]) (H0:=H0) hN hR ht (p:=p) (q:=H.length) (T:=gb) (by rw [cu];rfl) (i0:=i) (pm hc _) k l.traits.l[i].values.l.length 0 He (by omega)
  simp only [kv_cons,kv_nil,Int.ofNat_zero,List.drop_zero] at h0
  rw [ao M gv.eq_1]
  simp (maxSteps:=3000000) (maxDischargeDepth:=6) +contextual -implicitDefEqProofs only [amA M,amB,↓ae,↓aa,↓aj,↓ah,Nat.reduceBEq,Nat.reduceAdd,env,am,iF,hx,hd,hi,ih,amG,AV.cell,hp,hp',w1,h0,bq hi hl.traits.len,az hi,bp,oa,Gi M hN ht.name,I0 M hR hl,Pf (p:=fun t:bA=>t.name == l.traits.l[i].name) hx (by simp),li,Gj,qE,Fp,hc]
theorem GR(hN:bz E)(hR:tE E){l:Lex}{n:Nat}(hl:l.ok n)(H:List ag):M.run mP [.agg l.row] H=some (.ret (.int .u8 (yc l)),H):=by
 rw [aM M hR.truchmanref02_traits rfl (c:=ni) rfl,ni]
 have h1:=fun k=>rtr M hN hR (H:=H++[.cells l.row aq]) hl (p:=H.length) (T:=aq) (by rw [cu];rfl) (cut_app H _) k l.traits.l.length 0 (by omega)
 simp only [kv_cons,kv_nil,Int.ofNat_zero,List.drop_zero] at h1
 simp (maxSteps:=3000000) (maxDischargeDepth:=6) +contextual -implicitDefEqProofs only [amA M,amB,↓ae,↓aa,↓aj,↓ah,Nat.reduceBEq,Nat.reduceAdd,env,am,iF,h1,bp,cut_app,rj,o9,yc,lK]
theorem Gk(s:Str):(!pE jb s)=(!ofF [] s||decide (6<(s.length:Int))):=by
 rw [HH,pE]
 cases s.all jb with
 |false=>simp
 |true=>simp only [Bool.and_true,Bool.not_true,Bool.false_or];rw [Bool.eq_iff_iff];simp
theorem rcs{H H0:List ag}(hN:bz E)(hR:tE E){l:Lex}{c:aX}{n0:Nat}(hl:l.ok n0)(hco:c.ok n0){p q:Nat}{T T2:TypeId}(hp:H[p]?=some (.cells l.row T))(hq:H[q]?=some (.cells c.row T2)){i0:Nat}(hc:bO H0 H)(k:List Fra):∀ (n i:Nat),i+n=(c.slots.l).length →
  M.go co H0 (.c fO :: .lp ⟨(some [1,3,4,5]),[],true⟩ fO H :: .blk 3 :: .c (.lv [1,3])::k) (kv [(1,.ptr p 0),(3,.int .i64 i0),(4,.ptr q 0),(5,.int .i64 i)]) H =
   orE (bI (pC fun _ s=>Ce l s) i (c.slots.l.drop i)) (H.take H0.length) (M.go co H0 k (kv [(1,.ptr p 0),(3,.int .i64 i0)]) H)
 |0,i,h=>by
  have e:i=(c.slots.l).length:=by omega
  subst e
  rw [ao M fO.eq_1]
  simp (maxSteps:=3000000) (maxDischargeDepth:=6) +contextual -implicitDefEqProofs only [amA M,amB,↓ae,↓aa,↓aj,↓ah,Nat.reduceBEq,Nat.reduceAdd,env,am,ig,Nat.lt_irrefl,List.drop_length,iy,hq]
 |n+1,i,h=>by
  have hi:i<(c.slots.l).length:=by omega
  have hx:(c.slots.l)[i]?=some (c.slots.l)[i]:=List.getElem?_eq_getElem hi
  have hd:((c.slots.l).drop i)=(c.slots.l)[i]::(c.slots.l).drop (i+1):=List.drop_eq_getElem_cons hi
  have hm:(c.slots.l)[i]∈(c.slots.l):=List.getElem_mem hi
  have ih:=rcs (H:=H) (H0:=H0) (hN:=hN) (hR:=hR) (l:=l) (c:=c) (n0:=n0) (hl:=hl) (hco:=hco) (p:=p) (q:=q) (T:=T) (T2:=T2) (hp:=hp) (hq:=hq) (i0:=i0) hc k n (i+1)  (by omega)
  simp only [kv_cons,kv_nil] at ih
  have hp':=fun L=>cf (L:=L) hp
  have hq':=fun L=>cf (L:=L) hq
  have w1:Wk H.length (.ptr p 0) (.ptr p 0):=wk_ptr (List.getElem?_eq_some_iff.1 hp).1
  have w2:Wk H.length (.ptr q 0) (.ptr q 0):=wk_ptr (List.getElem?_eq_some_iff.1 hq).1
  have hs:=hco.slots.all _ hm
  have e1:Ce l c.slots.l[i]=sel (decide (c.slots.l[i].cut<0)||(decide (24<c.slots.l[i].cut)||(!ofF [] c.slots.l[i].pre||(decide (6<(c.slots.l[i].pre.length:Int))||(!ofF [] c.slots.l[i].add||decide (6<(c.slots.l[i].add.length:Int))))))) 1 (pa l c.slots.l[i].feats.l):=by
   rw [Ce,Gk,Gk];simp only [Bool.or_assoc]
  rw [ao M fO.eq_1]
  simp (maxSteps:=3000000) (maxDischargeDepth:=6) +contextual -implicitDefEqProofs only [amA M,amB,↓ae,↓aa,↓aj,↓ah,Nat.reduceBEq,Nat.reduceAdd,env,am,ig,hx,hd,hi,ih,amG,AV.cell,hp,hq,hp',hq',w1,w2,bq hi hco.slots.len,az hi,bp,iy,fk,Ap M hN hs.pre (more:=[]) (by simp),Ap M hN hs.add (more:=[]) (by simp),xF M hR hl hs.feats.len,li,e1,Bool.or_assoc,qE,LD,hc]
theorem Ux{H H0:List ag}(hN:bz E)(hR:tE E){l:Lex}{n0:Nat}(hl:l.ok n0){p:Nat}{T:TypeId}(hp:H[p]?=some (.cells l.row T))(hc:bO H0 H)(k:List Fra):∀ (n i:Nat),i+n=(l.classes.l).length →
  M.go co H0 (.c fP :: .lp ⟨(some [1,3]),[],true⟩ fP H :: .blk 0 :: .c (.lv [])::k) (kv [(1,.ptr p 0),(3,.int .i64 i)]) H =
   orE (bI (pC (Cf l)) i (l.classes.l.drop i)) (H.take H0.length) (M.go co H0 k .leaf H)
 |0,i,h=>by
  have e:i=(l.classes.l).length:=by omega
  subst e
  rw [ao M fP.eq_1]
  simp (maxSteps:=3000000) (maxDischargeDepth:=6) +contextual -implicitDefEqProofs only [amA M,amB,↓ae,↓aa,↓aj,↓ah,Nat.reduceBEq,Nat.reduceAdd,env,am,ig,Nat.lt_irrefl,List.drop_length,bp,hp]
 |n+1,i,h=>by
  have hi:i<(l.classes.l).length:=by omega
  have hx:(l.classes.l)[i]?=some (l.classes.l)[i]:=List.getElem?_eq_getElem hi
  have hd:((l.classes.l).drop i)=(l.classes.l)[i]::(l.classes.l).drop (i+1):=List.drop_eq_getElem_cons hi
  have hm:(l.classes.l)[i]∈(l.classes.l):=List.getElem_mem hi
  have ih:=Ux (H:=H) (H0:=H0) (hN:=hN) (hR:=hR) (l:=l) (n0:=n0) (hl:=hl) (p:=p) (T:=T) (hp:=hp) hc k n (i+1)  (by omega)
  simp only [kv_cons,kv_nil] at ih
  have hp':=fun L=>cf (L:=L) hp
  have w1:Wk H.length (.ptr p 0) (.ptr p 0):=wk_ptr (List.getElem?_eq_some_iff.1 hp).1
  have ht:=hl.classes.all _ hm
  have h0:=fun k=>rcs M (H:=H++[.cells l.classes.l[i].row b6]) (H0:=H0) hN hR hl ht (p:=p) (q:=H.length) (T:=T) (T2:=b6) (hp' _) (by rw [cu];rfl) (i0:=i) (pm hc _) k l.classes.l[i].slots.l.length 0 (by omega)
  simp only [kv_cons,kv_nil,Int.ofNat_zero,List.drop_zero] at h0
  rw [ao M fP.eq_1]
  simp (maxSteps:=3000000) (maxDischargeDepth:=6) +contextual -implicitDefEqProofs only [amA M,amB,↓ae,↓aa,↓aj,↓ah,Nat.reduceBEq,Nat.reduceAdd,env,am,ig,hx,hd,hi,ih,amG,AV.cell,hp,hp',w1,h0,bq hi hl.classes.len,az hi,bp,iy,Gi M hN ht.name,Ax M hR hl,Pf (p:=fun t:aX=>t.name == l.classes.l[i].name) hx (by simp),li,Cf,qE,Fp,lK,hc]
theorem Fq(hN:bz E)(hR:tE E){l:Lex}{n:Nat}(hl:l.ok n)(H:List ag):M.run lR [.agg l.row] H=some (.ret (.int .u8 (tD l)),H):=by
 rw [aM M hR.truchmanref02_classes rfl (c:=l4) rfl,l4]
 have h1:=fun k=>Ux M hN hR (H:=H++[.cells l.row aq]) hl (p:=H.length) (T:=aq) (by rw [cu];rfl) (cut_app H _) k l.classes.l.length 0 (by omega)
 simp only [kv_cons,kv_nil,Int.ofNat_zero,List.drop_zero] at h1
 simp (maxSteps:=3000000) (maxDischargeDepth:=6) +contextual -implicitDefEqProofs only [amA M,amB,↓ae,↓aa,↓aj,↓ah,Nat.reduceBEq,Nat.reduceAdd,env,am,ig,h1,bp,cut_app,rj,o9,tD,lK]
end
section
attribute [local congr] aS eb bQ aT bv bb aU aC aD bc be
variable{E:bP}(M:dO d8 E)
def qF(p:au):List au→Bool
 |[]=>true
 |x::l=>Op.bytesLess p.name x.name&&qF x l
def uQ:List au→Bool
 |[]=>true
 |x::l=>qF x l
def noU:AV:=.tuple [.slice .any 2 [],.bool false]
def N7(b:List au):Nat→au→Option AV:=fun i x=>sel (D7 b (fun g => !Op.bytesLess g.name x.name) i) (some noU) none
theorem KB(b:List au):∀ (l:List au) (i:Nat) (f:au),b[i]?=some f→b.drop (i+1)=l→bI (N7 b) (i+1) l=sel (qF f l) none (some noU)
 |[],i,f,_,_=>rfl
 |x::l,i,f,h,hd=>by
  have h2:b[i+1]?=some x:=by
   have:=List.getElem?_drop (xs:=b) (i:=i+1) (j:=0)
   rw [hd] at this;simpa using this.symm
  have hd2:b.drop (i+1+1)=l:=by
   have:(b.drop (i+1)).drop 1=l:=by rw [hd];rfl
   rwa [List.drop_drop] at this
  rw [jl,KB b l (i+1) x h2 hd2,N7,pF h,qF]
  cases Op.bytesLess f.name x.name<;>cases qF x l<;>rfl
theorem N8(b:List au)(H:List ag)(x:Option Out):orE (bI (N7 b) 1 (b.drop 1)) H x=sel (uQ b) x (some (.ret noU,H)):=by
 cases b with
 |nil=>rfl
 |cons f l=>
  rw [show List.drop 1 (f::l)=l from rfl,KB (f::l) l 0 f rfl rfl,uQ]
  cases qF f l<;>rfl
theorem Uy{H H0:List ag}{a b:Sl au}(ha:a.l.length≤aZ)(hb:b.l.length≤aZ)(hc:bO H0 H)(k:List Fra):∀ (n i:Nat) (h1:1≤i) (He:List ag),(a.l).length-i=n →
  M.go b4 H0 (.c im :: .lp ⟨(some [0,1,6]),[],false⟩ im He :: .blk 0 :: .c (.lv [0,1])::k) (kv [(0,.slice a.tag 2 (a.l.map au.row)),(1,.slice b.tag 2 (b.l.map au.row)),(6,.int .i64 i)]) H =
   orE (bI (N7 a.l) i (a.l.drop i)) (H.take H0.length) (M.go b4 H0 k (kv [(0,.slice a.tag 2 (a.l.map au.row)),(1,.slice b.tag 2 (b.l.map au.row))]) H)
 |0,i,h1,He,h=>by
  have e:¬ i<(a.l).length:=by omega
  have e2:(a.l).drop i=[]:=List.drop_of_length_le (by omega)
  rw [ao M im.eq_1]
  simp (maxSteps:=3000000) (maxDischargeDepth:=6) +contextual -implicitDefEqProofs only [amA M,amB,↓ae,↓aa,↓aj,↓ah,Nat.reduceBEq,Nat.reduceAdd,env,am,bH,e,e2]
 |n+1,i,h1,He,h=>by
  have hi:i<(a.l).length:=by omega
  have hx:(a.l)[i]?=some (a.l)[i]:=List.getElem?_eq_getElem hi
  have hd:((a.l).drop i)=(a.l)[i]::(a.l).drop (i+1):=List.drop_eq_getElem_cons hi
  have hm:(a.l)[i]∈(a.l):=List.getElem_mem hi
  have ih:=fun h1 He=>Uy (H:=H) (H0:=H0) (a:=a) (b:=b) (ha:=ha) (hb:=hb) hc k n (i+1) h1 He (by omega)
  simp only [kv_cons,kv_nil] at ih
  have ih:=ih (by omega)
  cases i with
  |zero=>omega
  |succ i=>
   have hx1:a.l[i]?=some a.l[i]:=List.getElem?_eq_getElem (by omega)
   rw [ao M im.eq_1]
   simp (maxSteps:=3000000) (maxDischargeDepth:=6) +contextual -implicitDefEqProofs only [amA M,amB,↓ae,↓aa,↓aj,↓ah,Nat.reduceBEq,Nat.reduceAdd,env,am,bH,hx,hd,hi,ih,mE,hx1,az hi,az (show i<a.l.length by omega),FV (show i+1≤aZ by omega),bq hi ha,N7,pF hx1,hc,noU,i9]
theorem Uz{H H0:List ag}{a b:Sl au}(ha:a.l.length≤aZ)(hb:b.l.length≤aZ)(hc:bO H0 H)(k:List Fra):∀ (n i:Nat) (h1:1≤i) (He:List ag),(b.l).length-i=n →
  M.go b4 H0 (.c io :: .lp ⟨(some [0,1,7]),[],false⟩ io He :: .blk 2 :: .c (.lv [0,1])::k) (kv [(0,.slice a.tag 2 (a.l.map au.row)),(1,.slice b.tag 2 (b.l.map au.row)),(7,.int .i64 i)]) H =
   orE (bI (N7 b.l) i (b.l.drop i)) (H.take H0.length) (M.go b4 H0 k (kv [(0,.slice a.tag 2 (a.l.map au.row)),(1,.slice b.tag 2 (b.l.map au.row))]) H)
 |0,i,h1,He,h=>by
  have e:¬ i<(b.l).length:=by omega
  have e2:(b.l).drop i=[]:=List.drop_of_length_le (by omega)
  rw [ao M io.eq_1]
  simp (maxSteps:=3000000) (maxDischargeDepth:=6) +contextual -implicitDefEqProofs only [amA M,amB,↓ae,↓aa,↓aj,↓ah,Nat.reduceBEq,Nat.reduceAdd,env,am,bH,e,e2]
 |n+1,i,h1,He,h=>by
  have hi:i<(b.l).length:=by omega
  have hx:(b.l)[i]?=some (b.l)[i]:=List.getElem?_eq_getElem hi
  have hd:((b.l).drop i)=(b.l)[i]::(b.l).drop (i+1):=List.drop_eq_getElem_cons hi
  have hm:(b.l)[i]∈(b.l):=List.getElem_mem hi
  have ih:=fun h1 He=>Uz (H:=H) (H0:=H0) (a:=a) (b:=b) (ha:=ha) (hb:=hb) hc k n (i+1) h1 He (by omega)
  simp only [kv_cons,kv_nil] at ih
  have ih:=ih (by omega)
  cases i with
  |zero=>omega
  |succ i=>
   have hx1:b.l[i]?=some b.l[i]:=List.getElem?_eq_getElem (by omega)
   rw [ao M io.eq_1]
   simp (maxSteps:=3000000) (maxDischargeDepth:=6) +contextual -implicitDefEqProofs only [amA M,amB,↓ae,↓aa,↓aj,↓ah,Nat.reduceBEq,Nat.reduceAdd,env,am,bH,hx,hd,hi,ih,mE,hx1,az hi,az (show i<b.l.length by omega),FV (show i+1≤aZ by omega),bq hi hb,N7,pF hx1,hc,noU,i9]
end
section
attribute [local congr] aS eb bQ aT bv bb aU aC aD bc be
variable{E:bP}(M:dO d8 E)
def ga:List au→List au→Option (List au)
 |[],b=>some b
 |x::a,[]=>some (x::a)
 |x::a,y::b=>
  match Op.bytesLess x.name y.name with
  |true=>(ga a (y::b)).map (x :: ·)
  |false=>match Op.bytesLess y.name x.name with
   |true=>(ga (x::a) b).map (y :: ·)
   |false=>match x.name == y.name&&x.value == y.value with
    |true=>(ga a b).map (x :: ·)
    |false=>none
termination_by a b=>a.length+b.length
theorem SX(y:au)(b:List au):ga [] (y::b)=(ga [] b).map (y :: ·):=by simp [ga]
theorem SY(x:au)(a:List au):ga (x::a) []=(ga a []).map (x :: ·):=by
 cases a<;>simp [ga]
theorem Qm:ga [] []=some []:=by simp [ga]
def mgO(M:dO d8 E)(H0:List ag)(k:List Fra)(o:List au)(r:Option (List au))(H:List ag):Option Out:=
 match r with
 |none=>some (.ret noU,H.take H0.length)
 |some r=>M.go b4 H0 k (kv [(8,.slice (.own H.length) 2 ((o++r).map au.row))]) (H++[.tok ((o++r).length*2) aQ])
theorem Cg(H0:List ag)(k:List Fra)(o:List au)(x:au)(r:Option (List au))(H:List ag):mgO M H0 k o (r.map (x :: ·)) H=mgO M H0 k (o++[x]) r H:=by
 cases r with
 |none=>rfl
 |some r=>simp only [Option.map_some,mgO,List.append_assoc,List.cons_append,List.nil_append]
theorem um(x y:au):req (.st [(0,.str),(1,.str)]) (.agg x.row) (.agg y.row)=some (x.name == y.name&&x.value == y.value):=by
 simp only [req,yL,au.row,List.getElem?_cons_zero,List.getElem?_cons_succ,EI]
 cases x.name == y.name<;>simp
 cases x.value == y.value<;>rfl
theorem Pg(n:Nat)(x:au):WkL n (au.row x) (au.row x):=⟨wk_str _ _,wk_str _ _,trivial⟩
theorem rum{a b:Sl au}{H H0:List ag}(hc:bO H0 H)(k:List Fra):∀ (n i j:Nat) (o:List au) (He:List ag),i≤a.l.length→j≤b.l.length→(a.l.length-i)+(b.l.length-j)=n→o.length+n≤4000000000000→a.l.length+b.l.length≤4000000000000 →
  M.go b4 H0 (.c cr :: .lp ⟨(some [0,1,8,9,10]),[(8,2,aQ)],false⟩ cr He :: .blk 4 :: .c (.lv [8])::k) (kv [(0,.slice a.tag 2 (a.l.map au.row)),(1,.slice b.tag 2 (b.l.map au.row)),(8,.slice (.own H.length) 2 (o.map au.row)),(9,.int .i64 i),(10,.int .i64 j)]) (H++[.tok (o.length*2) aQ]) =
   mgO M H0 k o (ga (a.l.drop i) (b.l.drop j)) H
 |n,i,j,o,He,hi,hj,hn,ho,hab=>by
  have bi:i<a.l.length→IntKind.i64.wrap ((i:Int)+1)=((i+1:Nat):Int):=fun h=>bq h (by simp only [aZ];omega)
  have bj:j<b.l.length→IntKind.i64.wrap ((j:Int)+1)=((j+1:Nat):Int):=fun h=>bq h (by simp only [aZ];omega)
  have ap:=fun (x:au) (h:o.length+1≤4000000000000)=>TV (row:=au.row) (l:=o) (x:=x) (r:=x.row) (sz:=2) (bytes:=32) (e:=aQ) H rfl rfl rfl (by omega) (by omega)
  by_cases h1:i<a.l.length
  ·have hx:a.l[i]?=some a.l[i]:=List.getElem?_eq_getElem h1
   have hd:a.l.drop i=a.l[i]::a.l.drop (i+1):=List.drop_eq_getElem_cons h1
   have hol:o.length+1≤4000000000000:=by omega
   have i1:=fun He=>rum hc k (n-1) (i+1) j (o++[a.l[i]]) He (by omega) hj (by omega) (by simp;omega) hab
   have hne:(i == a.l.length)=false:=by simp;omega
   by_cases h2:j<b.l.length
   ·have hy:b.l[j]?=some b.l[j]:=List.getElem?_eq_getElem h2
    have hdy:b.l.drop j=b.l[j]::b.l.drop (j+1):=List.drop_eq_getElem_cons h2
    have i2:=fun He=>rum hc k (n-1) i (j+1) (o++[b.l[j]]) He hi (by omega) (by omega) (by simp;omega) hab
    have i3:=fun He=>rum hc k (n-2) (i+1) (j+1) (o++[a.l[i]]) He (by omega) (by omega) (by omega) (by simp;omega) hab
    have hne2:(j == b.l.length)=false:=by simp;omega
    simp only [kv_cons,kv_nil] at i1 i2 i3
    rw [hd,hdy,ga,← hd,← hdy]
    cases c1:Op.bytesLess a.l[i].name b.l[j].name with
    |true=>
     simp only [Cg]
     rw [ao M cr.eq_1]
     simp (maxSteps:=3000000) (maxDischargeDepth:=6) +contextual -implicitDefEqProofs only [amA M,amB,↓ae,↓aa,↓aj,↓ah,Nat.reduceBEq,Nat.reduceAdd,env,am,bH,amG,AV.cell,Nat.reduceMul,Nat.reduceLeDiff,hx,hy,h1,h2,bi h1,bj h2,mE,az h1,az h2,hne,hne2,c1,ap a.l[i] hol,i1]
    |false=>
     simp only
     cases c2:Op.bytesLess b.l[j].name a.l[i].name with
     |true=>
      simp only [Cg]
      rw [ao M cr.eq_1]
      simp (maxSteps:=3000000) (maxDischargeDepth:=6) +contextual -implicitDefEqProofs only [amA M,amB,↓ae,↓aa,↓aj,↓ah,Nat.reduceBEq,Nat.reduceAdd,env,am,bH,amG,AV.cell,Nat.reduceMul,Nat.reduceLeDiff,hx,hy,h1,h2,bi h1,bj h2,mE,az h1,az h2,hne,hne2,c1,c2,ap b.l[j] hol,i2]
     |false=>
      simp only
      cases c3:(a.l[i].name == b.l[j].name&&a.l[i].value == b.l[j].value) with
      |true=>
       simp only [Cg]
       rw [ao M cr.eq_1]
       simp (maxSteps:=3000000) (maxDischargeDepth:=6) +contextual -implicitDefEqProofs only [amA M,amB,↓ae,↓aa,↓aj,↓ah,Nat.reduceBEq,Nat.reduceAdd,env,am,bH,amG,AV.cell,Nat.reduceMul,Nat.reduceLeDiff,hx,hy,h1,h2,bi h1,bj h2,mE,az h1,az h2,hne,hne2,c1,c2,c3,um,ap a.l[i] hol,i3]
      |false=>
       simp only [mgO]
       rw [ao M cr.eq_1]
       simp (maxSteps:=3000000) (maxDischargeDepth:=6) +contextual -implicitDefEqProofs only [amA M,amB,↓ae,↓aa,↓aj,↓ah,Nat.reduceBEq,Nat.reduceAdd,env,am,bH,amG,AV.cell,Nat.reduceMul,Nat.reduceLeDiff,hx,hy,h1,h2,bi h1,bj h2,mE,az h1,az h2,hne,hne2,c1,c2,c3,um,hc,noU,i9]
   ·obtain rfl:j=b.l.length:=by omega
    have hdy:b.l.drop b.l.length=[]:=List.drop_length
    simp only [kv_cons,kv_nil] at i1
    rw [hd,hdy,SY,Cg]
    rw [hdy] at i1
    rw [ao M cr.eq_1]
    simp (maxSteps:=3000000) (maxDischargeDepth:=6) +contextual -implicitDefEqProofs only [amA M,amB,↓ae,↓aa,↓aj,↓ah,Nat.reduceBEq,Nat.reduceAdd,env,am,bH,amG,AV.cell,Nat.reduceMul,Nat.reduceLeDiff,hx,h1,Nat.lt_irrefl,bi h1,mE,az h1,hne,beq_self_eq_true,ap a.l[i] hol,i1]
  ·obtain rfl:i=a.l.length:=by omega
   have hdx:a.l.drop a.l.length=[]:=List.drop_length
   by_cases h2:j<b.l.length
   ·have hy:b.l[j]?=some b.l[j]:=List.getElem?_eq_getElem h2
    have hdy:b.l.drop j=b.l[j]::b.l.drop (j+1):=List.drop_eq_getElem_cons h2
    have hol:o.length+1≤4000000000000:=by omega
    have i2:=fun He=>rum hc k (n-1) a.l.length (j+1) (o++[b.l[j]]) He hi (by omega) (by omega) (by simp;omega) hab
    have hne2:(j == b.l.length)=false:=by simp;omega
    simp only [kv_cons,kv_nil] at i2
    rw [hdx,hdy,SX,Cg]
    rw [hdx] at i2
    rw [ao M cr.eq_1]
    simp (maxSteps:=3000000) (maxDischargeDepth:=6) +contextual -implicitDefEqProofs only [amA M,amB,↓ae,↓aa,↓aj,↓ah,Nat.reduceBEq,Nat.reduceAdd,env,am,bH,amG,AV.cell,Nat.reduceMul,Nat.reduceLeDiff,hy,h2,Nat.lt_irrefl,bj h2,mE,az h2,hne2,beq_self_eq_true,ap b.l[j] hol,i2]
   ·obtain rfl:j=b.l.length:=by omega
    rw [hdx,List.drop_length,Qm,mgO,List.append_nil]
    rw [ao M cr.eq_1]
    simp (maxSteps:=3000000) (maxDischargeDepth:=6) +contextual -implicitDefEqProofs only [amA M,amB,↓ae,↓aa,↓aj,↓ah,Nat.reduceBEq,Nat.reduceAdd,env,am,bH,Nat.lt_irrefl]
termination_by n=>n
decreasing_by all_goals omega
def uR(a b:List au):Option (List au):=sel (uQ a) (sel (uQ b) (ga a b) none) none
def RF(r:Option (List au)):AV:=
 match r with
 |none=>noU
 |some r=>.tuple [.slice .any 2 (r.map au.row),.bool true]
theorem I1(hR:tE E){a b:Sl au}(hab:a.l.length+b.l.length≤4000000000000)(H:List ag) :
  M.run i5 [.slice a.tag 2 (a.l.map au.row),.slice b.tag 2 (b.l.map au.row)] H=some (.ret (RF (uR a.l b.l)),H):=by
 rw [aM M hR.truchmanref02_Unify rfl (c:=oP) rfl,oP]
 have ha:a.l.length≤aZ:=by simp only [aZ];omega
 have hb:b.l.length≤aZ:=by simp only [aZ];omega
 have h1:=fun k He=>Uy M ha hb (cut_refl H) k (a.l.length-1) 1 (by omega) He rfl
 have h2:=fun k He=>Uz M ha hb (cut_refl H) k (b.l.length-1) 1 (by omega) He rfl
 have h3:=fun k He=>rum M (a:=a) (b:=b) (cut_refl H) k (a.l.length+b.l.length) 0 0 [] He (by omega) (by omega) (by omega) (by simp;omega) hab
 simp only [kv_cons,kv_nil,Int.ofNat_zero,(show ((1:Nat):Int)=1 from rfl),List.drop_zero,N8,List.length_nil,Nat.zero_mul,List.map_nil] at h1 h2 h3
 simp (maxSteps:=3000000) (maxDischargeDepth:=6) +contextual -implicitDefEqProofs only [amA M,amB,↓ae,↓aa,↓aj,↓ah,Nat.reduceBEq,Nat.reduceAdd,env,am,bH,h1,h2,h3]
 unfold uR
 cases uQ a.l with
 |false=>rfl
 |true=>
  cases uQ b.l with
  |false=>rfl
  |true=>
   simp only [Bool.and_true,ae,sel]
   cases ga a.l b.l with
   |none=>simp only [mgO,hp_self,RF]
   |some r=>
    simp only [mgO,List.nil_append,RF]
    simp (maxSteps:=3000000) (maxDischargeDepth:=6) +contextual -implicitDefEqProofs only [amA M,amB,↓ae,↓aa,↓aj,↓ah,Nat.reduceBEq,Nat.reduceAdd,env,am,bH,Pg,implies_true]
end
theorem Ch:∀ x:Str,Op.bytesLess x x=false
 |[]=>rfl
 |a::x=>by
  have h:¬ a<a:=by simp
  simp only [Op.bytesLess,Ch x,Bool.and_false,Bool.or_false,decide_eq_false h]
theorem I2:∀ {x y:Str},Op.bytesLess x y=false→Op.bytesLess y x=false→x=y
 |[],[],_,_=>rfl
 |[],_::_,h,_=>by simp [Op.bytesLess] at h
 |_::_,[],_,h=>by simp [Op.bytesLess] at h
 |a::x,b::y,h1,h2=>by
  simp only [Op.bytesLess,Bool.or_eq_false_iff,decide_eq_false_iff_not] at h1 h2
  have hab:a=b:=UInt8.le_antisymm (UInt8.not_lt.1 h2.1) (UInt8.not_lt.1 h1.1)
  subst hab
  simp only [beq_self_eq_true,Bool.true_and] at h1 h2
  rw [I2 h1.2 h2.2]
theorem qG:∀ {x y z:Str},Op.bytesLess x y=true→Op.bytesLess y z=true→Op.bytesLess x z=true
 |_,[],_,h,_=>by cases ‹List UInt8› <;> simp [Op.bytesLess] at h
 |_,_::_,[],_,h=>by simp [Op.bytesLess] at h
 |[],_::_,_::_,_,_=>rfl
 |a::x,b::y,c::z,h1,h2=>by
  simp only [Op.bytesLess,Bool.or_eq_true,decide_eq_true_eq,Bool.and_eq_true,beq_iff_eq] at h1 h2 ⊢
  rcases h1 with h1 | ⟨rfl,h1⟩
  ·rcases h2 with h2 | ⟨rfl,h2⟩
   ·exact .inl (UInt8.lt_trans h1 h2)
   ·exact .inl h1
  ·rcases h2 with h2 | ⟨rfl,h2⟩
   ·exact .inl h2
   ·exact .inr ⟨rfl,qG h1 h2⟩
theorem RG{x y:Str}(h:Op.bytesLess x y=true):Op.bytesLess y x=false:=by
 cases h2:Op.bytesLess y x with
 |false=>rfl
 |true=>have:=qG h h2;rw [Ch] at this;cases this
theorem KC{x y:Str}(h:Op.bytesLess x y=true):(x == y)=false:=by
 cases h2:x == y with
 |false=>rfl
 |true=>rw [eq_of_beq h2,Ch] at h;cases h
theorem vk:∀ {l:List au}{p:au},qF p l=true→∀ x∈l,Op.bytesLess p.name x.name=true
 |[],_,_,_,h=>by cases h
 |y::l,p,h,x,hx=>by
  simp only [qF,Bool.and_eq_true] at h
  rcases List.mem_cons.1 hx with rfl | hx
  ·exact h.1
  ·exact qG h.1 (vk h.2 x hx)
theorem zD{x:au}{l:List au}(h:uQ (x::l)=true):uQ l=true:=by
 cases l with
 |nil=>rfl
 |cons y l=>simp only [uQ,qF,Bool.and_eq_true] at h ⊢;exact h.2
theorem I3{x:au}{b:List au}(h:∀ y∈b,(x.name == y.name)=false):(b.any fun g=>kh x g)=false:=by
 rw [List.any_eq_false]
 intro y hy
 simp [kh,h y hy]
theorem ws(x:au)(a b:List au):kS (x::a) b=((b.any fun g=>kh x g)||kS a b):=rfl
theorem Ci(y:au):∀ (a b:List au),kS a (y::b)=((a.any fun f=>kh f y)||kS a b)
 |[],_=>rfl
 |x::a,b=>by
  rw [ws,ws,Ci y a b,List.any_cons,List.any_cons]
  cases kh x y<;>cases (b.any fun g=>kh x g)<;>cases (a.any fun f=>kh f y)<;>simp
theorem GS{y:au}{a:List au}(h:∀ x∈a,(x.name == y.name)=false):(a.any fun f=>kh f y)=false:=by
 rw [List.any_eq_false]
 intro x hx
 simp [kh,h x hx]
theorem uo:∀ (n:Nat) (a b:List au),a.length+b.length≤n→uQ a=true→uQ b=true→(ga a b).isSome = !kS a b
 |_,[],b,_,_,_=>by cases b<;>simp [ga,kS]
 |_,x::a,[],_,_,_=>by
  have:kS (x::a) []=false:=by simp [kS]
  rw [this];simp [ga]
 |0,x::a,y::b,h,_,_=>by simp at h
 |n+1,x::a,y::b,h,ha,hb=>by
  have hxa:∀ z∈a,Op.bytesLess x.name z.name=true:=vk ha
  have hyb:∀ z∈b,Op.bytesLess y.name z.name=true:=vk hb
  simp only [List.length_cons] at h
  rw [ga]
  cases c1:Op.bytesLess x.name y.name with
  |true=>
   simp only [Option.isSome_map]
   rw [uo n a (y::b) (by simp only [List.length_cons];omega) (zD ha) hb,ws,I3 (x:=x) (b:=y::b) (fun z hz=>by
    rcases List.mem_cons.1 hz with rfl | hz
    ·exact KC c1
    ·exact KC (qG c1 (hyb z hz))),Bool.false_or]
  |false=>
   simp only
   cases c2:Op.bytesLess y.name x.name with
   |true=>
    simp only [Option.isSome_map]
    rw [uo n (x::a) b (by simp only [List.length_cons];omega) ha (zD hb),Ci,GS (y:=y) (a:=x::a) (fun z hz=>by
     rw [Ay]
     rcases List.mem_cons.1 hz with rfl | hz
     ·exact KC c2
     ·exact KC (qG c2 (hxa z hz))),Bool.false_or]
   |false=>
    have hn:=I2 c1 c2
    simp only [hn,beq_self_eq_true,Bool.true_and]
    cases c3:x.value == y.value with
    |true=>
     simp only [Option.isSome_map]
     rw [uo n a b (by omega) (zD ha) (zD hb),ws,Ci,List.any_cons,I3 (x:=x) (b:=b) (fun z hz=>by rw [hn];exact KC (hyb z hz)),
      GS (y:=y) (a:=a) (fun z hz=>by rw [Ay,← hn];exact KC (hxa z hz))]
     simp [kh,c3]
    |false=>
     simp only [Option.isSome_none]
     rw [ws,List.any_cons]
     simp [kh,hn,c3]
theorem GT{a b:List au}(ha:uQ a=true)(hb:uQ b=true):(uR a b).isSome = !kS a b:=by
 rw [uR,ha,hb]
 exact uo _ a b (Nat.le_refl _) ha hb
theorem tF{α:Type}{F:Nat→α→Int}:∀ {l:List α}{s:Nat},ul F s l=0→∀ (k:Nat) (x:α),l[k]?=some x→F (s+k) x=0
 |[],_,_,k,x,h=>by simp at h
 |y::l,s,h,k,x,hx=>by
  rw [ul] at h
  cases hy:F s y == 0 with
  |false=>
   rw [hy] at h
   simp only [Bool.not_false,sel] at h
   rw [h] at hy;simp at hy
  |true=>
   rw [hy] at h
   simp only [Bool.not_true,sel] at h
   cases k with
   |zero=>obtain rfl:y=x:=by simpa using hx
          exact eq_of_beq hy
   |succ k=>
    have:=tF h k x (by simpa using hx)
    rwa [show s+1+k=s+(k+1) by omega] at this
theorem pR{α:Type}{F:Nat→α→Int}{most:Int}{l:List α}(h:lK most F l=0):(l.length:Int)≤most∧∀ (k:Nat) (x:α),l[k]?=some x→F k x=0:=by
 unfold lK at h
 cases hd:decide (most<(l.length:Int)) with
 |true=>rw [hd] at h;simp [sel] at h
 |false=>
  rw [hd] at h
  simp only [sel] at h
  refine ⟨by simpa using hd,fun k x hx => ?_⟩
  have:=tF h k x hx
  rwa [Nat.zero_add] at this
theorem Ph:∀ {l:List au},(∀ (i:Nat) (g f:au),l[i]?=some g→l[i+1]?=some f→Op.bytesLess g.name f.name=true)→uQ l=true
 |[],_=>rfl
 |[x],_=>rfl
 |x::y::l,h=>by
  have h0:=h 0 x y rfl rfl
  have h1:uQ (y::l)=true:=Ph (fun i g f hg hf=>h (i+1) g f (by simpa using hg) (by simpa using hf))
  simp only [uQ,qF,Bool.and_eq_true] at h1 ⊢
  exact ⟨h0,h1⟩
theorem bundle_ok{l:Lex}{b:List au}(h:pa l b=0):b.length≤8∧uQ b=true:=by
 obtain ⟨h1,h2⟩:=pR h
 refine ⟨by omega,Ph fun i g f hg hf => ?_⟩
 have:=h2 (i+1) f hf
 unfold IY at this
 split at this
 ·exact absurd this (by decide)
 ·rw [pF hg,pF hg] at this
  revert this
  cases (!List.any _ _) with
  |true=>intro h;simp [sel] at h
  |false=>
   cases c:g.name == f.name with
   |true=>intro h;simp [sel] at h
   |false=>
    cases c2:Op.bytesLess g.name f.name with
    |true=>intro _;rfl
    |false=>intro h;simp [sel] at h
section
attribute [local congr] aS eb bQ aT bv bb aU aC aD bc be
variable{E:bP}(M:dO d8 E)
theorem CD{α:Type}(p:α→Bool)(v:AV)(H:List ag)(x:Option Out):∀ (l:List α) (i:Nat),orE (bI (fun _ o=>sel (p o) (some v) none) i l) H x=sel (l.any p) (some (.ret v,H)) x
 |[],_=>rfl
 |o::l,i=>by
  rw [jl,HE,z8,vD,It,CD p v H x l,List.any_cons]
  cases p o<;>rfl
theorem SZ(r:Option (List au)):RF r = .tuple [.slice .any 2 ((r.getD []).map au.row),.bool r.isSome]:=by cases r<;>rfl
theorem re0{H H0:List ag}{l:Lex}{x:aR}{n0:Nat}(hl:l.ok n0){p q:Nat}{T T2:TypeId}(hp:H[p]?=some (.cells l.row T))(hq:H[q]?=some (.cells x.row T2)){c:Int}{L:List aR}(hL:∀ k,k<L.length→l.entries.l[k]?=L[k]?)(hLl:L.length≤l.entries.l.length)(hc:bO H0 H)(k:List Fra):∀ (n i:Nat) (He:List ag),i+n=L.length →
  M.go aY H0 (.c fQ :: .lp ⟨(some [1,3,4,5,6]),[],false⟩ fQ He :: .blk 2 :: .c (.lv [1,3,4,5])::k) (kv [(1,.ptr p 0),(3,.int .i64 L.length),(4,.ptr q 0),(5,.int .i64 c),(6,.int .i64 i)]) H =
   orE (bI (fun _ o=>sel (o.lem == x.lem&&o.cls == x.cls) (some (.int .u8 6)) none) i (L.drop i)) (H.take H0.length) (M.go aY H0 k (kv [(1,.ptr p 0),(3,.int .i64 L.length),(4,.ptr q 0),(5,.int .i64 c)]) H)
 |0,i,He,h=>by
  have e:i=L.length:=by omega
  subst e
  rw [ao M fQ.eq_1]
  simp (maxSteps:=3000000) (maxDischargeDepth:=6) +contextual -implicitDefEqProofs only [amA M,amB,↓ae,↓aa,↓aj,↓ah,Nat.reduceBEq,Nat.reduceAdd,env,am,bw,Nat.lt_irrefl,List.drop_length]
 |n+1,i,He,h=>by
  have hi:i<L.length:=by omega
  have hx:L[i]?=some L[i]:=List.getElem?_eq_getElem hi
  have hd:(L.drop i)=L[i]::L.drop (i+1):=List.drop_eq_getElem_cons hi
  have hm:L[i]∈L:=List.getElem_mem hi
  have ih:=fun He=>re0 (H:=H) (H0:=H0) (l:=l) (x:=x) (n0:=n0) (hl:=hl) (p:=p) (q:=q) (T:=T) (T2:=T2) (hp:=hp) (hq:=hq) (c:=c) (L:=L) (hL:=hL) (hLl:=hLl) hc k n (i+1)  He (by omega)
  simp only [kv_cons,kv_nil] at ih
  have hx2:l.entries.l[i]?=some L[i]:=(hL i hi).trans hx
  rw [ao M fQ.eq_1]
  simp (maxSteps:=3000000) (maxDischargeDepth:=6) +contextual -implicitDefEqProofs only [amA M,amB,↓ae,↓aa,↓aj,↓ah,Nat.reduceBEq,Nat.reduceAdd,env,am,bw,hx,hd,hi,ih,bq hi (Nat.le_trans hLl hl.entries.len),az (show i<l.entries.l.length by omega),hx2,bp,cY,hp,hq,hc]
theorem re1{H H0:List ag}(hR:tE E){x:aR}{p q:Nat}{T2:TypeId}(hq:H[q]?=some (.cells x.row T2)){i0:Nat}{sl:Sl bC}(hs:sl.l.length≤aZ)(hab:∀ s∈sl.l,x.feats.l.length+s.feats.l.length≤4000000000000)(hc:bO H0 H)(k:List Fra):∀ (n i:Nat) (He:List ag),i+n=(sl.l).length →
  M.go aY H0 (.c fR :: .lp ⟨(some [1,3,4,8,9]),[],false⟩ fR He :: .blk 4 :: .c (.lv [1,3,4,8])::k) (kv [(1,.ptr p 0),(3,.int .i64 i0),(4,.ptr q 0),(8,.slice sl.tag 4 (sl.l.map bC.row)),(9,.int .i64 i)]) H =
   orE (bI (fun _ s=>sel (!(uR x.feats.l s.feats.l).isSome) (some (.int .u8 10)) none) i (sl.l.drop i)) (H.take H0.length) (M.go aY H0 k (kv [(1,.ptr p 0),(3,.int .i64 i0),(4,.ptr q 0),(8,.slice sl.tag 4 (sl.l.map bC.row))]) H)
 |0,i,He,h=>by
  have e:i=(sl.l).length:=by omega
  subst e
  rw [ao M fR.eq_1]
  simp (maxSteps:=3000000) (maxDischargeDepth:=6) +contextual -implicitDefEqProofs only [amA M,amB,↓ae,↓aa,↓aj,↓ah,Nat.reduceBEq,Nat.reduceAdd,env,am,bw,Nat.lt_irrefl,List.drop_length]
 |n+1,i,He,h=>by
  have hi:i<(sl.l).length:=by omega
  have hx:(sl.l)[i]?=some (sl.l)[i]:=List.getElem?_eq_getElem hi
  have hd:((sl.l).drop i)=(sl.l)[i]::(sl.l).drop (i+1):=List.drop_eq_getElem_cons hi
  have hm:(sl.l)[i]∈(sl.l):=List.getElem_mem hi
  have ih:=fun He=>re1 (H:=H) (H0:=H0) (hR:=hR) (x:=x) (p:=p) (q:=q) (T2:=T2) (hq:=hq) (i0:=i0) (sl:=sl) (hs:=hs) (hab:=hab) hc k n (i+1)  He (by omega)
  simp only [kv_cons,kv_nil] at ih
  rw [ao M fR.eq_1]
  simp (maxSteps:=3000000) (maxDischargeDepth:=6) +contextual -implicitDefEqProofs only [amA M,amB,↓ae,↓aa,↓aj,↓ah,Nat.reduceBEq,Nat.reduceAdd,env,am,bw,hx,hd,hi,ih,bq hi hs,az hi,fk,cY,hq,hc,I1 M hR (hab _ hm),SZ]
theorem re2{H H0:List ag}{x:aR}{f:bT}{p q r:Nat}{T2 T3:TypeId}(hq:H[q]?=some (.cells x.row T2))(hr:H[r]?=some (.cells f.row T3)){i0:Nat}{sv:AV}{L:List bT}(hL:∀ k,k<L.length→x.forms.l[k]?=L[k]?)(hLl:L.length≤x.forms.l.length)(hxl:x.forms.l.length≤aZ)(hc:bO H0 H)(k:List Fra):∀ (n i:Nat) (He:List ag),i+n=L.length →
  M.go aY H0 (.c fT :: .lp ⟨(some [1,3,4,8,12,13,14]),[],false⟩ fT He :: .blk 8 :: .c (.lv [1,3,4,8,12,13])::k) (kv [(1,.ptr p 0),(3,.int .i64 i0),(4,.ptr q 0),(8,sv),(12,.int .i64 L.length),(13,.ptr r 0),(14,.int .i64 i)]) H =
   orE (bI (fun _ o=>sel (o.slot == f.slot) (some (.int .u8 6)) none) i (L.drop i)) (H.take H0.length) (M.go aY H0 k (kv [(1,.ptr p 0),(3,.int .i64 i0),(4,.ptr q 0),(8,sv),(12,.int .i64 L.length),(13,.ptr r 0)]) H)
 |0,i,He,h=>by
  have e:i=L.length:=by omega
  subst e
  rw [ao M fT.eq_1]
  simp (maxSteps:=3000000) (maxDischargeDepth:=6) +contextual -implicitDefEqProofs only [amA M,amB,↓ae,↓aa,↓aj,↓ah,Nat.reduceBEq,Nat.reduceAdd,env,am,bw,Nat.lt_irrefl,List.drop_length]
 |n+1,i,He,h=>by
  have hi:i<L.length:=by omega
  have hx:L[i]?=some L[i]:=List.getElem?_eq_getElem hi
  have hd:(L.drop i)=L[i]::L.drop (i+1):=List.drop_eq_getElem_cons hi
  have hm:L[i]∈L:=List.getElem_mem hi
  have ih:=fun He=>re2 (H:=H) (H0:=H0) (x:=x) (f:=f) (p:=p) (q:=q) (r:=r) (T2:=T2) (T3:=T3) (hq:=hq) (hr:=hr) (i0:=i0) (sv:=sv) (L:=L) (hL:=hL) (hLl:=hLl) (hxl:=hxl) hc k n (i+1)  He (by omega)
  simp only [kv_cons,kv_nil] at ih
  have hx2:x.forms.l[i]?=some L[i]:=(hL i hi).trans hx
  rw [ao M fT.eq_1]
  simp (maxSteps:=3000000) (maxDischargeDepth:=6) +contextual -implicitDefEqProofs only [amA M,amB,↓ae,↓aa,↓aj,↓ah,Nat.reduceBEq,Nat.reduceAdd,env,am,bw,hx,hd,hi,ih,bq hi (Nat.le_trans hLl hxl),az (show i<x.forms.l.length by omega),hx2,cY,z7,hq,hr,hc]
theorem Cj{α:Type}(l:List α)(i:Nat):∀ k,k<(l.take i).length→l[k]?=(l.take i)[k]? := fun k hk=>by
 rw [List.getElem?_take_of_lt];simp at hk;omega
theorem KD{α:Type}{l:List α}{i:Nat}(h:i≤l.length):(l.take i).length=i:=by simp;omega
theorem re3{H H0:List ag}(hN:bz E){x:aR}{n0:Nat}(hx0:x.ok n0)(hn:n0≤H.length){p q:Nat}(hpl:p<H.length){T2:TypeId}(hq:H[q]?=some (.cells x.row T2)){i0:Nat}{sl:Sl bC}(hsw:Wk H.length (.slice sl.tag 4 (sl.l.map bC.row)) (.slice sl.tag 4 (sl.l.map bC.row)))(hc:bO H0 H)(k:List Fra):∀ (n i:Nat),i+n=(x.forms.l).length →
  M.go aY H0 (.c fU :: .lp ⟨(some [1,3,4,8,12]),[],true⟩ fU H :: .blk 6 :: .c (.lv [1,3])::k) (kv [(1,.ptr p 0),(3,.int .i64 i0),(4,.ptr q 0),(8,.slice sl.tag 4 (sl.l.map bC.row)),(12,.int .i64 i)]) H =
   orE (bI (pC (IZ sl.l.length x.forms.l)) i (x.forms.l.drop i)) (H.take H0.length) (M.go aY H0 k (kv [(1,.ptr p 0),(3,.int .i64 i0)]) H)
 |0,i,h=>by
  have e:i=(x.forms.l).length:=by omega
  subst e
  rw [ao M fU.eq_1]
  simp (maxSteps:=3000000) (maxDischargeDepth:=6) +contextual -implicitDefEqProofs only [amA M,amB,↓ae,↓aa,↓aj,↓ah,Nat.reduceBEq,Nat.reduceAdd,env,am,bw,Nat.lt_irrefl,List.drop_length,cY,hq]
 |n+1,i,h=>by
  have hi:i<(x.forms.l).length:=by omega
  have hx:(x.forms.l)[i]?=some (x.forms.l)[i]:=List.getElem?_eq_getElem hi
  have hd:((x.forms.l).drop i)=(x.forms.l)[i]::(x.forms.l).drop (i+1):=List.drop_eq_getElem_cons hi
  have hm:(x.forms.l)[i]∈(x.forms.l):=List.getElem_mem hi
  have ih:=re3 (H:=H) (H0:=H0) (hN:=hN) (x:=x) (n0:=n0) (hx0:=hx0) (hn:=hn) (p:=p) (q:=q) (hpl:=hpl) (T2:=T2) (hq:=hq) (i0:=i0) (sl:=sl) (hsw:=hsw) hc k n (i+1)  (by omega)
  simp only [kv_cons,kv_nil] at ih
  have hq':=fun L=>cf (L:=L) hq
  have w1:Wk H.length (.ptr p 0) (.ptr p 0):=wk_ptr hpl
  have w2:Wk H.length (.ptr q 0) (.ptr q 0):=wk_ptr (List.getElem?_eq_some_iff.1 hq).1
  have h0:=fun k He=>re2 M (H:=H++[.cells x.forms.l[i].row dR]) (H0:=H0) (x:=x) (f:=x.forms.l[i]) (p:=p) (q:=q) (r:=H.length) (T2:=T2) (T3:=dR) (hq' _) (by rw [cu];rfl) (i0:=i0) (sv:=.slice sl.tag 4 (sl.l.map bC.row)) (L:=x.forms.l.take i) (Cj _ _) (by simp;omega) hx0.forms.len (pm hc _) k (x.forms.l.take i).length 0 He (by omega)
  simp only [kv_cons,kv_nil,Int.ofNat_zero,List.drop_zero,KD (Nat.le_of_lt hi),CD] at h0
  rw [ao M fU.eq_1]
  simp (maxSteps:=3000000) (maxDischargeDepth:=6) +contextual -implicitDefEqProofs only [amA M,amB,↓ae,↓aa,↓aj,↓ah,Nat.reduceBEq,Nat.reduceAdd,env,am,bw,hx,hd,hi,ih,amG,AV.cell,hq,hq',w1,w2,hsw,h0,bq hi hx0.forms.len,az hi,z7,cY,xD M hN (hx0.forms.all _ hm).word,hc,li,IZ,qE]
end
section
attribute [local congr] aS eb bQ aT bv bb aU aC aD bc be
variable{E:bP}(M:dO d8 E)
def Pj(l:Lex):Prop:=∀ c∈l.classes.l,∀ s∈c.slots.l,s.feats.l.length≤8∧uQ s.feats.l=true
theorem MZ{l:Lex}(h:tD l=0):Pj l:=fun c hc s hs=>by
 obtain ⟨k,hk⟩:=List.getElem?_of_mem hc
 have h1:=(pR h).2 k c hk
 unfold Cf at h1
 revert h1
 cases (!Dx c.name) with
 |true=>intro h;simp [sel] at h
 |false=>
  cases (List.any _ _) with
  |true=>intro h;simp [sel] at h
  |false=>
   cases (decide ((24:Int)<(c.slots.l.length:Int))) with
   |true=>intro h;simp [sel] at h
   |false=>
    cases ((c.slots.l.length:Int) == 0) with
    |true=>intro h;simp [sel] at h
    |false=>
     intro h1
     obtain ⟨j,hj⟩:=List.getElem?_of_mem hs
     have h2:=(pR h1).2 j s hj
     unfold Ce at h2
     revert h2
     cases (decide (s.cut<0)||decide (24<s.cut) || !pE jb s.pre || !pE jb s.add) with
     |true=>intro h;simp [sel] at h
     |false=>intro h;exact bundle_ok h
theorem KE{α:Type}{p q:α→Bool}:∀ {l:List α},(∀ x∈l,p x=q x)→l.any p=l.any q
 |[],_=>rfl
 |x::l,h=>by rw [List.any_cons,List.any_cons,h x (by simp),KE (fun y hy=>h y (by simp [hy]))]
theorem re4{H H0:List ag}(hN:bz E)(hR:tE E){l:Lex}{n0:Nat}(hl:l.ok n0)(hn:n0≤H.length)(hsh:Pj l){p:Nat}{T:TypeId}(hp:H[p]?=some (.cells l.row T))(hc:bO H0 H)(k:List Fra):∀ (n i:Nat),i+n=(l.entries.l).length →
  M.go aY H0 (.c dP :: .lp ⟨(some [1,3]),[],true⟩ dP H :: .blk 0 :: .c (.lv [])::k) (kv [(1,.ptr p 0),(3,.int .i64 i)]) H =
   orE (bI (pC (yb l)) i (l.entries.l.drop i)) (H.take H0.length) (M.go aY H0 k .leaf H)
 |0,i,h=>by
  have e:i=(l.entries.l).length:=by omega
  subst e
  rw [ao M dP.eq_1]
  simp (maxSteps:=3000000) (maxDischargeDepth:=6) +contextual -implicitDefEqProofs only [amA M,amB,↓ae,↓aa,↓aj,↓ah,Nat.reduceBEq,Nat.reduceAdd,env,am,bw,Nat.lt_irrefl,List.drop_length,bp,hp]
 |n+1,i,h=>by
  have hi:i<(l.entries.l).length:=by omega
  have hx:(l.entries.l)[i]?=some (l.entries.l)[i]:=List.getElem?_eq_getElem hi
  have hd:((l.entries.l).drop i)=(l.entries.l)[i]::(l.entries.l).drop (i+1):=List.drop_eq_getElem_cons hi
  have hm:(l.entries.l)[i]∈(l.entries.l):=List.getElem_mem hi
  have ih:=re4 (H:=H) (H0:=H0) (hN:=hN) (hR:=hR) (l:=l) (n0:=n0) (hl:=hl) (hn:=hn) (hsh:=hsh) (p:=p) (T:=T) (hp:=hp) hc k n (i+1)  (by omega)
  simp only [kv_cons,kv_nil] at ih
  have hp':=fun L=>cf (L:=L) hp
  have w1:Wk H.length (.ptr p 0) (.ptr p 0):=wk_ptr (List.getElem?_eq_some_iff.1 hp).1
  have hx0:=hl.entries.all _ hm
  have hcf:=fun H=>Ax M hR hl l.entries.l[i].cls H
  rcases pD (fun c:aX=>c.name == l.entries.l[i].cls) l.classes.l 0 with ⟨h1,h2⟩ | ⟨j,c,h1,h2,h3⟩
  ·rw [h1] at hcf
   have hc2:zC l l.entries.l[i].cls=none:=h2
   rw [ao M dP.eq_1]
   simp (maxSteps:=3000000) (maxDischargeDepth:=6) +contextual -implicitDefEqProofs only [amA M,amB,↓ae,↓aa,↓aj,↓ah,Nat.reduceBEq,Nat.reduceAdd,env,am,bw,amG,AV.cell,Nat.reduceMul,Nat.reduceLeDiff,hx,hd,hi,ih,hp,hp',w1,hcf,SV,bp,cY,az hi,xD M hN hx0.lem,li,yb,hc2,qE,hc]
  ·rw [h1,Nat.zero_add] at hcf
   have hc2:zC l l.entries.l[i].cls=some c:=h3
   have hj:j<l.classes.l.length:=(List.getElem?_eq_some_iff.1 h2).1
   have hcm:c∈l.classes.l:=List.mem_of_getElem? h2
   have hco:=hl.classes.all c hcm
   have hq:∀ L,(H++(.cells l.entries.l[i].row bK::L))[H.length]?=some (.cells l.entries.l[i].row bK):=fun L=>by rw [cu];rfl
   have h4:=fun k He=>re0 M (H:=H++[.cells l.entries.l[i].row bK]) (H0:=H0) hl (p:=p) (q:=H.length) (T:=T) (T2:=bK) (hp' _) (hq []) (c:=(j:Int)) (L:=l.entries.l.take i) (Cj _ _) (by simp;omega) (pm hc _) k (l.entries.l.take i).length 0 He (by omega)
   simp only [kv_cons,kv_nil,Int.ofNat_zero,List.drop_zero,KD (Nat.le_of_lt hi),CD] at h4
   cases hb:(pa l l.entries.l[i].feats.l == 0) with
   |false=>
    rw [ao M dP.eq_1]
    simp (maxSteps:=3000000) (maxDischargeDepth:=6) +contextual -implicitDefEqProofs only [amA M,amB,↓ae,↓aa,↓aj,↓ah,Nat.reduceBEq,Nat.reduceAdd,env,am,bw,amG,AV.cell,Nat.reduceMul,Nat.reduceLeDiff,hx,hd,hi,ih,hp,hp',w1,hcf,Hr,h4,hb,bp,cY,az hi,xD M hN hx0.lem,xF M hR hl hx0.feats.len,li,yb,hc2,qE,LD,hc]
   |true=>
    obtain ⟨hb1,hb2⟩:=bundle_ok (eq_of_beq hb)
    have h5:=fun k He=>re1 M (H:=H++[.cells l.entries.l[i].row bK]) (H0:=H0) hR (x:=l.entries.l[i]) (p:=p) (q:=H.length) (T2:=bK) (hq []) (i0:=i) (sl:=c.slots) hco.slots.len (fun s hs=>by have:=(hsh c hcm s hs).1;omega) (pm hc _) k c.slots.l.length 0 He (by omega)
    have h6:=fun k=>re3 M (H:=H++[.cells l.entries.l[i].row bK]) (H0:=H0) hN hx0 (by simp;omega) (p:=p) (q:=H.length) (by have:=(List.getElem?_eq_some_iff.1 hp).1;simp;omega) (T2:=bK) (hq []) (i0:=i) (sl:=c.slots) ((hco.slots.mono (show n0≤_ by simp;omega) (fun _ h=>h.mono (show n0≤(H++[ag.cells l.entries.l[i].row bK]).length by simp;omega))).wk (fun _ h=>h.wk)) (pm hc _) k l.entries.l[i].forms.l.length 0 (by omega)
    have e5:(c.slots.l.any fun s => !(uR l.entries.l[i].feats.l s.feats.l).isSome)=c.slots.l.any fun s=>kS l.entries.l[i].feats.l s.feats.l:=KE fun s hs=>by rw [GT hb2 (hsh c hcm s hs).2,Bool.not_not]
    simp only [kv_cons,kv_nil,Int.ofNat_zero,List.drop_zero,CD,e5] at h5 h6
    rw [ao M dP.eq_1]
    simp (maxSteps:=3000000) (maxDischargeDepth:=6) +contextual -implicitDefEqProofs only [amA M,amB,↓ae,↓aa,↓aj,↓ah,Nat.reduceBEq,Nat.reduceAdd,env,am,bw,amG,AV.cell,Nat.reduceMul,Nat.reduceLeDiff,hx,hd,hi,ih,hp,hp',w1,hcf,Hr,h4,h5,h6,hb,h2,az hj,bp,cY,iy,az hi,bq hi hl.entries.len,xD M hN hx0.lem,xF M hR hl hx0.feats.len,li,yb,hc2,qE,Fp,hc]
end
section
attribute [local congr] aS eb bQ aT bv bb aU aC aD bc be
variable{E:bP}(M:dO d8 E)
theorem LG(hN:bz E)(hR:tE E){l:Lex}{n:Nat}(hl:l.ok n)(hsh:Pj l){H:List ag}(hn:n≤H.length):M.run lS [.agg l.row] H=some (.ret (.int .u8 (wq l)),H):=by
 rw [aM M hR.truchmanref02_entries rfl (c:=l5) rfl,l5]
 have h1:=fun k=>re4 M hN hR (H:=H++[.cells l.row aq]) hl (by simp;omega) hsh (p:=H.length) (T:=aq) (by rw [cu];rfl) (cut_app H _) k l.entries.l.length 0 (by omega)
 simp only [kv_cons,kv_nil,Int.ofNat_zero,List.drop_zero] at h1
 simp (maxSteps:=3000000) (maxDischargeDepth:=6) +contextual -implicitDefEqProofs only [amA M,amB,↓ae,↓aa,↓aj,↓ah,Nat.reduceBEq,Nat.reduceAdd,env,am,bw,h1,bp,cut_app,rj,o9,wq,lK]
def DB(p:UInt8):Str→Bool
 |[]=>true
 |c::t => !decide ((c.toNat:Int)≤(p.toNat:Int))&&DB c t
def N9:Str→Bool
 |[]=>true
 |c::t=>DB c t
def geV(v:Str):Nat→UInt8→Option AV
 |0,_=>none
 |i+1,c=>match v[i]? with
  |some d=>sel (decide ((c.toNat:Int)≤(d.toNat:Int))) (some (.int .u8 1)) none
  |none=>none
theorem M0{v:Str}{i:Nat}{d:UInt8}(h:v[i]?=some d)(c:UInt8):geV v (i+1) c=sel (decide ((c.toNat:Int)≤(d.toNat:Int))) (some (.int .u8 1)) none:=by simp only [geV,h]
theorem KF{α:Type}{b l:List α}{i:Nat}{x:α}(hd:b.drop (i+1)=x::l):b[i+1]?=some x∧b.drop (i+1+1)=l:=by
 constructor
 ·have:=List.getElem?_drop (xs:=b) (i:=i+1) (j:=0)
  rw [hd] at this;simpa using this.symm
 ·have:(b.drop (i+1)).drop 1=l:=by rw [hd];rfl
  rwa [List.drop_drop] at this
theorem KG(v:Str):∀ (t:Str) (i:Nat) (p:UInt8),v[i]?=some p→v.drop (i+1)=t→bI (geV v) (i+1) t=sel (DB p t) none (some (.int .u8 1))
 |[],_,_,_,_=>rfl
 |c::t,i,p,h,hd=>by
  obtain ⟨h2,hd2⟩:=KF hd
  rw [jl,M0 h,KG v t (i+1) c h2 hd2,DB]
  cases decide ((c.toNat:Int)≤(p.toNat:Int))<;>cases DB c t<;>rfl
theorem Oa(v:Str)(H:List ag)(x:Option Out):orE (bI (geV v) 1 (v.drop 1)) H x=sel (N9 v) x (some (.ret (.int .u8 1),H)):=by
 cases v with
 |nil=>rfl
 |cons c t=>
  rw [show List.drop 1 (c::t)=t from rfl,KG (c::t) t 0 c rfl rfl,N9]
  cases DB c t<;>rfl
theorem M1(v:Str):∀ (t:Str) (i:Nat) (p:UInt8),v[i]?=some p→v.drop (i+1)=t→ul (fun i c=>sel (Qf v i c) 1 0) (i+1) t=sel (t.all jb&&DB p t) 0 1
 |[],_,_,_,_=>rfl
 |c::t,i,p,h,hd=>by
  obtain ⟨h2,hd2⟩:=KF hd
  rw [ul,M1 v t (i+1) c h2 hd2,KA h,List.all_cons,DB]
  cases jb c<;>cases decide ((c.toNat:Int)≤(p.toNat:Int))<;>cases t.all jb<;>cases DB c t<;>rfl
theorem Pk(l:Lex):Qg l=sel (ofF [] l.vowels) (sel (N9 l.vowels) 0 1) 1:=by
 rw [Qg,HH]
 cases hv:l.vowels with
 |nil=>rfl
 |cons c t=>
  rw [ul,M1 (c::t) t 0 c rfl rfl,Kz,List.all_cons,N9]
  cases jb c<;>cases t.all jb<;>cases DB c t<;>rfl
theorem UA{H H0:List ag}{l:Lex}{n0:Nat}(hl:l.ok n0){p:Nat}{T:TypeId}(hp:H[p]?=some (.cells l.row T))(hc:bO H0 H)(k:List Fra):∀ (n i:Nat) (h1:1≤i) (He:List ag),(l.vowels).length-i=n →
  M.go bZ H0 (.c gZ :: .lp ⟨(some [1,3]),[],false⟩ gZ He :: .blk 0 :: .c (.lv [1])::k) (kv [(1,.ptr p 0),(3,.int .i64 i)]) H =
   orE (bI (geV l.vowels) i (l.vowels.drop i)) (H.take H0.length) (M.go bZ H0 k (kv [(1,.ptr p 0)]) H)
 |0,i,h1,He,h=>by
  have e:¬ i<(l.vowels).length:=by omega
  have e2:(l.vowels).drop i=[]:=List.drop_of_length_le (by omega)
  rw [ao M gZ.eq_1]
  simp (maxSteps:=3000000) (maxDischargeDepth:=6) +contextual -implicitDefEqProofs only [amA M,amB,↓ae,↓aa,↓aj,↓ah,Nat.reduceBEq,Nat.reduceAdd,env,am,ec,e,e2,bp,hp]
 |n+1,i,h1,He,h=>by
  have hi:i<(l.vowels).length:=by omega
  have hx:(l.vowels)[i]?=some (l.vowels)[i]:=List.getElem?_eq_getElem hi
  have hd:((l.vowels).drop i)=(l.vowels)[i]::(l.vowels).drop (i+1):=List.drop_eq_getElem_cons hi
  have hm:(l.vowels)[i]∈(l.vowels):=List.getElem_mem hi
  have ih:=fun h1 He=>UA (H:=H) (H0:=H0) (l:=l) (n0:=n0) (hl:=hl) (p:=p) (T:=T) (hp:=hp) hc k n (i+1) h1 He (by omega)
  simp only [kv_cons,kv_nil] at ih
  have ih:=ih (by omega)
  cases i with
  |zero=>omega
  |succ i=>
   have hx1:l.vowels[i]?=some l.vowels[i]:=List.getElem?_eq_getElem (by omega)
   have hlv:=hl.vowels
   rw [ao M gZ.eq_1]
   simp (maxSteps:=3000000) (maxDischargeDepth:=6) +contextual -implicitDefEqProofs only [amA M,amB,↓ae,↓aa,↓aj,↓ah,Nat.reduceBEq,Nat.reduceAdd,env,am,ec,hx,hd,hi,ih,hp,bp,hx1,FV (show i+1≤aZ by omega),bq hi hlv,M0 hx1,hc]
theorem RH(s:Str):ofF [43] s=s.all Dy:=by
 unfold ofF
 congr 1;funext c
 simp only [List.any_cons,List.any_nil,Bool.or_false,Dy]
 congr 1
 rw [Bool.eq_iff_iff];simp;omega
theorem RI(s:Str):ofF [43,35,86,67] s=s.all GQ:=by
 unfold ofF
 congr 1;funext c
 simp only [List.any_cons,List.any_nil,Bool.or_false,GQ,Dy,Bool.or_assoc]
 congr 1
 rw [Bool.eq_iff_iff];simp;omega
theorem CE(p:UInt8→Bool)(s:Str):pE p s=(!decide ((6:Int)<(s.length:Int))&&s.all p):=by
 unfold pE;congr 1;rw [Bool.eq_iff_iff];simp
theorem M3(x:br):tC x=sel (x.frm == []||(!ofF [43] x.frm||(!ofF [43] x.to||(!ofF [43,35,86,67] x.left || !ofF [43,35,86,67] x.right)))) 1
  (sel (decide ((6:Int)<(x.frm.length:Int))||(decide ((6:Int)<(x.to.length:Int))||(decide ((6:Int)<(x.left.length:Int))||decide ((6:Int)<(x.right.length:Int))))) 1 0):=by
 rw [tC,RH,RH,RI,RI,CE,CE,CE,CE]
 cases x.frm == []<;>cases x.frm.all Dy<;>cases x.to.all Dy<;>cases x.left.all GQ<;>cases x.right.all GQ<;>cases decide ((6:Int)<(x.frm.length:Int))<;>cases decide ((6:Int)<(x.to.length:Int))<;>cases decide ((6:Int)<(x.left.length:Int))<;>cases decide ((6:Int)<(x.right.length:Int))<;>rfl
theorem UB{H H0:List ag}(hN:bz E){l:Lex}{n0:Nat}(hl:l.ok n0){p:Nat}{T:TypeId}(hp:H[p]?=some (.cells l.row T))(hc:bO H0 H)(k:List Fra):∀ (n i:Nat),i+n=(l.spells.l).length →
  M.go bZ H0 (.c hJ :: .lp ⟨(some [1,7]),[],true⟩ hJ H :: .blk 2 :: .c (.lv [1])::k) (kv [(1,.ptr p 0),(7,.int .i64 i)]) H =
   orE (bI (pC fun _ x=>tC x) i (l.spells.l.drop i)) (H.take H0.length) (M.go bZ H0 k (kv [(1,.ptr p 0)]) H)
 |0,i,h=>by
  have e:i=(l.spells.l).length:=by omega
  subst e
  rw [ao M hJ.eq_1]
  simp (maxSteps:=3000000) (maxDischargeDepth:=6) +contextual -implicitDefEqProofs only [amA M,amB,↓ae,↓aa,↓aj,↓ah,Nat.reduceBEq,Nat.reduceAdd,env,am,ec,Nat.lt_irrefl,List.drop_length,bp,hp]
 |n+1,i,h=>by
  have hi:i<(l.spells.l).length:=by omega
  have hx:(l.spells.l)[i]?=some (l.spells.l)[i]:=List.getElem?_eq_getElem hi
  have hd:((l.spells.l).drop i)=(l.spells.l)[i]::(l.spells.l).drop (i+1):=List.drop_eq_getElem_cons hi
  have hm:(l.spells.l)[i]∈(l.spells.l):=List.getElem_mem hi
  have ih:=UB (H:=H) (H0:=H0) (hN:=hN) (l:=l) (n0:=n0) (hl:=hl) (p:=p) (T:=T) (hp:=hp) hc k n (i+1)  (by omega)
  simp only [kv_cons,kv_nil] at ih
  have hp':=fun L=>cf (L:=L) hp
  have w1:Wk H.length (.ptr p 0) (.ptr p 0):=wk_ptr (List.getElem?_eq_some_iff.1 hp).1
  have hx0:=hl.spells.all _ hm
  have e1:=M3 l.spells.l[i]
  rw [ao M hJ.eq_1]
  simp (maxSteps:=3000000) (maxDischargeDepth:=6) +contextual -implicitDefEqProofs only [amA M,amB,↓ae,↓aa,↓aj,↓ah,Nat.reduceBEq,Nat.reduceAdd,env,am,ec,hx,hd,hi,ih,amG,AV.cell,hp,hp',w1,bq hi hl.spells.len,az hi,bp,lq,Ap M hN hx0.frm (more:=[43]) (by simp [aZ]),Ap M hN hx0.to (more:=[43]) (by simp [aZ]),Ap M hN hx0.left (more:=[43,35,86,67]) (by simp [aZ]),Ap M hN hx0.right (more:=[43,35,86,67]) (by simp [aZ]),li,e1,Bool.or_assoc,qE,hc]
theorem S0(l:Lex)(x:eh):DA l x=sel (decide (uP (fun t=>t.name == x.cls) 0 l.classes.l<0)) 5 (sel (!ofF [] x.glue||decide ((6:Int)<(x.glue.length:Int))) 1 (pa l x.feats.l)):=by
 rw [← Gk]
 unfold DA zC
 rcases pD (fun t:aX=>t.name == x.cls) l.classes.l 0 with ⟨h1,h2⟩ | ⟨j,c,h1,h2,h3⟩
 ·rw [h1,h2];rfl
 ·rw [h1,h3,Hr];rfl
theorem UC{H H0:List ag}(hN:bz E)(hR:tE E){l:Lex}{n0:Nat}(hl:l.ok n0){p:Nat}{T:TypeId}(hp:H[p]?=some (.cells l.row T))(hc:bO H0 H)(k:List Fra):∀ (n i:Nat),i+n=(l.links.l).length →
  M.go bZ H0 (.c hT :: .lp ⟨(some [1,9]),[],true⟩ hT H :: .blk 4 :: .c (.lv [])::k) (kv [(1,.ptr p 0),(9,.int .i64 i)]) H =
   orE (bI (pC fun _ x=>DA l x) i (l.links.l.drop i)) (H.take H0.length) (M.go bZ H0 k .leaf H)
 |0,i,h=>by
  have e:i=(l.links.l).length:=by omega
  subst e
  rw [ao M hT.eq_1]
  simp (maxSteps:=3000000) (maxDischargeDepth:=6) +contextual -implicitDefEqProofs only [amA M,amB,↓ae,↓aa,↓aj,↓ah,Nat.reduceBEq,Nat.reduceAdd,env,am,ec,Nat.lt_irrefl,List.drop_length,bp,hp]
 |n+1,i,h=>by
  have hi:i<(l.links.l).length:=by omega
  have hx:(l.links.l)[i]?=some (l.links.l)[i]:=List.getElem?_eq_getElem hi
  have hd:((l.links.l).drop i)=(l.links.l)[i]::(l.links.l).drop (i+1):=List.drop_eq_getElem_cons hi
  have hm:(l.links.l)[i]∈(l.links.l):=List.getElem_mem hi
  have ih:=UC (H:=H) (H0:=H0) (hN:=hN) (hR:=hR) (l:=l) (n0:=n0) (hl:=hl) (p:=p) (T:=T) (hp:=hp) hc k n (i+1)  (by omega)
  simp only [kv_cons,kv_nil] at ih
  have hp':=fun L=>cf (L:=L) hp
  have w1:Wk H.length (.ptr p 0) (.ptr p 0):=wk_ptr (List.getElem?_eq_some_iff.1 hp).1
  have hx0:=hl.links.all _ hm
  have e1:=S0 l l.links.l[i]
  rw [ao M hT.eq_1]
  simp (maxSteps:=3000000) (maxDischargeDepth:=6) +contextual -implicitDefEqProofs only [amA M,amB,↓ae,↓aa,↓aj,↓ah,Nat.reduceBEq,Nat.reduceAdd,env,am,ec,hx,hd,hi,ih,amG,AV.cell,hp,hp',w1,bq hi hl.links.len,az hi,bp,xz,Ax M hR hl,Ap M hN hx0.glue (more:=[]) (by simp),xF M hR hl hx0.feats.len,li,e1,qE,LD,hc]
end
section
attribute [local congr] aS eb bQ aT bv bb aU aC aD bc be
variable{E:bP}(M:dO d8 E)
theorem Tq(e:Int)(i:Nat)(l:List Int):ul (fun _ e=>e) i (e::l)=sel (!(e == 0)) e (ul (fun _ e=>e) (i+1) l):=rfl
theorem Tr(i:Nat):ul (fun _ (e:Int)=>e) i []=0:=rfl
theorem Az(hN:bz E)(hR:tE E){l:Lex}{n:Nat}(hl:l.ok n){H:List ag}(hn:n≤H.length):M.run gd [.agg l.row] H=some (.ret (.int .u8 (iU l)),H):=by
 rw [aM M hR.truchmanref02_Check rfl (c:=ot) rfl,ot]
 have hp:(H++[ag.cells l.row aq])[H.length]?=some (.cells l.row aq):=by rw [cu];rfl
 have h0:=fun k He=>UA M hl hp (cut_app H _) k (l.vowels.length-1) 1 (by omega) He rfl
 have h1:=fun k=>UB M hN hl hp (cut_app H _) k l.spells.l.length 0 (by omega)
 have h2:=fun k=>UC M hN hR hl hp (cut_app H _) k l.links.l.length 0 (by omega)
 simp only [kv_cons,kv_nil,Int.ofNat_zero,(show ((1:Nat):Int)=1 from rfl),List.drop_zero,Oa] at h0 h1 h2
 have ho:=Ap M hN hl.vowels (more:=[]) (by simp)
 have e1:ul (fun _ e=>e) 0 [Qg l,yc l,tD l,wq l,yd l,Aw l]=sel (ofF [] l.vowels) (sel (N9 l.vowels) (sel (!(yc l == 0)) (yc l) (sel (!(tD l == 0)) (tD l) (sel (!(wq l == 0)) (wq l) (sel (!(yd l == 0)) (yd l) (Aw l))))) 1) 1:=by
  simp only [Tq,Tr,Pk]
  cases ofF [] l.vowels with
  |false=>rfl
  |true=>
   cases N9 l.vowels with
   |false=>rfl
   |true=>
    simp only [sel]
    cases h5:Aw l == 0 with
    |false=>rfl
    |true=>rw [eq_of_beq h5];rfl
 rw [iU,e1]
 cases hb:tD l == 0 with
 |false=>
  simp (maxSteps:=3000000) (maxDischargeDepth:=6) +contextual -implicitDefEqProofs only [amA M,amB,↓ae,↓aa,↓aj,↓ah,Nat.reduceBEq,Nat.reduceAdd,env,am,ec,h0,bp,ho,GR M hN hR hl,Fq M hN hR hl,hb]
 |true=>
  have hsh:=MZ (eq_of_beq hb)
  have e4:yd l=sel (decide ((16:Int)<(l.spells.l.length:Int))) 3 (ul (fun _ x=>tC x) 0 l.spells.l):=rfl
  have e5:Aw l=sel (decide ((8:Int)<(l.links.l.length:Int))) 3 (ul (fun _ x=>DA l x) 0 l.links.l):=rfl
  have h1':∀ (x:Option Out),orE (bI (pC fun _ x=>tC x) 0 l.spells.l) H x=sel (ul (fun _ x=>tC x) 0 l.spells.l == 0) x (some (.ret (.int .u8 (ul (fun _ x=>tC x) 0 l.spells.l)),H)):=fun x=>by
   rw [← Fp,LD]
  simp (maxSteps:=3000000) (maxDischargeDepth:=6) +contextual -implicitDefEqProofs only [amA M,amB,↓ae,↓aa,↓aj,↓ah,Nat.reduceBEq,Nat.reduceAdd,env,am,ec,h0,h1,h2,h1',bp,ho,GR M hN hR hl,Fq M hN hR hl,LG M hN hR hl hsh,hn,hb,rj]
  rw [e4,e5]
  cases decide ((16:Int)<(l.spells.l.length:Int))<;>cases decide ((8:Int)<(l.links.l.length:Int))<;>simp only [sel,slc]<;>rfl
end
section
attribute [local congr] aS eb bQ aT bv bb aU aC aD bc be
variable{E:bP}(M:dO d8 E)
abbrev w64(n:Int):Int:=IntKind.i64.wrap n
theorem M4{H L:List ag}{k k':IntKind}{a b:Int}{T T':TypeId}(L2:List ag):bO (H++(.cells [.int k a] T::L)) (H++(.cells [.int k' b] T'::(L++L2))):=
 ⟨by simp,fun i x hi hx=>by
  rcases Nat.lt_trichotomy i H.length with h | h | h
  ·left;rw [List.getElem?_append_left h] at hx ⊢;exact hx
  ·subst h;rw [cu] at hx;right
   obtain rfl:_=x:=by simpa using hx
   intro c hc
   simp only [List.mem_singleton] at hc
   subst hc;exact wk_int _ _ _
  ·left
   obtain ⟨j,rfl⟩:∃ j,i=H.length+(j+1):=⟨i-H.length-1,by omega⟩
   rw [hp_getk] at hx ⊢
   simp only [List.getElem?_cons_succ] at hx ⊢
   have:j<L.length:=by simp at hi;omega
   rwa [List.getElem?_append_left this] at hx⟩
theorem Gl{H:List ag}{k k':IntKind}{a b:Int}{T T':TypeId}(L2:List ag):bO (H++[.cells [.int k a] T]) (H++(.cells [.int k' b] T'::L2)):=M4 (L:=[]) L2
theorem Qn{H L:List ag}{k k':IntKind}{a b:Int}{T T':TypeId}:bO (H++(.cells [.int k a] T::L)) (H++(.cells [.int k' b] T'::L)):=by
 have:=M4 (H:=H) (L:=L) (k:=k) (k':=k') (a:=a) (b:=b) (T:=T) (T':=T') []
 rwa [List.append_nil] at this
theorem TY(H L:List ag)(y:ag):(H++(y::L)).take (H.length+(L.length+1))=H++(y::L):=List.take_of_length_le (by simp)
theorem Ob(H L:List ag)(y:ag):(H++(y::L)).take (H.length+1)=H++[y]:=by
 rw [List.take_append];simp
 exact List.take_of_length_le (by omega)
def RJ(m:Int)(f:au):Int:=w64 (m+w64 (w64 (1+(f.name.length:Int))+(f.value.length:Int)))
def I4(m:Int)(b:List au):Int:=w64 ((b.take 100).foldl RJ m+(b.length:Int))
theorem LI{n m:Nat}(h:m=min 100 n):(decide (m<n)&&decide ((m:Int)<100))=false:=by
 rw [Bool.eq_false_iff];simp;omega
theorem Oc{i m n:Nat}(h:m=min 100 n)(hi:i<m):decide ((i:Int)<100)=true:=decide_eq_true (by omega)
theorem gr1{H H0:List ag}{L:List ag}{T:TypeId}{b Lf:List au}(hM:Lf.length=min 100 b.length)(hL:∀ k,k<Lf.length→b[k]?=Lf[k]?){tg:Tag}(k:List Fra):∀ (n i:Nat) (m:Int) (He:List ag),i+n=Lf.length →
  M.go cQ H0 (.c fN :: .lp ⟨(some [0,1,3]),[],false⟩ fN He :: .blk 0 :: .c (.lv [0,1])::k) (kv [(0,.slice tg 2 (b.map au.row)),(1,.ptr H.length 0),(3,.int .i64 i)]) (H++(.cells [.int .i64 m] T::L)) =
   (M.go cQ H0 k (kv [(0,.slice tg 2 (b.map au.row)),(1,.ptr H.length 0)]) (H++(.cells [.int .i64 ((Lf.drop i).foldl RJ m)] T::L)))
 |0,i,m,He,h=>by
  have e:i=Lf.length:=by omega
  subst e
  rw [ao M fN.eq_1]
  simp (maxSteps:=3000000) (maxDischargeDepth:=6) +contextual -implicitDefEqProofs only [amA M,amB,↓ae,↓aa,↓aj,↓ah,Nat.reduceBEq,Nat.reduceAdd,env,am,l3,Nat.lt_irrefl,List.drop_length,LI hM,List.foldl_nil]
 |n+1,i,m,He,h=>by
  have hi:i<Lf.length:=by omega
  have hx:Lf[i]?=some Lf[i]:=List.getElem?_eq_getElem hi
  have hd:(Lf.drop i)=Lf[i]::Lf.drop (i+1):=List.drop_eq_getElem_cons hi
  have hm:Lf[i]∈Lf:=List.getElem_mem hi
  have ih:=fun m He=>gr1 (H:=H) (H0:=H0) (L:=L) (T:=T) (b:=b) (Lf:=Lf) (hM:=hM) (hL:=hL) (tg:=tg) k n (i+1) m He (by omega)
  simp only [kv_cons,kv_nil] at ih
  have hib:i<b.length:=by omega
  have hxb:=(hL i hi).trans hx
  rw [ao M fN.eq_1]
  simp (maxSteps:=3000000) (maxDischargeDepth:=6) +contextual -implicitDefEqProofs only [amA M,amB,↓ae,↓aa,↓aj,↓ah,Nat.reduceBEq,Nat.reduceAdd,env,am,l3,hx,hd,hi,ih,amG,AV.cell,hib,hxb,Oc hM hi,az hib,mE,bq (n:=100) (show i<100 by omega) (by simp [aZ]),List.foldl_cons,RJ]
theorem D9(hg:E.fn gM=some cQ){b:List au}{tg:Tag}(H L:List ag)(m:Int)(T:TypeId) :
  M.run gM [.slice tg 2 (b.map au.row),.ptr H.length 0] (H++(.cells [.int .i64 m] T::L))=some (.ret (.tuple []),H++(.cells [.int .i64 (I4 m b)] T::L)):=by
 rw [aM M hg rfl (c:=lZ) rfl,lZ]
 have h1:=fun k He=>gr1 M (H:=H) (H0:=H++(.cells [.int .i64 m] T::L)) (L:=L) (T:=T) (b:=b) (Lf:=b.take 100) (by simp) (Cj b 100) (tg:=tg) k (b.take 100).length 0 m He (by omega)
 simp only [kv_cons,kv_nil,Int.ofNat_zero,List.drop_zero] at h1
 simp (maxSteps:=3000000) (maxDischargeDepth:=6) +contextual -implicitDefEqProofs only [amA M,amB,↓ae,↓aa,↓aj,↓ah,Nat.reduceBEq,Nat.reduceAdd,env,am,l3,amG,AV.cell,Nat.reduceMul,Nat.reduceLeDiff,h1,Qn,TY,wk_tuple,I4,lr_row1,List.set_cons_zero]
end
section
attribute [local congr] aS eb bQ aT bv bb aU aC aD bc be
variable{E:bP}(M:dO d8 E)
structure Ea (E:bP):Prop where
 truchmanlaw02_Great_1:E.fn gM=some cQ
 truchmanlaw02_Great:E.fn kz=some aE
abbrev sP(m:Int):ag:=.cells [.int .i64 m] yW
abbrev ye(n:Nat):AV:=.fn (.func gM) [] [.ptr n 0]
def TZ(m:Int)(s:Str):Int:=w64 (m+w64 (1+(s.length:Int)))
def Od(m:Int)(t:bA):Int:=w64 ((t.values.l.take 100).foldl TZ (w64 (m+w64 (1+(t.name.length:Int))))+(t.values.l.length:Int))
theorem gl0{H H0:List ag}{l:Lex}{p:Nat}{T:TypeId}(hp:H[p]?=some (.cells l.row T)){i0:Nat}{t:bA}(ht:l.traits.l[i0]?=some t){Lf:List Str}(hM:Lf.length=min 100 t.values.l.length)(hL:∀ k,k<Lf.length→t.values.l[k]?=Lf[k]?)(k:List Fra):∀ (n i:Nat) (m:Int) (He:List ag),i+n=Lf.length →
  M.go aE H0 (.c gQ :: .lp ⟨(some [1,3,4,5,6]),[],false⟩ gQ He :: .blk 2 :: .c (.lv [1,3,4,5])::k) (kv [(1,.ptr p 0),(3,.ptr H.length 0),(4,ye H.length),(5,.int .i64 i0),(6,.int .i64 i)]) (H++[sP m]) =
   (M.go aE H0 k (kv [(1,.ptr p 0),(3,.ptr H.length 0),(4,ye H.length),(5,.int .i64 i0)]) (H++[sP ((Lf.drop i).foldl TZ m)]))
 |0,i,m,He,h=>by
  have e:i=Lf.length:=by omega
  subst e
  rw [ao M gQ.eq_1]
  simp (maxSteps:=3000000) (maxDischargeDepth:=6) +contextual -implicitDefEqProofs only [amA M,amB,↓ae,↓aa,↓aj,↓ah,Nat.reduceBEq,Nat.reduceAdd,env,am,bf,Nat.lt_irrefl,List.drop_length,LI hM,List.foldl_nil,cf hp,bp,az (List.getElem?_eq_some_iff.1 ht).1,ht,oa]
 |n+1,i,m,He,h=>by
  have hi:i<Lf.length:=by omega
  have hx:Lf[i]?=some Lf[i]:=List.getElem?_eq_getElem hi
  have hd:(Lf.drop i)=Lf[i]::Lf.drop (i+1):=List.drop_eq_getElem_cons hi
  have hm:Lf[i]∈Lf:=List.getElem_mem hi
  have ih:=fun m He=>gl0 (H:=H) (H0:=H0) (l:=l) (p:=p) (T:=T) (hp:=hp) (i0:=i0) (t:=t) (ht:=ht) (Lf:=Lf) (hM:=hM) (hL:=hL) k n (i+1) m He (by omega)
  simp only [kv_cons,kv_nil] at ih
  have hib:i<t.values.l.length:=by omega
  have hxb:=(hL i hi).trans hx
  rw [ao M gQ.eq_1]
  simp (maxSteps:=3000000) (maxDischargeDepth:=6) +contextual -implicitDefEqProofs only [amA M,amB,↓ae,↓aa,↓aj,↓ah,Nat.reduceBEq,Nat.reduceAdd,env,am,bf,hx,hd,hi,ih,amG,AV.cell,Nat.reduceMul,Nat.reduceLeDiff,cf hp,bp,az (List.getElem?_eq_some_iff.1 ht).1,ht,oa,Lx,hib,hxb,Oc hM hi,az hib,bq (n:=100) (show i<100 by omega) (by simp [aZ]),List.foldl_cons,TZ]
theorem gl1{H H0:List ag}{l:Lex}{n0:Nat}(hl:l.ok n0){p:Nat}{T:TypeId}(hp:H[p]?=some (.cells l.row T))(k:List Fra):∀ (n i:Nat) (m:Int) (He:List ag),i+n=(l.traits.l).length →
  M.go aE H0 (.c gR :: .lp ⟨(some [1,3,4,5]),[],false⟩ gR He :: .blk 0 :: .c (.lv [1,3,4])::k) (kv [(1,.ptr p 0),(3,.ptr H.length 0),(4,ye H.length),(5,.int .i64 i)]) (H++[sP m]) =
   (M.go aE H0 k (kv [(1,.ptr p 0),(3,.ptr H.length 0),(4,ye H.length)]) (H++[sP ((l.traits.l.drop i).foldl Od m)]))
 |0,i,m,He,h=>by
  have e:i=(l.traits.l).length:=by omega
  subst e
  rw [ao M gR.eq_1]
  simp (maxSteps:=3000000) (maxDischargeDepth:=6) +contextual -implicitDefEqProofs only [amA M,amB,↓ae,↓aa,↓aj,↓ah,Nat.reduceBEq,Nat.reduceAdd,env,am,bf,Nat.lt_irrefl,List.drop_length,List.foldl_nil,cf hp,bp]
 |n+1,i,m,He,h=>by
  have hi:i<(l.traits.l).length:=by omega
  have hx:(l.traits.l)[i]?=some (l.traits.l)[i]:=List.getElem?_eq_getElem hi
  have hd:((l.traits.l).drop i)=(l.traits.l)[i]::(l.traits.l).drop (i+1):=List.drop_eq_getElem_cons hi
  have hm:(l.traits.l)[i]∈(l.traits.l):=List.getElem_mem hi
  have ih:=fun m He=>gl1 (H:=H) (H0:=H0) (l:=l) (n0:=n0) (hl:=hl) (p:=p) (T:=T) (hp:=hp) k n (i+1) m He (by omega)
  simp only [kv_cons,kv_nil] at ih
  have h0:=fun m k He=>gl0 M (H0:=H0) hp (i0:=i) hx (Lf:=l.traits.l[i].values.l.take 100) (by simp) (Cj _ 100) k (l.traits.l[i].values.l.take 100).length 0 m He (by omega)
  simp only [kv_cons,kv_nil,Int.ofNat_zero,List.drop_zero] at h0
  rw [ao M gR.eq_1]
  simp (maxSteps:=3000000) (maxDischargeDepth:=6) +contextual -implicitDefEqProofs only [amA M,amB,↓ae,↓aa,↓aj,↓ah,Nat.reduceBEq,Nat.reduceAdd,env,am,bf,hx,hd,hi,ih,amG,AV.cell,Nat.reduceMul,Nat.reduceLeDiff,cf hp,bp,az hi,oa,h0,bq hi hl.traits.len,List.foldl_cons,Od]
def RK(m:Int)(s:bC):Int:=I4 (w64 (m+w64 (w64 (1+(s.pre.length:Int))+(s.add.length:Int)))) s.feats.l
def RL(c:aX):Bool:=decide ((12:Int)<(c.slots.l.length:Int))&&decide ((c.slots.l.length:Int)≤24)||decide ((60:Int)<(c.slots.l.length:Int))
def Oe(m:Int)(c:aX):Int:=c.slots.l.foldl RK (w64 (m+w64 (1+(c.name.length:Int))))
theorem gl2{H H0:List ag}(hg:Ea E){l:Lex}{n0:Nat}(hl:l.ok n0){p:Nat}{T:TypeId}(hp:H[p]?=some (.cells l.row T)){i0:Nat}{c:aX}(hci:l.classes.l[i0]?=some c)(k:List Fra):∀ (n i:Nat) (m:Int),i+n=(c.slots.l).length →
  M.go aE H0 (.c gS :: .lp ⟨(some [1,3,4,7,8]),[],true⟩ gS (H++[sP m]) :: .blk 6 :: .c (.lv [1,3,4,7])::k) (kv [(1,.ptr p 0),(3,.ptr H.length 0),(4,ye H.length),(7,.int .i64 i0),(8,.int .i64 i)]) (H++[sP m]) =
   (M.go aE H0 k (kv [(1,.ptr p 0),(3,.ptr H.length 0),(4,ye H.length),(7,.int .i64 i0)]) (H++[sP ((c.slots.l.drop i).foldl RK m)]))
 |0,i,m,h=>by
  have e:i=(c.slots.l).length:=by omega
  subst e
  rw [ao M gS.eq_1]
  simp (maxSteps:=3000000) (maxDischargeDepth:=6) +contextual -implicitDefEqProofs only [amA M,amB,↓ae,↓aa,↓aj,↓ah,Nat.reduceBEq,Nat.reduceAdd,env,am,bf,Nat.lt_irrefl,List.drop_length,List.foldl_nil,cf hp,bp,az (List.getElem?_eq_some_iff.1 hci).1,hci,iy]
 |n+1,i,m,h=>by
  have hi:i<(c.slots.l).length:=by omega
  have hx:(c.slots.l)[i]?=some (c.slots.l)[i]:=List.getElem?_eq_getElem hi
  have hd:((c.slots.l).drop i)=(c.slots.l)[i]::(c.slots.l).drop (i+1):=List.drop_eq_getElem_cons hi
  have hm:(c.slots.l)[i]∈(c.slots.l):=List.getElem_mem hi
  have ih:=fun m=>gl2 (H:=H) (H0:=H0) (hg:=hg) (l:=l) (n0:=n0) (hl:=hl) (p:=p) (T:=T) (hp:=hp) (i0:=i0) (c:=c) (hci:=hci) k n (i+1) m (by omega)
  simp only [kv_cons,kv_nil] at ih
  have hco:=hl.classes.all c (List.mem_of_getElem? hci)
  have hpl:=(List.getElem?_eq_some_iff.1 hp).1
  have w1:Wk (H.length+1) (.ptr p 0) (.ptr p 0):=wk_ptr (by omega)
  have w2:Wk (H.length+1) (.ptr H.length 0) (.ptr H.length 0):=wk_ptr (by omega)
  have w3:Wk (H.length+1) (ye H.length) (ye H.length):=wk_fn trivial ⟨wk_ptr (by omega),trivial⟩
  rw [ao M gS.eq_1]
  simp (maxSteps:=3000000) (maxDischargeDepth:=6) +contextual -implicitDefEqProofs only [amA M,amB,↓ae,↓aa,↓aj,↓ah,Nat.reduceBEq,Nat.reduceAdd,env,am,bf,hx,hd,hi,ih,amG,AV.cell,Nat.reduceMul,Nat.reduceLeDiff,cf hp,w1,w2,w3,Gl,Ob,bp,az (List.getElem?_eq_some_iff.1 hci).1,hci,iy,az hi,fk,D9 M hg.truchmanlaw02_Great_1,bq hi hco.slots.len,List.foldl_cons,RK]
theorem gl3{H H0:List ag}(hg:Ea E){l:Lex}{n0:Nat}(hl:l.ok n0){p:Nat}{T:TypeId}(hp:H[p]?=some (.cells l.row T))(hc:bO H0 H)(k:List Fra):∀ (n i:Nat) (m:Int),i+n=(l.classes.l).length →
  M.go aE H0 (.c gT :: .lp ⟨(some [1,3,4,7]),[],true⟩ gT (H++[sP m]) :: .blk 4 :: .c (.lv [1,3,4])::k) (kv [(1,.ptr p 0),(3,.ptr H.length 0),(4,ye H.length),(7,.int .i64 i)]) (H++[sP m]) =
   sel ((l.classes.l.drop i).any RL) (some (.ret (.bool true),H.take H0.length)) (M.go aE H0 k (kv [(1,.ptr p 0),(3,.ptr H.length 0),(4,ye H.length)]) (H++[sP ((l.classes.l.drop i).foldl Oe m)]))
 |0,i,m,h=>by
  have e:i=(l.classes.l).length:=by omega
  subst e
  rw [ao M gT.eq_1]
  simp (maxSteps:=3000000) (maxDischargeDepth:=6) +contextual -implicitDefEqProofs only [amA M,amB,↓ae,↓aa,↓aj,↓ah,Nat.reduceBEq,Nat.reduceAdd,env,am,bf,Nat.lt_irrefl,List.drop_length,List.foldl_nil,List.any_nil,cf hp,bp]
 |n+1,i,m,h=>by
  have hi:i<(l.classes.l).length:=by omega
  have hx:(l.classes.l)[i]?=some (l.classes.l)[i]:=List.getElem?_eq_getElem hi
  have hd:((l.classes.l).drop i)=(l.classes.l)[i]::(l.classes.l).drop (i+1):=List.drop_eq_getElem_cons hi
  have hm:(l.classes.l)[i]∈(l.classes.l):=List.getElem_mem hi
  have ih:=fun m=>gl3 (H:=H) (H0:=H0) (hg:=hg) (l:=l) (n0:=n0) (hl:=hl) (p:=p) (T:=T) (hp:=hp) hc k n (i+1) m (by omega)
  simp only [kv_cons,kv_nil] at ih
  have hco:=hl.classes.all _ hm
  have hpl:=(List.getElem?_eq_some_iff.1 hp).1
  have w1:Wk (H.length+1) (.ptr p 0) (.ptr p 0):=wk_ptr (by omega)
  have w2:Wk (H.length+1) (.ptr H.length 0) (.ptr H.length 0):=wk_ptr (by omega)
  have w3:Wk (H.length+1) (ye H.length) (ye H.length):=wk_fn trivial ⟨wk_ptr (by omega),trivial⟩
  have h0:=fun m k=>gl2 M (H0:=H0) hg hl hp (i0:=i) hx k l.classes.l[i].slots.l.length 0 m (by omega)
  simp only [kv_cons,kv_nil,Int.ofNat_zero,List.drop_zero] at h0
  rw [ao M gT.eq_1]
  simp (maxSteps:=3000000) (maxDischargeDepth:=6) +contextual -implicitDefEqProofs only [amA M,amB,↓ae,↓aa,↓aj,↓ah,Nat.reduceBEq,Nat.reduceAdd,env,am,bf,hx,hd,hi,ih,amG,AV.cell,Nat.reduceMul,Nat.reduceLeDiff,cf hp,w1,w2,w3,Gl,Ob,bp,az hi,iy,h0,bq hi hl.classes.len,List.foldl_cons,List.any_cons,Oe,RL,hc]
  generalize (decide ((12:Int)<(l.classes.l[i].slots.l.length:Int))&&decide ((l.classes.l[i].slots.l.length:Int)≤24)||decide ((60:Int)<(l.classes.l[i].slots.l.length:Int)))=b
  cases b<;>simp only [slc,Bool.true_or,Bool.false_or]
end
section
attribute [local congr] aS eb bQ aT bv bb aU aC aD bc be
variable{E:bP}(M:dO d8 E)
def irN(m:Int)(f:bT):Int:=w64 (m+(f.word.length:Int))
def Of(m:Int)(x:aR):Int:=(x.forms.l.take 100).foldl irN (I4 (w64 (m+w64 (w64 (w64 (1+(x.lem.length:Int))+(x.cls.length:Int))+(x.forms.l.length:Int)))) x.feats.l)
theorem gl4{H H0:List ag}{x:aR}{T2:TypeId}{p i0:Nat}{Lf:List bT}(hM:Lf.length=min 100 x.forms.l.length)(hL:∀ k,k<Lf.length→x.forms.l[k]?=Lf[k]?)(k:List Fra):∀ (n i:Nat) (m:Int) (He:List ag),i+n=Lf.length →
  M.go aE H0 (.c gV :: .lp ⟨(some [1,3,4,10,11,12]),[],false⟩ gV He :: .blk 10 :: .c (.lv [1,3,4,10])::k) (kv [(1,.ptr p 0),(3,.ptr H.length 0),(4,ye H.length),(10,.int .i64 i0),(11,.ptr (H.length+1) 0),(12,.int .i64 i)]) (H++[sP m,.cells x.row T2]) =
   (M.go aE H0 k (kv [(1,.ptr p 0),(3,.ptr H.length 0),(4,ye H.length),(10,.int .i64 i0)]) (H++[sP ((Lf.drop i).foldl irN m),.cells x.row T2]))
 |0,i,m,He,h=>by
  have e:i=Lf.length:=by omega
  subst e
  rw [ao M gV.eq_1]
  simp (maxSteps:=3000000) (maxDischargeDepth:=6) +contextual -implicitDefEqProofs only [amA M,amB,↓ae,↓aa,↓aj,↓ah,Nat.reduceBEq,Nat.reduceAdd,env,am,bf,Nat.lt_irrefl,List.drop_length,LI hM,List.foldl_nil,cY]
 |n+1,i,m,He,h=>by
  have hi:i<Lf.length:=by omega
  have hx:Lf[i]?=some Lf[i]:=List.getElem?_eq_getElem hi
  have hd:(Lf.drop i)=Lf[i]::Lf.drop (i+1):=List.drop_eq_getElem_cons hi
  have hm:Lf[i]∈Lf:=List.getElem_mem hi
  have ih:=fun m He=>gl4 (H:=H) (H0:=H0) (x:=x) (T2:=T2) (p:=p) (i0:=i0) (Lf:=Lf) (hM:=hM) (hL:=hL) k n (i+1) m He (by omega)
  simp only [kv_cons,kv_nil] at ih
  have hib:i<x.forms.l.length:=by omega
  have hxb:=(hL i hi).trans hx
  rw [ao M gV.eq_1]
  simp (maxSteps:=3000000) (maxDischargeDepth:=6) +contextual -implicitDefEqProofs only [amA M,amB,↓ae,↓aa,↓aj,↓ah,Nat.reduceBEq,Nat.reduceAdd,env,am,bf,hx,hd,hi,ih,amG,AV.cell,Nat.reduceMul,Nat.reduceLeDiff,cY,z7,hib,hxb,Oc hM hi,az hib,bq (n:=100) (show i<100 by omega) (by simp [aZ]),List.foldl_cons,irN]
theorem gl5{H H0:List ag}(hg:Ea E){l:Lex}{n0:Nat}(hl:l.ok n0){p:Nat}{T:TypeId}(hp:H[p]?=some (.cells l.row T))(k:List Fra):∀ (n i:Nat) (m:Int),i+n=(l.entries.l).length →
  M.go aE H0 (.c gW :: .lp ⟨(some [1,3,4,10]),[],true⟩ gW (H++[sP m]) :: .blk 8 :: .c (.lv [1,3,4])::k) (kv [(1,.ptr p 0),(3,.ptr H.length 0),(4,ye H.length),(10,.int .i64 i)]) (H++[sP m]) =
   (M.go aE H0 k (kv [(1,.ptr p 0),(3,.ptr H.length 0),(4,ye H.length)]) (H++[sP ((l.entries.l.drop i).foldl Of m)]))
 |0,i,m,h=>by
  have e:i=(l.entries.l).length:=by omega
  subst e
  rw [ao M gW.eq_1]
  simp (maxSteps:=3000000) (maxDischargeDepth:=6) +contextual -implicitDefEqProofs only [amA M,amB,↓ae,↓aa,↓aj,↓ah,Nat.reduceBEq,Nat.reduceAdd,env,am,bf,Nat.lt_irrefl,List.drop_length,List.foldl_nil,cf hp,bp]
 |n+1,i,m,h=>by
  have hi:i<(l.entries.l).length:=by omega
  have hx:(l.entries.l)[i]?=some (l.entries.l)[i]:=List.getElem?_eq_getElem hi
  have hd:((l.entries.l).drop i)=(l.entries.l)[i]::(l.entries.l).drop (i+1):=List.drop_eq_getElem_cons hi
  have hm:(l.entries.l)[i]∈(l.entries.l):=List.getElem_mem hi
  have ih:=fun m=>gl5 (H:=H) (H0:=H0) (hg:=hg) (l:=l) (n0:=n0) (hl:=hl) (p:=p) (T:=T) (hp:=hp) k n (i+1) m (by omega)
  simp only [kv_cons,kv_nil] at ih
  have hpl:=(List.getElem?_eq_some_iff.1 hp).1
  have w1:Wk (H.length+1) (.ptr p 0) (.ptr p 0):=wk_ptr (by omega)
  have w2:Wk (H.length+1) (.ptr H.length 0) (.ptr H.length 0):=wk_ptr (by omega)
  have w3:Wk (H.length+1) (ye H.length) (ye H.length):=wk_fn trivial ⟨wk_ptr (by omega),trivial⟩
  have h0:=fun m k He=>gl4 M (H:=H) (H0:=H0) (x:=l.entries.l[i]) (T2:=bK) (p:=p) (i0:=i) (Lf:=l.entries.l[i].forms.l.take 100) (by simp) (Cj _ 100) k (l.entries.l[i].forms.l.take 100).length 0 m He (by omega)
  simp only [kv_cons,kv_nil,Int.ofNat_zero,List.drop_zero] at h0
  rw [ao M gW.eq_1]
  simp (maxSteps:=3000000) (maxDischargeDepth:=6) +contextual -implicitDefEqProofs only [amA M,amB,↓ae,↓aa,↓aj,↓ah,Nat.reduceBEq,Nat.reduceAdd,env,am,bf,hx,hd,hi,ih,amG,AV.cell,Nat.reduceMul,Nat.reduceLeDiff,cf hp,w1,w2,w3,Gl,Ob,bp,az hi,cY,h0,D9 M hg.truchmanlaw02_Great_1,bq hi hl.entries.len,List.foldl_cons,Of]
def Og(m:Int)(x:br):Int:=w64 (m+w64 (w64 (w64 ((x.frm.length:Int)+(x.to.length:Int))+(x.left.length:Int))+(x.right.length:Int)))
def RN(m:Int)(x:eh):Int:=I4 (w64 (m+w64 ((x.cls.length:Int)+(x.glue.length:Int)))) x.feats.l
theorem gl6{H H0:List ag}{l:Lex}{n0:Nat}(hl:l.ok n0){p:Nat}{T:TypeId}(hp:H[p]?=some (.cells l.row T))(k:List Fra):∀ (n i:Nat) (m:Int) (He:List ag),i+n=(l.spells.l).length →
  M.go aE H0 (.c gX :: .lp ⟨(some [1,3,4,13]),[],false⟩ gX He :: .blk 12 :: .c (.lv [1,3,4])::k) (kv [(1,.ptr p 0),(3,.ptr H.length 0),(4,ye H.length),(13,.int .i64 i)]) (H++[sP m]) =
   (M.go aE H0 k (kv [(1,.ptr p 0),(3,.ptr H.length 0),(4,ye H.length)]) (H++[sP ((l.spells.l.drop i).foldl Og m)]))
 |0,i,m,He,h=>by
  have e:i=(l.spells.l).length:=by omega
  subst e
  rw [ao M gX.eq_1]
  simp (maxSteps:=3000000) (maxDischargeDepth:=6) +contextual -implicitDefEqProofs only [amA M,amB,↓ae,↓aa,↓aj,↓ah,Nat.reduceBEq,Nat.reduceAdd,env,am,bf,Nat.lt_irrefl,List.drop_length,List.foldl_nil,cf hp,bp]
 |n+1,i,m,He,h=>by
  have hi:i<(l.spells.l).length:=by omega
  have hx:(l.spells.l)[i]?=some (l.spells.l)[i]:=List.getElem?_eq_getElem hi
  have hd:((l.spells.l).drop i)=(l.spells.l)[i]::(l.spells.l).drop (i+1):=List.drop_eq_getElem_cons hi
  have hm:(l.spells.l)[i]∈(l.spells.l):=List.getElem_mem hi
  have ih:=fun m He=>gl6 (H:=H) (H0:=H0) (l:=l) (n0:=n0) (hl:=hl) (p:=p) (T:=T) (hp:=hp) k n (i+1) m He (by omega)
  simp only [kv_cons,kv_nil] at ih
  rw [ao M gX.eq_1]
  simp (maxSteps:=3000000) (maxDischargeDepth:=6) +contextual -implicitDefEqProofs only [amA M,amB,↓ae,↓aa,↓aj,↓ah,Nat.reduceBEq,Nat.reduceAdd,env,am,bf,hx,hd,hi,ih,amG,AV.cell,Nat.reduceMul,Nat.reduceLeDiff,cf hp,bp,az hi,lq,bq hi hl.spells.len,List.foldl_cons,Og]
theorem gl7{H H0:List ag}(hg:Ea E){l:Lex}{n0:Nat}(hl:l.ok n0){p:Nat}{T:TypeId}(hp:H[p]?=some (.cells l.row T))(k:List Fra):∀ (n i:Nat) (m:Int) (He:List ag),i+n=(l.links.l).length →
  M.go aE H0 (.c gY :: .lp ⟨(some [1,3,4,14]),[],false⟩ gY He :: .blk 14 :: .c (.lv [3])::k) (kv [(1,.ptr p 0),(3,.ptr H.length 0),(4,ye H.length),(14,.int .i64 i)]) (H++[sP m]) =
   (M.go aE H0 k (kv [(3,.ptr H.length 0)]) (H++[sP ((l.links.l.drop i).foldl RN m)]))
 |0,i,m,He,h=>by
  have e:i=(l.links.l).length:=by omega
  subst e
  rw [ao M gY.eq_1]
  simp (maxSteps:=3000000) (maxDischargeDepth:=6) +contextual -implicitDefEqProofs only [amA M,amB,↓ae,↓aa,↓aj,↓ah,Nat.reduceBEq,Nat.reduceAdd,env,am,bf,Nat.lt_irrefl,List.drop_length,List.foldl_nil,cf hp,bp]
 |n+1,i,m,He,h=>by
  have hi:i<(l.links.l).length:=by omega
  have hx:(l.links.l)[i]?=some (l.links.l)[i]:=List.getElem?_eq_getElem hi
  have hd:((l.links.l).drop i)=(l.links.l)[i]::(l.links.l).drop (i+1):=List.drop_eq_getElem_cons hi
  have hm:(l.links.l)[i]∈(l.links.l):=List.getElem_mem hi
  have ih:=fun m He=>gl7 (H:=H) (H0:=H0) (hg:=hg) (l:=l) (n0:=n0) (hl:=hl) (p:=p) (T:=T) (hp:=hp) k n (i+1) m He (by omega)
  simp only [kv_cons,kv_nil] at ih
  rw [ao M gY.eq_1]
  simp (maxSteps:=3000000) (maxDischargeDepth:=6) +contextual -implicitDefEqProofs only [amA M,amB,↓ae,↓aa,↓aj,↓ah,Nat.reduceBEq,Nat.reduceAdd,env,am,bf,hx,hd,hi,ih,amG,AV.cell,Nat.reduceMul,Nat.reduceLeDiff,cf hp,bp,az hi,xz,D9 M hg.truchmanlaw02_Great_1,bq hi hl.links.len,List.foldl_cons,RN]
def RP(l:Lex):Bool:=
 decide ((60:Int)<(l.entries.l.length:Int))&&decide ((l.entries.l.length:Int)≤128)||decide ((200:Int)<(l.entries.l.length:Int))||decide ((40:Int)<(l.traits.l.length:Int))||decide ((40:Int)<(l.classes.l.length:Int))||decide ((40:Int)<(l.spells.l.length:Int))||decide ((40:Int)<(l.links.l.length:Int)) ||
  (l.classes.l.any RL||decide (6000<l.links.l.foldl RN (l.spells.l.foldl Og (l.entries.l.foldl Of (l.classes.l.foldl Oe (l.traits.l.foldl Od (l.vowels.length:Int)))))))
theorem Qo(hg:Ea E){l:Lex}{n:Nat}(hl:l.ok n)(H:List ag):M.run kz [.agg l.row] H=some (.ret (.bool (RP l)),H):=by
 rw [aM M hg.truchmanlaw02_Great rfl (c:=oo) rfl,oo]
 have hp:(H++[ag.cells l.row aq])[H.length]?=some (.cells l.row aq):=by rw [cu];rfl
 have h1:=fun m k He=>gl1 M (H0:=H) hl hp k l.traits.l.length 0 m He (by omega)
 have h3:=fun m k=>gl3 M (H0:=H) hg hl hp (cut_app H _) k l.classes.l.length 0 m (by omega)
 have h5:=fun m k=>gl5 M (H0:=H) hg hl hp k l.entries.l.length 0 m (by omega)
 have h6:=fun m k He=>gl6 M (H0:=H) hl hp k l.spells.l.length 0 m He (by omega)
 have h7:=fun m k He=>gl7 M (H0:=H) hg hl hp k l.links.l.length 0 m He (by omega)
 simp only [kv_cons,kv_nil,Int.ofNat_zero,List.drop_zero,lo_app3,Lw,lo_app0,lo_len,lo_len1,lo_len0,Nat.zero_add,hp_take] at h1 h3 h5 h6 h7
 simp (maxSteps:=3000000) (maxDischargeDepth:=6) +contextual -implicitDefEqProofs only [amA M,amB,↓ae,↓aa,↓aj,↓ah,Nat.reduceBEq,Nat.reduceAdd,env,am,bf,amG,AV.cell,Nat.reduceMul,Nat.reduceLeDiff,h1,h3,h5,h6,h7,bp,RP,Bool.or_assoc]
end
section
attribute [local congr] aS eb bQ aT bv bb aU aC aD bc be
variable{E:bP}(M:dO d8 E)
structure rN (M:dO d8 E):Prop where
 index:∀ (s:Str) (c:UInt8) (H:List ag),M.run du [.str s,.int .u8 c.toNat] H=some (.ret (.int .i64 (Lib.indexByte s c)),H)
 same:∀ (i o:Nat) (H:List ag),M.run gP [.ptr i o] H=some (.ret (.ptr i o),H)
structure sQ (E:bP):Prop where
 strings_Builder_WriteString:E.fn aF=some cM
 strings_Builder_WriteByte:E.fn fc=some da
 strings_Builder_String:E.fn dj=some dX
 strings_Builder_Len:E.fn od=some eV
 strings_Builder_copyCheck:E.fn cC=some dc
abbrev gC(s:Str):List (List AV):=s.map fun b=>[.int .u8 (b.toNat:Int)]
abbrev bTok(w:Str):ag:=.tok w.length dN
abbrev ky(a:AV)(n:Nat)(w:Str)(T:TypeId):ag:=.cells [a,.slice (.own n) 1 (gC w)] T
theorem Oh(s:Str):qY 1 (gC s)=true:=by simp [qY,gC,AV.cell]
theorem Fs:∀ s:Str,qO (gC s)=some s
 |[]=>rfl
 |c::s=>by
  have:=Fs s
  simp only [gC] at this ⊢
  simp only [List.map_cons,qO,this,Option.map_some]
  congr 2
  simp
theorem M5:∀ s:Str,CA (gC s)=true
 |[]=>rfl
 |c::s=>by
  have:=M5 s
  simp only [gC] at this ⊢
  simp only [List.map_cons,CA,this,Bool.and_true,Bool.and_eq_true,decide_eq_true_eq]
  have:=c.toNat_lt
  omega
theorem KH(w s:Str):gC (w++s)=gC w++(gC s).map (·.map AV.strip):=by
 simp only [gC,List.map_append,List.map_map]
 congr 1
theorem RQ(H L:List ag){w s:Str}(h:w.length+s.length≤140737488355328)(x:AV)(hx:∀ H,DH H 1 true x=some (gC s)) :
  rap false (H++(bTok w::L)) dN 1 1 true (.slice (.own H.length) 1 (gC w)) x=some (.slice (.own H.length) 1 (gC (w++s)),H++(bTok (w++s)::L)):=by
 have h1:(gC w).length=w.length:=by simp [gC]
 have h2:(gC s).length=s.length:=by simp [gC]
 have hc:(w.length+s.length)*1≤140737488355328∧w.length+s.length≤4611686018427387904∧qY 1 (gC s)=true:=⟨by omega,by omega,Oh s⟩
 rw [KH]
 cases s with
 |nil=>simp [rap,EJ,hx,h1,gC,qY];simp at h;omega
 |cons c s=>
  simp only [rap,EJ,hx,h1,h2,or_true,true_and,hc,if_true,and_self]
  simp only [gC,List.map_cons,cu,List.getElem?_cons_zero,hp_set0,List.set_cons_zero,Nat.mul_one,List.length_cons,List.length_map,and_self,if_true,List.length_append,bTok]
theorem S1(s:Str)(H:List ag):DH H 1 true (.str s)=some (gC s):=by simp [DH]
theorem Oi(H L:List ag){w s:Str}(h:w.length+s.length≤140737488355328) :
  rap false (H++(bTok w::L)) dN 1 1 true (.slice (.own H.length) 1 (gC w)) (.str s)=some (.slice (.own H.length) 1 (gC (w++s)),H++(bTok (w++s)::L)):=RQ H L h _ (S1 s)
theorem Pm(H L:List ag){w:Str}{c:UInt8}(h:w.length+1≤140737488355328) :
  rap false (H++(bTok w::L)) dN 1 1 false (.slice (.own H.length) 1 (gC w)) (.slice .full 1 [[.int .u8 (c.toNat:Int)]])=some (.slice (.own H.length) 1 (gC (w++[c])),H++(bTok (w++[c])::L)):=by
 have h1:(gC w).length=w.length:=by simp [gC]
 have hc:(w.length+1)*1≤140737488355328∧w.length+1≤4611686018427387904:=⟨by omega,by omega⟩
 simp only [rap,EJ,DH,h1,or_true,if_true,List.length_cons,List.length_nil,Nat.zero_add,true_and,hc,and_self]
 simp [qY,AV.cell,cu,hp_set0,KH,gC,AV.strip,h1,List.map_append]
theorem Ts(H L:List ag)(w:Str)(hw:w.length≤9223372036854775807):Lc (H++(bTok w::L)) dN (.sdp H.length (gC w)) (.int .i64 (w.length:Int))=some (.str w):=by
 cases w with
 |nil=>simp [gC,Lc]
 |cons c w=>
  have h1:=Fs (c::w)
  have h2:=M5 (c::w)
  simp only [gC,List.map_cons] at h1 h2 ⊢
  simp only [Lc,cu,List.getElem?_cons_zero,h1,h2]
  rw [if_pos]
  exact ⟨trivial,trivial,Nat.le_refl _,hw,trivial⟩
theorem Tt(n:Nat)(w:Str):PG (.slice (.own n) 1 (gC w))=some (.sdp n (gC w)):=by cases w<;>rfl
theorem Ft{H L:List ag}{n n':Nat}{T T' T1 T2:TypeId}{cs cs':List AV}(h:WkL (H.length+(L.length+1+1)) cs' cs'):bO (H++(.tok n T :: .cells cs T1::L)) (H++(.tok n' T' :: .cells cs' T2::L)):=
 ⟨by simp,fun i x hi hx=>by
  rcases Nat.lt_trichotomy i H.length with hl | hl | hl
  ·left;rw [List.getElem?_append_left hl] at hx ⊢;exact hx
  ·subst hl;rw [cu] at hx;right
   obtain rfl:_=x:=by simpa using hx
   trivial
  ·obtain ⟨j,rfl⟩:∃ j,i=H.length+(j+1):=⟨i-H.length-1,by omega⟩
   rw [hp_getk] at hx ⊢
   cases j with
   |zero=>
    right
    obtain rfl:_=x:=by simpa using hx
    intro c hc
    obtain ⟨k,hk⟩:=List.getElem?_of_mem hc
    obtain ⟨y,h1,h2⟩:=h.get k c hk
    rw [hk] at h1;cases h1
    simpa [Nat.add_assoc] using h2
   |succ j=>left;simpa using hx⟩
theorem uq(H L:List ag)(x y:ag):(H++(x::y::L)).take (H.length+(L.length+1+1))=H++(x::y::L):=List.take_of_length_le (by simp)
theorem M6(n:Nat)(w:Str):pi n (gC w):=by
 rw [rowsWk_map];exact fun _ _=>⟨wk_int _ _ _,trivial⟩
theorem RR(H L:List ag)(w:Str):WkL (H.length+(L.length+1+1)) [.ptr (H.length+1) 0,.slice (.own H.length) 1 (gC w)] [.ptr (H.length+1) 0,.slice (.own H.length) 1 (gC w)]:=
 ⟨wk_ptr (by omega),wk_slice (show H.length<_ by omega) (M6 _ _),trivial⟩
theorem qU:(∀ (a:Env) (H:List ag) (x:RX),rop a H (.usl x)=cI H (PG (rx a x)))∧(∀ (a:Env) (H:List ag) (e:TypeId) (x n:RX),rop a H (.ust e x n)=cI H (Lc H e (rx a x) (rx a n)))∧(∀ (a:Env) (H:List ag) (x:RX),rop a H (.cvu x)=cI H (Nz H (rx a x)))∧(∀ (a:Env) (H:List ag) (u:TypeId) (sz:Nat) (x:RX),rop a H (.cvf u sz x)=cI H (NA H u sz (rx a x))) ∧
 (∀ (a:Env) (H:List ag) (cs:List AV) (e:TypeId) (j:Nat) (T:TypeId),rop a H (.nwb cs e j T)=some (.ptr (H.length+1) 0,H++[.tok 0 T,.cells (cs.set j (.slice (.own H.length) 1 [])) e])):=
 ⟨fun _ _ _=>rfl,fun _ _ _ _ _=>rfl,fun _ _ _=>rfl,fun _ _ _ _ _=>rfl,fun _ _ _ _ _ _=>rfl⟩
theorem M7:req .ptr .nilp .nilp=some true:=rfl
theorem I5(i o:Nat):req .ptr (.ptr i o) .nilp=some false:=rfl
theorem M8(i o:Nat):req .ptr (.ptr i o) (.ptr i o)=some true:=by simp [req]
theorem UD(H L:List ag)(x:ag)(a b:AV)(T:TypeId):Nz (H++(x :: .cells [a,b] T::L)) (.ptr (H.length+1) 0)=some (.ptr (H.length+1) 0):=by
 simp [Nz,hp_getk]
theorem UE(H L:List ag)(x:ag)(a b:AV)(T:TypeId):NA (H++(x :: .cells [a,b] T::L)) T 2 (.ptr (H.length+1) 0)=some (.ptr (H.length+1) 0):=by
 simp [NA,hp_getk]
theorem Ck(hB:sQ E)(hX:rN M)(H L:List ag)(w:Str) :
  M.run cC [.ptr (H.length+1) 0] (H++(bTok w::ky .nilp H.length w bt::L))=some (.ret (.tuple []),H++(bTok w::ky (.ptr (H.length+1) 0) H.length w bt::L)):=by
 rw [aM M hB.strings_Builder_copyCheck rfl (c:=bX) rfl,bX]
 have h1:=hX.same (H.length+1) 0
 have hw:=RR H L w
 simp (maxSteps:=3000000) (maxDischargeDepth:=6) +contextual -implicitDefEqProofs only [amA M,amB,↓ae,↓aa,↓aj,↓ah,Nat.reduceBEq,Nat.reduceAdd,env,am,iu,amG,AV.cell,Nat.reduceMul,Nat.reduceLeDiff,h1,qU,M7,rnc,UD,UE,Ft hw,uq,wk_tuple]
theorem Cm(hB:sQ E)(H L:List ag)(w:Str)(T:TypeId) :
  M.run cC [.ptr (H.length+1) 0] (H++(bTok w::ky (.ptr (H.length+1) 0) H.length w T::L))=some (.ret (.tuple []),H++(bTok w::ky (.ptr (H.length+1) 0) H.length w T::L)):=by
 rw [aM M hB.strings_Builder_copyCheck rfl (c:=bX) rfl,bX]
 simp (maxSteps:=3000000) (maxDischargeDepth:=6) +contextual -implicitDefEqProofs only [amA M,amB,↓ae,↓aa,↓aj,↓ah,Nat.reduceBEq,Nat.reduceAdd,env,am,iu,I5,M8,rnc,uq,wk_tuple]
theorem Gm(hB:sQ E)(hX:rN M)(H L:List ag){w s:Str}{T:TypeId}(h:w.length+s.length≤140737488355328) :
  M.run aF [.ptr (H.length+1) 0,.str s] (H++(bTok w::ky .nilp H.length w bt::L))=some (.ret (.tuple [.int .i64 s.length,.nilif]),H++(bTok (w++s)::ky (.ptr (H.length+1) 0) H.length (w++s) bt::L)):=by
 rw [aM M hB.strings_Builder_WriteString rfl (c:=cL) rfl,cL]
 have hw:=RR H L (w++s)
 simp (maxSteps:=3000000) (maxDischargeDepth:=6) +contextual -implicitDefEqProofs only [amA M,amB,↓ae,↓aa,↓aj,↓ah,Nat.reduceBEq,Nat.reduceAdd,env,am,eB,amG,AV.cell,Nat.reduceMul,Nat.reduceLeDiff,(Ck M hB hX),rnc,Oi _ _ h,Ft hw,uq,wk_tuple]
theorem I6(hB:sQ E)(hX:rN M)(H L:List ag){w:Str}{c:UInt8}{T:TypeId}(h:w.length+1≤140737488355328) :
  M.run fc [.ptr (H.length+1) 0,.int .u8 c.toNat] (H++(bTok w::ky .nilp H.length w bt::L))=some (.ret .nilif,H++(bTok (w++[c])::ky (.ptr (H.length+1) 0) H.length (w++[c]) bt::L)):=by
 rw [aM M hB.strings_Builder_WriteByte rfl (c:=fe) rfl,fe]
 have hw:=RR H L (w++[c])
 simp (maxSteps:=3000000) (maxDischargeDepth:=6) +contextual -implicitDefEqProofs only [amA M,amB,↓ae,↓aa,↓aj,↓ah,Nat.reduceBEq,Nat.reduceAdd,env,am,o5,amG,AV.cell,Nat.reduceMul,Nat.reduceLeDiff,(Ck M hB hX),rnc,Pm _ _ h,Ft hw,uq,wk_tuple]
theorem Gn(hB:sQ E)(hX:rN M)(H L:List ag){w s:Str}{T:TypeId}(h:w.length+s.length≤140737488355328) :
  M.run aF [.ptr (H.length+1) 0,.str s] (H++(bTok w::ky (.ptr (H.length+1) 0) H.length w T::L))=some (.ret (.tuple [.int .i64 s.length,.nilif]),H++(bTok (w++s)::ky (.ptr (H.length+1) 0) H.length (w++s) T::L)):=by
 rw [aM M hB.strings_Builder_WriteString rfl (c:=cL) rfl,cL]
 have hw:=RR H L (w++s)
 simp (maxSteps:=3000000) (maxDischargeDepth:=6) +contextual -implicitDefEqProofs only [amA M,amB,↓ae,↓aa,↓aj,↓ah,Nat.reduceBEq,Nat.reduceAdd,env,am,eB,amG,AV.cell,Nat.reduceMul,Nat.reduceLeDiff,(Cm M hB),rnc,Oi _ _ h,Ft hw,uq,wk_tuple]
theorem I7(hB:sQ E)(hX:rN M)(H L:List ag){w:Str}{c:UInt8}{T:TypeId}(h:w.length+1≤140737488355328) :
  M.run fc [.ptr (H.length+1) 0,.int .u8 c.toNat] (H++(bTok w::ky (.ptr (H.length+1) 0) H.length w T::L))=some (.ret .nilif,H++(bTok (w++[c])::ky (.ptr (H.length+1) 0) H.length (w++[c]) T::L)):=by
 rw [aM M hB.strings_Builder_WriteByte rfl (c:=fe) rfl,fe]
 have hw:=RR H L (w++[c])
 simp (maxSteps:=3000000) (maxDischargeDepth:=6) +contextual -implicitDefEqProofs only [amA M,amB,↓ae,↓aa,↓aj,↓ah,Nat.reduceBEq,Nat.reduceAdd,env,am,o5,amG,AV.cell,Nat.reduceMul,Nat.reduceLeDiff,(Cm M hB),rnc,Pm _ _ h,Ft hw,uq,wk_tuple]
theorem M9(hB:sQ E)(H L:List ag){w:Str}{a:AV}{T:TypeId}(hw:w.length≤9223372036854775807) :
  M.run dj [.ptr (H.length+1) 0] (H++(bTok w::ky a H.length w T::L))=some (.ret (.str w),H++(bTok w::ky a H.length w T::L)):=by
 rw [aM M hB.strings_Builder_String rfl (c:=gl) rfl,gl]
 simp (maxSteps:=3000000) (maxDischargeDepth:=6) +contextual -implicitDefEqProofs only [amA M,amB,↓ae,↓aa,↓aj,↓ah,Nat.reduceBEq,Nat.reduceAdd,env,am,lw,qU,rnc,Tt,Ts H _ w hw,uq]
theorem RT(hB:sQ E)(H L:List ag){w:Str}{a:AV}{T:TypeId} :
  M.run od [.ptr (H.length+1) 0] (H++(bTok w::ky a H.length w T::L))=some (.ret (.int .i64 w.length),H++(bTok w::ky a H.length w T::L)):=by
 rw [aM M hB.strings_Builder_Len rfl (c:=ou) rfl,ou]
 simp (maxSteps:=3000000) (maxDischargeDepth:=6) +contextual -implicitDefEqProofs only [amA M,amB,↓ae,↓aa,↓aj,↓ah,Nat.reduceBEq,Nat.reduceAdd,env,am,A2,rnc,uq]
end
section
attribute [local congr] aS eb bQ aT bv bb aU aC aD bc be
variable{E:bP}(M:dO d8 E)
structure SpE (E:bP):Prop where
 internal_stringslite_HasPrefix:E.fn iC=some ca
 internal_stringslite_IndexByte:E.fn cP=some b9
 morph_language_left:E.fn oh=some dE
 morph_language_match:E.fn kb=some eI
 morph_language_right:E.fn mW=some dh
 morph_language_spell:E.fn mU=some dg
 strings_HasPrefix:E.fn p6=some f8
 strings_IndexByte:E.fn p7=some f9
theorem zE{s:Str}{k:IntKind}{i:Nat}(h:i≤s.length):Lb (.str s) (some (.int k (i:Int))) none=some (.str (s.drop i)):=by
 simp [Lb,fD,h]
 exact List.take_of_length_le (by simp)
theorem Oj{s:Str}{k:IntKind}{i:Nat}(h:i≤s.length):Lb (.str s) none (some (.int k (i:Int)))=some (.str (s.take i)):=by
 simp [Lb,fD,h]
theorem Fu{s:Str}{k k':IntKind}{i j:Nat}(h:i≤j)(hj:j≤s.length):Lb (.str s) (some (.int k (i:Int))) (some (.int k' (j:Int)))=some (.str ((s.drop i).take (j-i))):=by
 simp [Lb,fD,h,hj]
def AA(s p:Str):Bool:=decide (p.length≤s.length)&&(s.take p.length == p)
theorem tR(hS:SpE E)(s p:Str)(H:List ag):M.run p6 [.str s,.str p] H=some (.ret (.bool (AA s p)),H):=by
 have h1:M.run iC [.str s,.str p] H=some (.ret (.bool (AA s p)),H):=by
  rw [aM M hS.internal_stringslite_HasPrefix rfl (c:=iQ) rfl,iQ]
  cases hd:decide (p.length≤s.length) with
  |true=>
   have hle:p.length≤s.length:=of_decide_eq_true hd
   simp (maxSteps:=3000000) (maxDischargeDepth:=6) +contextual -implicitDefEqProofs only [amA M,amB,↓ae,↓aa,↓aj,↓ah,Nat.reduceBEq,Nat.reduceAdd,env,am,k9,AA,hd,Oj hle]
  |false=>
   simp (maxSteps:=3000000) (maxDischargeDepth:=6) +contextual -implicitDefEqProofs only [amA M,amB,↓ae,↓aa,↓aj,↓ah,Nat.reduceBEq,Nat.reduceAdd,env,am,k9,AA,hd]
 rw [aM M hS.strings_HasPrefix rfl (c:=p9) rfl,p9]
 simp (maxSteps:=3000000) (maxDischargeDepth:=6) +contextual -implicitDefEqProofs only [amA M,amB,↓ae,↓aa,↓aj,↓ah,Nat.reduceBEq,Nat.reduceAdd,env,am,CR,h1]
theorem KI:∀ (s:Str) (c:UInt8),decide ((0:Int)≤Lib.indexByte s c)=s.any fun d=>d == c
 |[],c=>rfl
 |d::s,c=>by
  rw [Lib.indexByte,List.any_cons,← KI s c]
  cases h:d == c with
  |true=>simp
  |false=>
   have hg:=Lib.indexByte_ge s c
   simp only [Bool.false_or]
   by_cases h2:Lib.indexByte s c = -1
   ·simp [h2]
   ·have:(Lib.indexByte s c == -1)=false:=by simpa using h2
    simp only [this]
    rw [Bool.eq_iff_iff];simp;omega
theorem JO(hS:SpE E)(hX:rN M)(s:Str)(c:UInt8)(H:List ag):M.run p7 [.str s,.int .u8 c.toNat] H=some (.ret (.int .i64 (Lib.indexByte s c)),H):=by
 have h1:M.run cP [.str s,.int .u8 c.toNat] H=some (.ret (.int .i64 (Lib.indexByte s c)),H):=by
  rw [aM M hS.internal_stringslite_IndexByte rfl (c:=dW) rfl,dW]
  simp (maxSteps:=3000000) (maxDischargeDepth:=6) +contextual -implicitDefEqProofs only [amA M,amB,↓ae,↓aa,↓aj,↓ah,Nat.reduceBEq,Nat.reduceAdd,env,am,k8,hX.index]
 rw [aM M hS.strings_IndexByte rfl (c:=qa) rfl,qa]
 simp (maxSteps:=3000000) (maxDischargeDepth:=6) +contextual -implicitDefEqProofs only [amA M,amB,↓ae,↓aa,↓aj,↓ah,Nat.reduceBEq,Nat.reduceAdd,env,am,CS,h1]
def I8(s:Str)(at_:Int):Option UInt8:=if at_<0 then none else s[at_.toNat]?
def isV(v:Str)(c:UInt8):Bool:=v.any fun d=>d == c
def sR(v:Str)(p:UInt8)(s:Str)(at_:Int):Bool:=
 match I8 s at_ with
 |none=>((p.toNat:Int) == 35)&&((at_ == -1)||(at_ == (s.length:Int)))
 |some c=>sel ((p.toNat:Int) == 67) (jb c && !isV v c) (sel ((p.toNat:Int) == 86) (jb c&&isV v c) (p.toNat == c.toNat))
theorem KJ(hN:bz E)(hS:SpE E)(hX:rN M){l:Lex}(p:UInt8)(s:Str)(at_:Int)(H:List ag) :
  M.run kb [.agg l.row,.int .u8 p.toNat,.str s,.int .i64 at_] H=some (.ret (.bool (sR l.vowels p s at_)),H):=by
 rw [aM M hS.morph_language_match rfl (c:=nz) rfl,nz]
 by_cases h:at_<0
 ·have e:I8 s at_=none:=if_pos h
  have hd:decide (at_<0)=true:=decide_eq_true h
  simp (maxSteps:=3000000) (maxDischargeDepth:=6) +contextual -implicitDefEqProofs only [amA M,amB,↓ae,↓aa,↓aj,↓ah,Nat.reduceBEq,Nat.reduceAdd,env,am,nA,hd,sR,e,cut_app]
 ·obtain ⟨j,rfl⟩:∃ j:Nat,at_=(j:Int):=⟨at_.toNat,by omega⟩
  have e:I8 s (j:Int)=s[j]? := by simp [I8,h]
  by_cases hj:j<s.length
  ·have hx:s[j]?=some s[j]:=List.getElem?_eq_getElem hj
   have hd:decide (s.length≤j)=false:=decide_eq_false (by omega)
   simp (maxSteps:=3000000) (maxDischargeDepth:=6) +contextual -implicitDefEqProofs only [amA M,amB,↓ae,↓aa,↓aj,↓ah,Nat.reduceBEq,Nat.reduceAdd,env,am,nA,Hr,hd,hx,sR,e,bp,cut_app,JO M hS hX,KI,nE M hN.letter,isV]
  ·have hx:s[j]?=none:=List.getElem?_eq_none (by omega)
   have hd:decide (s.length≤j)=true:=decide_eq_true (by omega)
   simp (maxSteps:=3000000) (maxDischargeDepth:=6) +contextual -implicitDefEqProofs only [amA M,amB,↓ae,↓aa,↓aj,↓ah,Nat.reduceBEq,Nat.reduceAdd,env,am,nA,Hr,hd,hx,sR,e,cut_app]
def RU{α:Type}(f:Nat→α→Bool):Nat→List α→Bool
 |_,[]=>true
 |i,x::l=>f i x&&RU f (i+1) l
def JP{α:Type}(f:Nat→α→Bool):Nat→α→Option AV:=fun i x=>sel (f i x) none (some (.bool false))
theorem AB{α:Type}(f:Nat→α→Bool)(H:List ag)(x:Option Out):∀ (l:List α) (i:Nat),orE (bI (JP f) i l) H x=sel (RU f i l) x (some (.ret (.bool false),H))
 |[],_=>rfl
 |y::l,i=>by
  rw [jl,HE,AB f H x l,RU]
  unfold JP
  cases f i y<;>rfl
theorem spl{H H0:List ag}(hN:bz E)(hS:SpE E)(hX:rN M){l:Lex}{q:Str}{s:Str}{a:Nat}(ha:a≤aZ){L:Str}(hLl:L.length=q.length)(hqs:q.length≤aZ)(hL:∀ k,k<L.length→q[q.length-1-k]?=L[k]?){p:Nat}{T:TypeId}(hp:H[p]?=some (.cells l.row T))(hc:bO H0 H)(k:List Fra):∀ (n i:Nat) (He:List ag),i+n=L.length →
  M.go dE H0 (.c ir :: .lp ⟨(some [1,2,3,4,11,12]),[],false⟩ ir He :: .blk 0 :: .c (.lv [])::k) (kv [(1,.str q),(2,.str s),(3,.int .i64 a),(4,.ptr p 0),(11,.int .i64 L.length),(12,.int .i64 i)]) H =
   orE (bI (JP fun k c=>sR l.vowels c s ((a:Int)-1-(k:Int))) i (L.drop i)) (H.take H0.length) (M.go dE H0 k .leaf H)
 |0,i,He,h=>by
  have e:i=L.length:=by omega
  subst e
  rw [ao M ir.eq_1]
  simp (maxSteps:=3000000) (maxDischargeDepth:=6) +contextual -implicitDefEqProofs only [amA M,amB,↓ae,↓aa,↓aj,↓ah,Nat.reduceBEq,Nat.reduceAdd,env,am,oV,Nat.lt_irrefl,List.drop_length]
 |n+1,i,He,h=>by
  have hi:i<L.length:=by omega
  have hx:L[i]?=some L[i]:=List.getElem?_eq_getElem hi
  have hd:(L.drop i)=L[i]::L.drop (i+1):=List.drop_eq_getElem_cons hi
  have hm:L[i]∈L:=List.getElem_mem hi
  have ih:=fun He=>spl (H:=H) (H0:=H0) (hN:=hN) (hS:=hS) (hX:=hX) (l:=l) (q:=q) (s:=s) (a:=a) (ha:=ha) (L:=L) (hLl:=hLl) (hqs:=hqs) (hL:=hL) (p:=p) (T:=T) (hp:=hp) hc k n (i+1)  He (by omega)
  simp only [kv_cons,kv_nil] at ih
  have hq:=(hL i hi).trans hx
  have e1:IntKind.i64.wrap ((q.length:Int)-1)=((q.length-1:Nat):Int):=O7 (by omega) hqs
  have e2:IntKind.i64.wrap (((q.length-1:Nat):Int)-(i:Int))=((q.length-1-i:Nat):Int):=by
   simp only [aZ] at hqs;rw [dt (by omega) (by omega)];omega
  have e3:IntKind.i64.wrap ((a:Int)-1)=(a:Int)-1:=by simp only [aZ] at ha;exact dt (by omega) (by omega)
  have e4:IntKind.i64.wrap ((a:Int)-1-(i:Int))=(a:Int)-1-(i:Int):=by simp only [aZ] at ha hqs;exact dt (by omega) (by omega)
  rw [ao M ir.eq_1]
  simp (maxSteps:=3000000) (maxDischargeDepth:=6) +contextual -implicitDefEqProofs only [amA M,amB,↓ae,↓aa,↓aj,↓ah,Nat.reduceBEq,Nat.reduceAdd,env,am,oV,hx,hd,hi,ih,hq,e1,e2,e3,e4,hp,bp,KJ M hN hS hX,bq hi (show L.length≤aZ by omega),JP,hc]
def KK(v p s:Str)(a:Nat):Bool:=RU (fun k c=>sR v c s ((a:Int)-1-(k:Int))) 0 p.reverse
theorem Pn(q:Str):∀ k,k<q.reverse.length→q[q.length-1-k]?=q.reverse[k]? := fun k hk=>by
 rw [List.getElem?_reverse (by simpa using hk)]
theorem RV(hN:bz E)(hS:SpE E)(hX:rN M){l:Lex}{q:Str}(hq:q.length≤aZ)(s:Str){a:Nat}(ha:a≤aZ)(H:List ag) :
  M.run oh [.agg l.row,.str q,.str s,.int .i64 a] H=some (.ret (.bool (KK l.vowels q s a)),H):=by
 rw [aM M hS.morph_language_left rfl (c:=oU) rfl,oU]
 have h1:=fun k He=>spl M hN hS hX (H:=H++[.cells l.row aK]) (H0:=H) (l:=l) (q:=q) (s:=s) ha (L:=q.reverse) (by simp) hq (Pn q) (p:=H.length) (T:=aK) (by rw [cu];rfl) (cut_app H _) k q.reverse.length 0 He (by omega)
 simp only [kv_cons,kv_nil,Int.ofNat_zero,List.drop_zero,AB,List.length_reverse] at h1
 simp (maxSteps:=3000000) (maxDischargeDepth:=6) +contextual -implicitDefEqProofs only [amA M,amB,↓ae,↓aa,↓aj,↓ah,Nat.reduceBEq,Nat.reduceAdd,env,am,oV,h1,KK,cut_app]
theorem spr{H H0:List ag}(hN:bz E)(hS:SpE E)(hX:rN M){l:Lex}{q:Str}{s:Str}{a:Nat}(ha:a+q.length≤aZ){p:Nat}{T:TypeId}(hp:H[p]?=some (.cells l.row T))(hc:bO H0 H)(k:List Fra):∀ (n i:Nat) (He:List ag),i+n=q.length →
  M.go dh H0 (.c gB :: .lp ⟨(some [1,2,3,4,11,12]),[],false⟩ gB He :: .blk 0 :: .c (.lv [])::k) (kv [(1,.str q),(2,.str s),(3,.int .i64 a),(4,.ptr p 0),(11,.int .i64 q.length),(12,.int .i64 i)]) H =
   orE (bI (JP fun k c=>sR l.vowels c s ((a+k:Nat):Int)) i (q.drop i)) (H.take H0.length) (M.go dh H0 k .leaf H)
 |0,i,He,h=>by
  have e:i=q.length:=by omega
  subst e
  rw [ao M gB.eq_1]
  simp (maxSteps:=3000000) (maxDischargeDepth:=6) +contextual -implicitDefEqProofs only [amA M,amB,↓ae,↓aa,↓aj,↓ah,Nat.reduceBEq,Nat.reduceAdd,env,am,nu,Nat.lt_irrefl,List.drop_length]
 |n+1,i,He,h=>by
  have hi:i<q.length:=by omega
  have hx:q[i]?=some q[i]:=List.getElem?_eq_getElem hi
  have hd:(q.drop i)=q[i]::q.drop (i+1):=List.drop_eq_getElem_cons hi
  have hm:q[i]∈q:=List.getElem_mem hi
  have ih:=fun He=>spr (H:=H) (H0:=H0) (hN:=hN) (hS:=hS) (hX:=hX) (l:=l) (q:=q) (s:=s) (a:=a) (ha:=ha) (p:=p) (T:=T) (hp:=hp) hc k n (i+1)  He (by omega)
  simp only [kv_cons,kv_nil] at ih
  have e1:IntKind.i64.wrap ((a:Int)+(i:Int))=((a+i:Nat):Int):=by simp only [aZ] at ha;rw [dt (by omega) (by omega)];omega
  rw [ao M gB.eq_1]
  simp (maxSteps:=3000000) (maxDischargeDepth:=6) +contextual -implicitDefEqProofs only [amA M,amB,↓ae,↓aa,↓aj,↓ah,Nat.reduceBEq,Nat.reduceAdd,env,am,nu,hx,hd,hi,ih,e1,hp,bp,KJ M hN hS hX,bq hi (show q.length≤aZ by omega),JP,hc]
def I9(v p s:Str)(a:Nat):Bool:=RU (fun k c=>sR v c s ((a+k:Nat):Int)) 0 p
theorem Qp(hN:bz E)(hS:SpE E)(hX:rN M){l:Lex}{q:Str}(s:Str){a:Nat}(ha:a+q.length≤aZ)(H:List ag) :
  M.run mW [.agg l.row,.str q,.str s,.int .i64 a] H=some (.ret (.bool (I9 l.vowels q s a)),H):=by
 rw [aM M hS.morph_language_right rfl (c:=ns) rfl,ns]
 have h1:=fun k He=>spr M hN hS hX (H:=H++[.cells l.row aK]) (H0:=H) (l:=l) (q:=q) (s:=s) ha (p:=H.length) (T:=aK) (by rw [cu];rfl) (cut_app H _) k q.length 0 He (by omega)
 simp only [kv_cons,kv_nil,Int.ofNat_zero,List.drop_zero,AB] at h1
 simp (maxSteps:=3000000) (maxDischargeDepth:=6) +contextual -implicitDefEqProofs only [amA M,amB,↓ae,↓aa,↓aj,↓ah,Nat.reduceBEq,Nat.reduceAdd,env,am,nu,h1,I9,cut_app]
end
section
attribute [local congr] aS eb bQ aT bv bb aU aC aD bc be
variable{E:bP}(M:dO d8 E)
def Ol(v:Str)(x:br)(s:Str)(i:Nat):Bool:=AA (s.drop i) x.frm&&(KK v x.left s i&&I9 v x.right s (i+x.frm.length))
def Cn(v:Str)(x:br)(s:Str):Nat→Nat→Str→Str
 |0,_,w=>w
 |n+1,i,w=>match s[i]? with
  |none=>w
  |some c=>match Ol v x s i with
   |true=>Cn v x s n (i+x.frm.length) (w++x.to)
   |false=>Cn v x s n (i+1) (w++[c])
def ur(v:Str)(x:br)(s:Str):Str:=Cn v x s (s.length+1) 0 []
theorem Ja(v:Str)(x:br)(s:Str)(ht:x.to.length≤6):∀ (n i:Nat) (w:Str),(Cn v x s n i w).length≤w.length+6*n
 |0,i,w=>by simp only [Cn];omega
 |n+1,i,w=>by
  unfold Cn
  split
  ·omega
  ·split
   ·have:=Ja v x s ht n (i+x.frm.length) (w++x.to)
    simp only [List.length_append] at this
    omega
   ·rename_i c _ _ _
    have:=Ja v x s ht n (i+1) (w++[c])
    simp only [List.length_append,List.length_singleton] at this
    omega
theorem Qq(v:Str)(x:br)(s:Str)(ht:x.to.length≤6):(ur v x s).length≤6*(s.length+1):=by
 have:=Ja v x s ht (s.length+1) 0 []
 simpa [ur] using this
theorem Gp(hB:sQ E)(hX:rN M)(H L:List ag){w s:Str}{a:AV}(ha:a = .nilp∨a = .ptr (H.length+1) 0)(h:w.length+s.length≤140737488355328) :
  M.run aF [.ptr (H.length+1) 0,.str s] (H++(bTok w::ky a H.length w bt::L))=some (.ret (.tuple [.int .i64 s.length,.nilif]),H++(bTok (w++s)::ky (.ptr (H.length+1) 0) H.length (w++s) bt::L)):=by
 rcases ha with rfl | rfl
 ·exact Gm M (T:=0) hB hX H L h
 ·exact Gn M hB hX H L h
theorem Jb(hB:sQ E)(hX:rN M)(H L:List ag){w:Str}{c:UInt8}{a:AV}(ha:a = .nilp∨a = .ptr (H.length+1) 0)(h:w.length+1≤140737488355328) :
  M.run fc [.ptr (H.length+1) 0,.int .u8 c.toNat] (H++(bTok w::ky a H.length w bt::L))=some (.ret .nilif,H++(bTok (w++[c])::ky (.ptr (H.length+1) 0) H.length (w++[c]) bt::L)):=by
 rcases ha with rfl | rfl
 ·exact I6 M (T:=0) hB hX H L h
 ·exact I7 M hB hX H L h
theorem spw(hN:bz E)(hS:SpE E)(hX:rN M)(hB:sQ E){l:Lex}{x:br}{n0:Nat}(hx0:x.ok n0)(h0:x.frm≠[])(ht:x.to.length≤6)(hfr:x.frm.length≤6)(hri:x.right.length≤6){s:Str}(hs:s.length≤1000000)
  {H H0:List ag}{p q:Nat}{T T2:TypeId} (hp:H[p]?=some (.cells l.row T)) (hq:H[q]?=some (.cells x.row T2)):∀ (n i:Nat) (w:Str) (a:AV),(a = .nilp∨a = .ptr (H.length+1) 0)→s.length<i+n→i≤s.length+6→w.length≤6*i →
  ∃ a',∀ (k:List Fra) (He:List ag),M.go dg H0 (.c d6 :: .lp ⟨(some [2,3,4,8,9]),[],false⟩ d6 He :: .blk 0 :: .c (.lv [8])::k) (kv [(2,.str s),(3,.ptr p 0),(4,.ptr q 0),(8,.ptr (H.length+1) 0),(9,.int .i64 i)]) (H++[bTok w,ky a H.length w bt]) =
   M.go dg H0 k (kv [(8,.ptr (H.length+1) 0)]) (H++[bTok (Cn l.vowels x s n i w),ky a' H.length (Cn l.vowels x s n i w) bt])
 |0,i,w,a,ha,hn,hi,hw=>by
  refine ⟨a,fun k He => ?_⟩
  have e:¬ i<s.length:=by omega
  rw [Cn]
  rw [ao M d6.eq_1]
  simp (maxSteps:=3000000) (maxDischargeDepth:=6) +contextual -implicitDefEqProofs only [amA M,amB,↓ae,↓aa,↓aj,↓ah,Nat.reduceBEq,Nat.reduceAdd,env,am,eG,e]
 |n+1,i,w,a,ha,hn,hi,hw=>by
  have hp':=fun L=>cf (L:=L) hp
  have hq':=fun L=>cf (L:=L) hq
  by_cases h:i<s.length
  ·have hx:s[i]?=some s[i]:=List.getElem?_eq_getElem h
   have hf:0<x.frm.length:=by cases hxf:x.frm with
    |nil=>exact absurd hxf h0
    |cons a b=>simp
   have l1:=fun H=>RV M hN hS hX (l:=l) hx0.left s (show i≤aZ by simp only [aZ];omega) H
   have r1:=fun H=>Qp M hN hS hX (l:=l) (q:=x.right) s (show (i+x.frm.length)+x.right.length≤aZ by simp only [aZ];omega) H
   have e1:IntKind.i64.wrap ((i:Int)+(x.frm.length:Int))=((i+x.frm.length:Nat):Int):=by rw [dt (by omega) (by omega)];omega
   cases hA:Ol l.vowels x s i with
   |true=>
    obtain ⟨a',ih⟩:=spw hN hS hX hB hx0 h0 ht hfr hri hs hp hq n (i+x.frm.length) (w++x.to) (.ptr (H.length+1) 0) (.inr rfl) (by omega) (by omega) (by simp;omega)
    refine ⟨a',fun k He => ?_⟩
    simp only [kv_cons,kv_nil] at ih
    rw [Cn,hx,hA]
    simp only [Ol,Bool.and_eq_true] at hA
    have w1:=Gp M hB hX H [] (w:=w) (s:=x.to) ha (by omega)
    rw [ao M d6.eq_1]
    simp (maxSteps:=3000000) (maxDischargeDepth:=6) +contextual -implicitDefEqProofs only [amA M,amB,↓ae,↓aa,↓aj,↓ah,Nat.reduceBEq,Nat.reduceAdd,env,am,eG,h,hx,ih,hp',hq',bp,lq,zE (Nat.le_of_lt h),tR M hS,l1,r1,e1,hA.1,hA.2.1,hA.2.2,w1]
    all_goals exact ih _ _
   |false=>
    obtain ⟨a',ih⟩:=spw hN hS hX hB hx0 h0 ht hfr hri hs hp hq n (i+1) (w++[s[i]]) (.ptr (H.length+1) 0) (.inr rfl) (by omega) (by omega) (by simp;omega)
    refine ⟨a',fun k He => ?_⟩
    simp only [kv_cons,kv_nil] at ih
    rw [Cn,hx,hA]
    have w1:=Jb M hB hX H [] (w:=w) (c:=s[i]) ha (by omega)
    have hA2:(AA (s.drop i) x.frm&&KK l.vowels x.left s i&&I9 l.vowels x.right s (i+x.frm.length))=false:=by rw [← hA,Ol,Bool.and_assoc]
    rw [ao M d6.eq_1]
    cases c1:AA (s.drop i) x.frm with
    |false=>
     simp (maxSteps:=3000000) (maxDischargeDepth:=6) +contextual -implicitDefEqProofs only [amA M,amB,↓ae,↓aa,↓aj,↓ah,Nat.reduceBEq,Nat.reduceAdd,env,am,eG,h,hx,ih,hp',hq',bp,lq,zE (Nat.le_of_lt h),tR M hS,c1,w1,bq h (show s.length≤aZ by simp only [aZ];omega)]
     all_goals exact ih _ _
    |true=>
     cases c2:KK l.vowels x.left s i with
     |false=>
      simp (maxSteps:=3000000) (maxDischargeDepth:=6) +contextual -implicitDefEqProofs only [amA M,amB,↓ae,↓aa,↓aj,↓ah,Nat.reduceBEq,Nat.reduceAdd,env,am,eG,h,hx,ih,hp',hq',bp,lq,zE (Nat.le_of_lt h),tR M hS,l1,c1,c2,w1,bq h (show s.length≤aZ by simp only [aZ];omega)]
      all_goals exact ih _ _
     |true=>
      rw [c1,c2] at hA2
      simp only [Bool.true_and] at hA2
      simp (maxSteps:=3000000) (maxDischargeDepth:=6) +contextual -implicitDefEqProofs only [amA M,amB,↓ae,↓aa,↓aj,↓ah,Nat.reduceBEq,Nat.reduceAdd,env,am,eG,h,hx,ih,hp',hq',bp,lq,zE (Nat.le_of_lt h),tR M hS,l1,r1,e1,c1,c2,hA2,w1,bq h (show s.length≤aZ by simp only [aZ];omega)]
      all_goals exact ih _ _
  ·refine ⟨a,fun k He => ?_⟩
   have hx:s[i]?=none:=List.getElem?_eq_none (by omega)
   rw [Cn,hx]
   rw [ao M d6.eq_1]
   simp (maxSteps:=3000000) (maxDischargeDepth:=6) +contextual -implicitDefEqProofs only [amA M,amB,↓ae,↓aa,↓aj,↓ah,Nat.reduceBEq,Nat.reduceAdd,env,am,eG,h]
theorem Qr(hN:bz E)(hS:SpE E)(hX:rN M)(hB:sQ E){l:Lex}{x:br}{n0:Nat}(hx0:x.ok n0)(h0:x.frm≠[])(ht:x.to.length≤6)(hfr:x.frm.length≤6)(hri:x.right.length≤6){s:Str}(hs:s.length≤1000000)(H:List ag) :
  M.run mU [.agg l.row,.agg x.row,.str s] H=some (.ret (.tuple [.str (ur l.vowels x s),.bool (decide (((ur l.vowels x s).length:Int)≤512))]),H):=by
 rw [aM M hS.morph_language_spell rfl (c:=nq) rfl,nq]
 have hlen:(ur l.vowels x s).length≤9223372036854775807:=by have:=Qq l.vowels x s ht;omega
 obtain ⟨a',h1⟩:=spw M hN hS hX hB hx0 h0 ht hfr hri hs (l:=l) (H:=H++[.cells l.row aK,.cells x.row cW]) (H0:=H) (p:=H.length) (q:=H.length+1) (T:=aK) (T2:=cW) (by rw [cu];rfl) (by rw [hp_getk];rfl) (s.length+1) 0 [] .nilp (.inl rfl) (by omega) (by omega) (by simp)
 have h2:=M9 M hB (H++[.cells l.row aK,.cells x.row cW]) [] (a:=a') (T:=bt) hlen
 have h3:=RT M hB (H++[.cells l.row aK,.cells x.row cW]) [] (w:=ur l.vowels x s) (a:=a') (T:=bt)
 rw [← ur] at h1
 simp only [kv_cons,kv_nil,Int.ofNat_zero,lo_app3,Lw,lo_app0,lo_len,lo_len1,lo_len0,Nat.zero_add,Nat.reduceAdd,Nat.add_assoc,(show bTok [] = .tok 0 dN from rfl),(show ∀ a n T,ky a n [] T = .cells [a,.slice (.own n) 1 []] T from fun _ _ _=>rfl)] at h1 h2 h3
 simp (maxSteps:=3000000) (maxDischargeDepth:=6) +contextual -implicitDefEqProofs only [amA M,amB,↓ae,↓aa,↓aj,↓ah,Nat.reduceBEq,Nat.reduceAdd,env,am,eG,amG,AV.cell,Nat.reduceMul,Nat.reduceLeDiff,qU,Nat.add_assoc,h1,h2,h3,wk_tuple]
end
section
attribute [local congr] aS eb bQ aT bv bb aU aC aD bc be
variable{E:bP}(M:dO d8 E)
structure Eb (E:bP):Prop where
 truchmanref02_matches:E.fn jD=some dI
 truchmanref02_applies:E.fn lW=some ct
 truchmanref02_rewrite:E.fn lV=some dH
theorem rma{H H0:List ag}{l:Lex}{n0:Nat}(hl:l.ok n0){pc:UInt8}{s:Str}{j:Nat}(hj:j<s.length){p:Nat}{T:TypeId}(hp:H[p]?=some (.cells l.row T))(k:List Fra):∀ (n i:Nat) (b:Bool) (He:List ag),i+n=(l.vowels).length →
  M.go dI H0 (.c fX :: .lp ⟨(some [1,2,3,4,9,10]),[],false⟩ fX He :: .blk 0 :: .c (.lv [1,2,3,9])::k) (kv [(1,.int .u8 pc.toNat),(2,.str s),(3,.int .i64 j),(4,.ptr p 0),(9,.bool b),(10,.int .i64 i)]) H =
   (M.go dI H0 k (kv [(1,.int .u8 pc.toNat),(2,.str s),(3,.int .i64 j),(9,.bool (b||(l.vowels.drop i).any fun d=>d.toNat == s[j].toNat))]) H)
 |0,i,b,He,h=>by
  have e:i=(l.vowels).length:=by omega
  subst e
  rw [ao M fX.eq_1]
  simp (maxSteps:=3000000) (maxDischargeDepth:=6) +contextual -implicitDefEqProofs only [amA M,amB,↓ae,↓aa,↓aj,↓ah,Nat.reduceBEq,Nat.reduceAdd,env,am,is,Nat.lt_irrefl,List.drop_length,bp,hp,List.any_nil]
 |n+1,i,b,He,h=>by
  have hi:i<(l.vowels).length:=by omega
  have hx:(l.vowels)[i]?=some (l.vowels)[i]:=List.getElem?_eq_getElem hi
  have hd:((l.vowels).drop i)=(l.vowels)[i]::(l.vowels).drop (i+1):=List.drop_eq_getElem_cons hi
  have hm:(l.vowels)[i]∈(l.vowels):=List.getElem_mem hi
  have ih:=fun b He=>rma (H:=H) (H0:=H0) (l:=l) (n0:=n0) (hl:=hl) (pc:=pc) (s:=s) (j:=j) (hj:=hj) (p:=p) (T:=T) (hp:=hp) k n (i+1) b He (by omega)
  simp only [kv_cons,kv_nil] at ih
  have hxj:s[j]?=some s[j]:=List.getElem?_eq_getElem hj
  have hlv:=hl.vowels
  rw [ao M fX.eq_1]
  simp (maxSteps:=3000000) (maxDischargeDepth:=6) +contextual -implicitDefEqProofs only [amA M,amB,↓ae,↓aa,↓aj,↓ah,Nat.reduceBEq,Nat.reduceAdd,env,am,is,hx,hd,hi,ih,hxj,bp,hp,bq hi hlv,List.any_cons,Bool.or_assoc]
theorem Qs(c d:UInt8):(c.toNat == d.toNat)=(c == d):=by
 rw [Bool.eq_iff_iff];simp [UInt8.toNat_inj]
theorem RW{v:Str}(hv:v.all jb=true)(p:UInt8)(s:Str)(c:UInt8):sel ((p.toNat:Int) == 67) (jb c && !isV v c) (sel ((p.toNat:Int) == 86) (jb c&&isV v c) (p.toNat == c.toNat))=sel ((p.toNat:Int) == 86) (isV v c) (sel ((p.toNat:Int) == 67) (jb c && !isV v c) (p.toNat == c.toNat)):=by
 have h:isV v c=true→jb c=true:=fun h=>by
  obtain ⟨d,hd,he⟩:=List.any_eq_true.1 h
  rw [← eq_of_beq he]
  exact List.all_eq_true.1 hv d hd
 by_cases h1:(p.toNat:Int)=67
 ·have h2:((p.toNat:Int) == 86)=false:=by rw [h1];rfl
  have h3:((p.toNat:Int) == 67)=true:=by simpa using h1
  rw [h2,h3];rfl
 ·have h3:((p.toNat:Int) == 67)=false:=by simpa using h1
  rw [h3]
  cases hV:isV v c with
  |true=>rw [h hV];rfl
  |false=>cases ((p.toNat:Int) == 86)<;>simp [sel]
theorem Fv(hN:bz E)(hR:Eb E){l:Lex}{n0:Nat}(hl:l.ok n0)(hv:l.vowels.all jb=true)(p:UInt8)(s:Str)(at_:Int)(H:List ag) :
  M.run jD [.agg l.row,.int .u8 p.toNat,.str s,.int .i64 at_] H=some (.ret (.bool (sR l.vowels p s at_)),H):=by
 rw [aM M hR.truchmanref02_matches rfl (c:=mh) rfl,mh]
 by_cases h:at_<0
 ·have e:I8 s at_=none:=if_pos h
  have hd:decide (at_<0)=true:=decide_eq_true h
  simp (maxSteps:=3000000) (maxDischargeDepth:=6) +contextual -implicitDefEqProofs only [amA M,amB,↓ae,↓aa,↓aj,↓ah,Nat.reduceBEq,Nat.reduceAdd,env,am,is,hd,sR,e,cut_app]
 ·obtain ⟨j,rfl⟩:∃ j:Nat,at_=(j:Int):=⟨at_.toNat,by omega⟩
  have e:I8 s (j:Int)=s[j]? := by simp [I8,h]
  by_cases hj:j<s.length
  ·have hx:s[j]?=some s[j]:=List.getElem?_eq_getElem hj
   have hd:decide (s.length≤j)=false:=decide_eq_false (by omega)
   have h1:=fun b k He=>rma M (H:=H++[.cells l.row aq]) (H0:=H) hl (pc:=p) (s:=s) (j:=j) hj (p:=H.length) (T:=aq) (by rw [cu];rfl) k l.vowels.length 0 b He (by omega)
   simp only [kv_cons,kv_nil,Int.ofNat_zero,List.drop_zero,Qs] at h1
   have e2:=RW hv p s s[j]
   simp (maxSteps:=3000000) (maxDischargeDepth:=6) +contextual -implicitDefEqProofs only [amA M,amB,↓ae,↓aa,↓aj,↓ah,Nat.reduceBEq,Nat.reduceAdd,env,am,is,Hr,hd,hx,sR,e,h1,cut_app,D4 M hN.Letter,isV]
   exact congrArg (fun b=>some (uW.ret (AV.bool b),H)) e2.symm
  ·have hx:s[j]?=none:=List.getElem?_eq_none (by omega)
   have hd:decide (s.length≤j)=true:=decide_eq_true (by omega)
   simp (maxSteps:=3000000) (maxDischargeDepth:=6) +contextual -implicitDefEqProofs only [amA M,amB,↓ae,↓aa,↓aj,↓ah,Nat.reduceBEq,Nat.reduceAdd,env,am,is,Hr,hd,hx,sR,e,cut_app]
theorem UF{H H0:List ag}(hN:bz E)(hR:Eb E){l:Lex}{n0:Nat}(hl:l.ok n0)(hv:l.vowels.all jb=true){x:br}(hx0:x.ok n0){s:Str}{a:Nat}(ha:a≤aZ){L:Str}(hLl:L.length=x.left.length)(hL:∀ k,k<L.length→x.left[x.left.length-1-k]?=L[k]?){p q:Nat}{T T2:TypeId}(hp:H[p]?=some (.cells l.row T))(hqq:H[q]?=some (.cells x.row T2))(hc:bO H0 H)(k:List Fra):∀ (n i:Nat) (He:List ag),i+n=L.length →
  M.go ct H0 (.c fV :: .lp ⟨(some [2,3,4,5,9]),[],false⟩ fV He :: .blk 0 :: .c (.lv [2,3,4,5])::k) (kv [(2,.str s),(3,.int .i64 a),(4,.ptr p 0),(5,.ptr q 0),(9,.int .i64 i)]) H =
   orE (bI (JP fun k c=>sR l.vowels c s ((a:Int)-1-(k:Int))) i (L.drop i)) (H.take H0.length) (M.go ct H0 k (kv [(2,.str s),(3,.int .i64 a),(4,.ptr p 0),(5,.ptr q 0)]) H)
 |0,i,He,h=>by
  have e:i=L.length:=by omega
  subst e
  rw [ao M fV.eq_1]
  simp (maxSteps:=3000000) (maxDischargeDepth:=6) +contextual -implicitDefEqProofs only [amA M,amB,↓ae,↓aa,↓aj,↓ah,Nat.reduceBEq,Nat.reduceAdd,env,am,fi,Nat.lt_irrefl,List.drop_length,lq,hqq,(show decide (L.length<x.left.length)=false from decide_eq_false (by omega))]
 |n+1,i,He,h=>by
  have hi:i<L.length:=by omega
  have hx:L[i]?=some L[i]:=List.getElem?_eq_getElem hi
  have hd:(L.drop i)=L[i]::L.drop (i+1):=List.drop_eq_getElem_cons hi
  have hm:L[i]∈L:=List.getElem_mem hi
  have ih:=fun He=>UF (H:=H) (H0:=H0) (hN:=hN) (hR:=hR) (l:=l) (n0:=n0) (hl:=hl) (hv:=hv) (x:=x) (hx0:=hx0) (s:=s) (a:=a) (ha:=ha) (L:=L) (hLl:=hLl) (hL:=hL) (p:=p) (q:=q) (T:=T) (T2:=T2) (hp:=hp) (hqq:=hqq) hc k n (i+1)  He (by omega)
  simp only [kv_cons,kv_nil] at ih
  have hq:=(hL i hi).trans hx
  have hqs:=hx0.left
  have hil:decide (i<x.left.length)=true:=decide_eq_true (by omega)
  have e1:IntKind.i64.wrap ((x.left.length:Int)-1)=((x.left.length-1:Nat):Int):=O7 (by omega) hqs
  have e2:IntKind.i64.wrap (((x.left.length-1:Nat):Int)-(i:Int))=((x.left.length-1-i:Nat):Int):=by
   simp only [aZ] at hqs;rw [dt (by omega) (by omega)];omega
  have e3:IntKind.i64.wrap ((a:Int)-1)=(a:Int)-1:=by simp only [aZ] at ha;exact dt (by omega) (by omega)
  have e4:IntKind.i64.wrap ((a:Int)-1-(i:Int))=(a:Int)-1-(i:Int):=by simp only [aZ] at ha hqs;exact dt (by omega) (by omega)
  rw [ao M fV.eq_1]
  simp (maxSteps:=3000000) (maxDischargeDepth:=6) +contextual -implicitDefEqProofs only [amA M,amB,↓ae,↓aa,↓aj,↓ah,Nat.reduceBEq,Nat.reduceAdd,env,am,fi,hx,hd,hi,ih,hq,hil,e1,e2,e3,e4,hp,hqq,bp,lq,Fv M hN hR hl hv,bq hi (show L.length≤aZ by omega),JP,hc]
theorem UG{H H0:List ag}(hN:bz E)(hR:Eb E){l:Lex}{n0:Nat}(hl:l.ok n0)(hv:l.vowels.all jb=true){x:br}{s:Str}{a:Nat}(ha:a+x.frm.length+x.right.length≤aZ){p q:Nat}{T T2:TypeId}(hp:H[p]?=some (.cells l.row T))(hqq:H[q]?=some (.cells x.row T2))(hc:bO H0 H)(k:List Fra):∀ (n i:Nat) (He:List ag),i+n=(x.right).length →
  M.go ct H0 (.c fW :: .lp ⟨(some [2,3,4,5,10]),[],false⟩ fW He :: .blk 2 :: .c (.lv [])::k) (kv [(2,.str s),(3,.int .i64 a),(4,.ptr p 0),(5,.ptr q 0),(10,.int .i64 i)]) H =
   orE (bI (JP fun k c=>sR l.vowels c s ((a+x.frm.length+k:Nat):Int)) i (x.right.drop i)) (H.take H0.length) (M.go ct H0 k .leaf H)
 |0,i,He,h=>by
  have e:i=(x.right).length:=by omega
  subst e
  rw [ao M fW.eq_1]
  simp (maxSteps:=3000000) (maxDischargeDepth:=6) +contextual -implicitDefEqProofs only [amA M,amB,↓ae,↓aa,↓aj,↓ah,Nat.reduceBEq,Nat.reduceAdd,env,am,fi,Nat.lt_irrefl,List.drop_length,lq,hqq]
 |n+1,i,He,h=>by
  have hi:i<(x.right).length:=by omega
  have hx:(x.right)[i]?=some (x.right)[i]:=List.getElem?_eq_getElem hi
  have hd:((x.right).drop i)=(x.right)[i]::(x.right).drop (i+1):=List.drop_eq_getElem_cons hi
  have hm:(x.right)[i]∈(x.right):=List.getElem_mem hi
  have ih:=fun He=>UG (H:=H) (H0:=H0) (hN:=hN) (hR:=hR) (l:=l) (n0:=n0) (hl:=hl) (hv:=hv) (x:=x) (s:=s) (a:=a) (ha:=ha) (p:=p) (q:=q) (T:=T) (T2:=T2) (hp:=hp) (hqq:=hqq) hc k n (i+1)  He (by omega)
  simp only [kv_cons,kv_nil] at ih
  have e1:IntKind.i64.wrap ((a:Int)+(x.frm.length:Int))=((a+x.frm.length:Nat):Int):=by simp only [aZ] at ha;rw [dt (by omega) (by omega)];omega
  have e2:IntKind.i64.wrap (((a+x.frm.length:Nat):Int)+(i:Int))=((a+x.frm.length+i:Nat):Int):=by simp only [aZ] at ha;rw [dt (by omega) (by omega)];omega
  rw [ao M fW.eq_1]
  simp (maxSteps:=3000000) (maxDischargeDepth:=6) +contextual -implicitDefEqProofs only [amA M,amB,↓ae,↓aa,↓aj,↓ah,Nat.reduceBEq,Nat.reduceAdd,env,am,fi,hx,hd,hi,ih,e1,e2,hp,hqq,bp,lq,Fv M hN hR hl hv,bq hi (show x.right.length≤aZ by omega),JP,hc]
theorem T4{s f:Str}{i:Nat}(h:i≤s.length):AA (s.drop i) f=(!decide (s.length<i+f.length)&&((s.drop i).take f.length == f)):=by
 unfold AA
 congr 1
 rw [List.length_drop,Bool.eq_iff_iff];simp;omega
theorem LJ(hN:bz E)(hR:Eb E){l:Lex}{n0:Nat}(hl:l.ok n0)(hv:l.vowels.all jb=true){x:br}(hx0:x.ok n0){s:Str}{a:Nat}(hs:a≤s.length)(ha:s.length+x.frm.length+x.right.length≤aZ)(H:List ag) :
  M.run lW [.agg l.row,.agg x.row,.str s,.int .i64 a] H=some (.ret (.bool (Ol l.vowels x s a)),H):=by
 rw [aM M hR.truchmanref02_applies rfl (c:=mg) rfl,mg]
 have h0:=fun k He=>UF M hN hR hl hv hx0 (H:=H++[.cells l.row aq,.cells x.row cW]) (H0:=H) (s:=s) (a:=a) (by omega) (L:=x.left.reverse) (by simp) (Pn x.left) (p:=H.length) (q:=H.length+1) (T:=aq) (T2:=cW) (by rw [cu];rfl) (by rw [hp_getk];rfl) (cut_app H _) k x.left.reverse.length 0 He (by omega)
 have h1:=fun k He=>UG M hN hR hl hv (x:=x) (H:=H++[.cells l.row aq,.cells x.row cW]) (H0:=H) (s:=s) (a:=a) (by omega) (p:=H.length) (q:=H.length+1) (T:=aq) (T2:=cW) (by rw [cu];rfl) (by rw [hp_getk];rfl) (cut_app H _) k x.right.length 0 He (by omega)
 simp only [kv_cons,kv_nil,Int.ofNat_zero,List.drop_zero,AB,List.length_reverse,hp_take] at h0 h1
 have e1:IntKind.i64.wrap ((a:Int)+(x.frm.length:Int))=((a+x.frm.length:Nat):Int):=by simp only [aZ] at ha;rw [dt (by omega) (by omega)];omega
 rw [Ol,T4 hs]
 by_cases hc:s.length<a+x.frm.length
 ·have hd:decide (s.length<a+x.frm.length)=true:=decide_eq_true hc
  simp (maxSteps:=3000000) (maxDischargeDepth:=6) +contextual -implicitDefEqProofs only [amA M,amB,↓ae,↓aa,↓aj,↓ah,Nat.reduceBEq,Nat.reduceAdd,env,am,fi,e1,hd,lq,cut_app]
 ·have hd:decide (s.length<a+x.frm.length)=false:=decide_eq_false hc
  have e2:=Fu (s:=s) (k:=.i64) (k':=.i64) (i:=a) (j:=a+x.frm.length) (by omega) (by omega)
  rw [Nat.add_sub_cancel_left] at e2
  simp (maxSteps:=3000000) (maxDischargeDepth:=6) +contextual -implicitDefEqProofs only [amA M,amB,↓ae,↓aa,↓aj,↓ah,Nat.reduceBEq,Nat.reduceAdd,env,am,fi,e1,e2,hd,lq,h0,h1,cut_app,KK,I9]
end
section
attribute [local congr] aS eb bQ aT bv bb aU aC aD bc be
variable{E:bP}(M:dO d8 E)
theorem gH{s t:Str}(h:s.length+t.length<9223372036854775808):rR .add s t=some (.str (s++t)):=TP h
theorem rrw(hN:bz E)(hR:Eb E){l:Lex}{n0:Nat}(hl:l.ok n0)(hv:l.vowels.all jb=true){x:br}(hx0:x.ok n0)(h0:x.frm≠[])(ht:x.to.length≤6)(hfr:x.frm.length≤6)(hri:x.right.length≤6){s:Str}(hs:s.length≤1000000)
  {H H0:List ag}{p q:Nat}{T T2:TypeId} (hp:H[p]?=some (.cells l.row T)) (hq:H[q]?=some (.cells x.row T2)) (k:List Fra):∀ (n i:Nat) (w:Str) (He:List ag),s.length<i+n→i≤s.length+6→w.length≤6*i →
  M.go dH H0 (.c dQ :: .lp ⟨(some [2,3,4,8,9]),[],false⟩ dQ He :: .blk 0 :: .c (.lv [8])::k) (kv [(2,.str s),(3,.ptr p 0),(4,.ptr q 0),(8,.str w),(9,.int .i64 i)]) H=M.go dH H0 k (kv [(8,.str (Cn l.vowels x s n i w))]) H
 |0,i,w,He,hn,hi,hw=>by
  have e:¬ i<s.length:=by omega
  rw [Cn]
  rw [ao M dQ.eq_1]
  simp (maxSteps:=3000000) (maxDischargeDepth:=6) +contextual -implicitDefEqProofs only [amA M,amB,↓ae,↓aa,↓aj,↓ah,Nat.reduceBEq,Nat.reduceAdd,env,am,iq,e]
 |n+1,i,w,He,hn,hi,hw=>by
  by_cases h:i<s.length
  ·have hx:s[i]?=some s[i]:=List.getElem?_eq_getElem h
   have hf:0<x.frm.length:=by cases hxf:x.frm with
    |nil=>exact absurd hxf h0
    |cons a b=>simp
   have e1:IntKind.i64.wrap ((i:Int)+(x.frm.length:Int))=((i+x.frm.length:Nat):Int):=by rw [dt (by omega) (by omega)];omega
   have a1:=fun H=>LJ M hN hR hl hv hx0 (s:=s) (a:=i) (by omega) (by simp only [aZ];omega) H
   cases hA:Ol l.vowels x s i with
   |true=>
    have ih:=fun He=>rrw (H0:=H0) hN hR hl hv hx0 h0 ht hfr hri hs hp hq k n (i+x.frm.length) (w++x.to) He (by omega) (by omega) (by simp;omega)
    simp only [kv_cons,kv_nil] at ih
    rw [Cn,hx,hA]
    rw [hA] at a1
    rw [ao M dQ.eq_1]
    simp (maxSteps:=3000000) (maxDischargeDepth:=6) +contextual -implicitDefEqProofs only [amA M,amB,↓ae,↓aa,↓aj,↓ah,Nat.reduceBEq,Nat.reduceAdd,env,am,iq,h,hx,ih,hp,hq,bp,lq,a1,e1,gH (s:=w) (t:=x.to) (by omega)]
   |false=>
    have ih:=fun He=>rrw (H0:=H0) hN hR hl hv hx0 h0 ht hfr hri hs hp hq k n (i+1) (w++[s[i]]) He (by omega) (by omega) (by simp;omega)
    simp only [kv_cons,kv_nil] at ih
    rw [Cn,hx,hA]
    rw [hA] at a1
    have e2:=Fu (s:=s) (k:=.i64) (k':=.i64) (i:=i) (j:=i+1) (by omega) (by omega)
    rw [Nat.add_sub_cancel_left,List.drop_eq_getElem_cons h] at e2
    simp only [List.take_succ_cons,List.take_zero] at e2
    rw [ao M dQ.eq_1]
    simp (maxSteps:=3000000) (maxDischargeDepth:=6) +contextual -implicitDefEqProofs only [amA M,amB,↓ae,↓aa,↓aj,↓ah,Nat.reduceBEq,Nat.reduceAdd,env,am,iq,h,hx,ih,hp,hq,bp,lq,a1,e2,bq h (show s.length≤aZ by simp only [aZ];omega),gH (s:=w) (t:=[s[i]]) (by simp;omega)]
  ·have hx:s[i]?=none:=List.getElem?_eq_none (by omega)
   rw [Cn,hx]
   rw [ao M dQ.eq_1]
   simp (maxSteps:=3000000) (maxDischargeDepth:=6) +contextual -implicitDefEqProofs only [amA M,amB,↓ae,↓aa,↓aj,↓ah,Nat.reduceBEq,Nat.reduceAdd,env,am,iq,h]
theorem LL(hN:bz E)(hR:Eb E){l:Lex}{n0:Nat}(hl:l.ok n0)(hv:l.vowels.all jb=true){x:br}(hx0:x.ok n0)(h0:x.frm≠[])(ht:x.to.length≤6)(hfr:x.frm.length≤6)(hri:x.right.length≤6){s:Str}(hs:s.length≤1000000)(H:List ag) :
  M.run lV [.agg l.row,.agg x.row,.str s] H=some (.ret (.tuple [.str (ur l.vowels x s),.bool (decide (((ur l.vowels x s).length:Int)≤512))]),H):=by
 rw [aM M hR.truchmanref02_rewrite rfl (c:=md) rfl,md]
 have h1:=fun k He=>rrw M hN hR hl hv hx0 h0 ht hfr hri hs (H:=H++[.cells l.row aq,.cells x.row cW]) (H0:=H) (p:=H.length) (q:=H.length+1) (T:=aq) (T2:=cW) (by rw [cu];rfl) (by rw [hp_getk];rfl) k (s.length+1) 0 [] He (by omega) (by omega) (by simp)
 rw [← ur] at h1
 simp only [kv_cons,kv_nil,Int.ofNat_zero] at h1
 simp (maxSteps:=3000000) (maxDischargeDepth:=6) +contextual -implicitDefEqProofs only [amA M,amB,↓ae,↓aa,↓aj,↓ah,Nat.reduceBEq,Nat.reduceAdd,env,am,iq,h1,cut_app,wk_tuple]
structure Na (l:Lex):Prop where
 vowels:l.vowels.all jb=true
 spells:∀ x∈l.spells.l,tC x=0
 short:Pj l
theorem Nb{l:Lex}(h:iU l=0):Na l:=by
 unfold iU at h
 simp only [Tq,Tr] at h
 rw [Pk,HH] at h
 cases hv:l.vowels.all jb with
 |false=>rw [hv] at h;simp [sel] at h
 |true=>
  rw [hv] at h
  cases hi:N9 l.vowels with
  |false=>rw [hi] at h;simp [sel] at h
  |true=>
   rw [hi] at h
   simp only [sel,beq_self_eq_true,Bool.not_true] at h
   cases h1:yc l == 0 with
   |false=>rw [h1] at h;simp only [Bool.not_false] at h;rw [h] at h1;simp at h1
   |true=>
    rw [h1] at h;simp only [Bool.not_true] at h
    cases h2:tD l == 0 with
    |false=>rw [h2] at h;simp only [Bool.not_false] at h;rw [h] at h2;simp at h2
    |true=>
     rw [h2] at h;simp only [Bool.not_true] at h
     cases h3:wq l == 0 with
     |false=>rw [h3] at h;simp only [Bool.not_false] at h;rw [h] at h3;simp at h3
     |true=>
      rw [h3] at h;simp only [Bool.not_true] at h
      cases h4:yd l == 0 with
      |false=>rw [h4] at h;simp only [Bool.not_false] at h;rw [h] at h4;simp at h4
      |true=>
       refine ⟨hv,fun x hx => ?_,MZ (eq_of_beq h2)⟩
       obtain ⟨k,hk⟩:=List.getElem?_of_mem hx
       exact (pR (eq_of_beq h4)).2 k x hk
theorem Nc{x:br}(h:tC x=0):x.frm≠[]∧x.to.length≤6∧x.frm.length≤6∧x.right.length≤6∧x.left.length≤6:=by
 rw [M3] at h
 cases c1:(x.frm == []||(!ofF [43] x.frm||(!ofF [43] x.to||(!ofF [43,35,86,67] x.left || !ofF [43,35,86,67] x.right)))) with
 |true=>rw [c1] at h;simp [sel] at h
 |false=>
  rw [c1] at h
  cases c2:(decide ((6:Int)<(x.frm.length:Int))||(decide ((6:Int)<(x.to.length:Int))||(decide ((6:Int)<(x.left.length:Int))||decide ((6:Int)<(x.right.length:Int))))) with
  |true=>rw [c2] at h;simp [sel] at h
  |false=>
   simp at c1 c2
   exact ⟨c1.1,by omega,by omega,by omega,by omega⟩
theorem di{α:Type}{row:α→List AV}{l:List α}{tag:Tag}{sz:Nat}{k:IntKind}{r:Int}(h0:0≤r)(h:r.toNat<l.length):yM sz (.slice tag sz (l.map row)) (.int k r)=some (.vptr sz (l.map row) r.toNat 0):=by
 have:=az (row:=row) (tag:=tag) (sz:=sz) (k:=k) h
 rwa [Int.toNat_of_nonneg h0] at this
end
section
attribute [local congr] aS eb bQ aT bv bb aU aC aD bc be
variable{E:bP}(M:dO d8 E)
structure wt (E:bP):Prop where
 slices_Grow_api_Feat_api_Feat:E.fn fj=some c8
 slices_Concat_api_Feat_api_Feat:E.fn eN=some cJ
 slices_Compact_api_Feat_api_Feat:E.fn eC=some aL
 morph_union:E.fn xP=some n8
 slices_Index_api_Feat_api_Feat:E.fn iB=some bF
 slices_Contains_api_Feat_api_Feat:E.fn gj=some cq
 morph_Subsumes_1:E.fn mT=some ja
 morph_Subsumes:E.fn pM=some km
 truchmanref02_Subsumes:E.fn jf=some b8
def b5(l:List au):List AV:=(l.map au.row).flatten
def nF(n:Nat):List AV:=(List.replicate n [AV.str [],AV.str []]).flatten
theorem pS(l:List au):(b5 l).length=l.length*2:=by
 unfold b5
 induction l with
 |nil=>rfl
 |cons x l ih=>simp only [List.map_cons,List.flatten_cons,List.length_append,ih,List.length_cons];simp [au.row];omega
theorem CF(a b:List au):b5 (a++b)=b5 a++b5 b:=by simp [b5]
theorem Om(n:Nat):(nF n).length=n*2:=by
 unfold nF;rw [List.length_flatten];simp
theorem GU(n:Nat):nF n=b5 (List.replicate n ⟨[],[]⟩):=by simp [nF,b5,au.row]
theorem Qt(hU:wt E)(H:List ag):M.run fj [.slice .nil 2 [],.int .i64 0] H=some (.ret (.slice .nil 2 []),H):=by
 rw [aM M hU.slices_Grow_api_Feat_api_Feat rfl (c:=ea) rfl,ea]
 have w0:IntKind.i64.wrap 0=0:=by decide
 simp (maxSteps:=3000000) (maxDischargeDepth:=6) +contextual -implicitDefEqProofs only [amA M,amB,↓ae,↓aa,↓aj,↓ah,Nat.reduceBEq,Nat.reduceAdd,env,am,lJ,Me,List.length_nil,Int.ofNat_zero,Int.sub_self,w0,(show decide ((0:Int)<0)=false from rfl)]
theorem RY(hU:wt E){n:Nat}(h0:0<n)(hn:n≤4000000000)(H:List ag) :
  M.run fj [.slice .nil 2 [],.int .i64 n] H=some (.ret (.rslice H.length 0 0 2 true),H++[.cells (nF n) aQ]):=by
 rw [aM M hU.slices_Grow_api_Feat_api_Feat rfl (c:=ea) rfl,ea]
 have w0:IntKind.i64.wrap 0=0:=by decide
 have w1:IntKind.i64.wrap ((n:Int)-0)=(n:Int):=by rw [dt (by omega) (by omega)];omega
 have h1:decide ((n:Int)<0)=false:=decide_eq_false (by omega)
 have h2:decide ((n:Int) > 0)=true:=decide_eq_true (by omega)
 have e1:CM 2 (.slice .nil 2 []) none (some (.int .i64 0)) none=some (.slice .nil 2 []):=rfl
 have e2:NC H aQ 2 32 [.str [],.str []] (.slice .nil 2 []) (.int .i64 n)=some (.rslice H.length 0 n 2 true,H++[.cells (nF n) aQ]):=by
  have a1:¬ (n:Int)=0:=by omega
  have a2:(0:Int)<n∧(n:Int).toNat*32≤140737488355328∧(n:Int)≤4611686018427387904:=by refine ⟨by omega, ?_,by omega⟩;simp;omega
  unfold NC;dsimp only;rw [if_neg a1,if_pos a2];rfl
 have e3:CM 2 (.rslice H.length 0 n 2 true) none (some (.int .i64 0)) none=some (.rslice H.length 0 0 2 true):=by simp [CM,fD]
 simp (maxSteps:=3000000) (maxDischargeDepth:=6) +contextual -implicitDefEqProofs only [amA M,amB,↓ae,↓aa,↓aj,↓ah,Nat.reduceBEq,Nat.reduceAdd,env,am,lJ,amZ,Me,List.length_nil,Int.ofNat_zero,Int.sub_self,w0,w1,h1,h2,e1,e2,e3]
theorem Qu{H:List ag}{n:Nat}{t:Tag}{a:List au}(h:a.length≤4000000000) :
  rap true (H++[.cells (nF n) aQ]) aQ 2 32 false (.rslice H.length 0 0 2 true) (.slice t 2 (a.map au.row))=some (.rslice (H.length+1) 0 a.length 2 true,H++[.dead,.cells (b5 a) aQ]):=by
 have hr:qY 2 (a.map au.row)=true:=by simp [qY,au.row,AV.cell]
 simp only [rap,EL,DH,or_true,if_true,hr,cu,List.length_map,Nat.zero_add,Nat.zero_mul,Nat.zero_le,true_and,List.take_zero,List.nil_append,hp_set0,List.length_append,List.length_cons,List.length_nil,List.getElem?_cons_zero,List.set_cons_zero]
 rw [if_pos ⟨by omega,by omega⟩]
 simp [b5]
theorem RZ{H:List ag}{a b:List au}{t:Tag}(h:a.length+b.length≤4000000000) :
  rap true (H++[.dead,.cells (b5 a) aQ]) aQ 2 32 false (.rslice (H.length+1) 0 a.length 2 true) (.slice t 2 (b.map au.row))=some (.rslice (H.length+2) 0 (a++b).length 2 true,H++[.dead,.dead,.cells (b5 (a++b)) aQ]):=by
 have hr:qY 2 (b.map au.row)=true:=by simp [qY,au.row,AV.cell]
 have hg:(H++[ag.dead,.cells (b5 a) aQ])[H.length+1]?=some (.cells (b5 a) aQ):=by rw [hp_getk];rfl
 have hs:(H++[ag.dead,.cells (b5 a) aQ]).set (H.length+1) .dead=H++[.dead,.dead]:=by
  rw [List.set_append_right _ _ (by omega)];simp
 simp only [rap,EL,DH,or_true,if_true,hr,hg,hs,List.length_map,true_and,List.length_append,List.length_cons,List.length_nil]
 rw [if_pos ⟨by rw [pS];exact Nat.le_refl _,by omega,by omega⟩]
 have e:(b5 a).take (a.length*2)=b5 a:=List.take_of_length_le (by rw [pS];exact Nat.le_refl _)
 rw [e,CF]
 simp [b5]
theorem KL{H:List ag}{t:Tag}(ht:t = .nil∨t = .full){t2:Tag}:rap true H aQ 2 32 false (.slice t 2 []) (.slice t2 2 [])=some (.slice .full 2 [],H):=by
 rcases ht with rfl | rfl<;>rfl
theorem On(hU:wt E){a b:List au}{ta tb:Tag}(h0:0<a.length+b.length)(h:a.length+b.length≤4000000000)(H:List ag) :
  M.run eN [.slice .full 1 [[.slice ta 2 (a.map au.row)],[.slice tb 2 (b.map au.row)]]] H=some (.ret (.rslice (H.length+2) 0 (a++b).length 2 true),H++[.dead,.dead,.cells (b5 (a++b)) aQ]):=by
 rw [aM M hU.slices_Concat_api_Feat_api_Feat rfl (c:=dL) rfl,dL]
 have w1:IntKind.i64.wrap (0+(a.length:Int))=(a.length:Int):=by rw [dt (by omega) (by omega)];omega
 have w2:IntKind.i64.wrap ((a.length:Int)+(b.length:Int))=((a.length+b.length:Nat):Int):=by rw [dt (by omega) (by omega)];omega
 have w3:IntKind.i64.wrap (0+1)=1:=by decide
 have w4:IntKind.i64.wrap (1+1)=2:=by decide
 have d1:decide ((a.length:Int)<0)=false:=decide_eq_false (by omega)
 have d2:decide (((a.length+b.length:Nat):Int)<0)=false:=decide_eq_false (by omega)
 have i0:yM 1 (.slice .full 1 [[.slice ta 2 (a.map au.row)],[.slice tb 2 (b.map au.row)]]) (.int .i64 0)=some (.vptr 1 [[.slice ta 2 (a.map au.row)],[.slice tb 2 (b.map au.row)]] 0 0):=rfl
 have i1:yM 1 (.slice .full 1 [[.slice ta 2 (a.map au.row)],[.slice tb 2 (b.map au.row)]]) (.int .i64 1)=some (.vptr 1 [[.slice ta 2 (a.map au.row)],[.slice tb 2 (b.map au.row)]] 1 0):=rfl
 have n0:(([[.slice ta 2 (a.map au.row)],[.slice tb 2 (b.map au.row)]]:List (List AV)).length:Int)=2:=rfl
 have n1:decide ((0:Int)<2)=true:=rfl
 have n2:decide ((1:Int)<2)=true:=rfl
 have n3:decide ((2:Int)<2)=false:=rfl
 have g0:([[.slice ta 2 (a.map au.row)],[.slice tb 2 (b.map au.row)]]:List (List AV))[0]?=some [.slice ta 2 (a.map au.row)]:=rfl
 have g1:([[.slice ta 2 (a.map au.row)],[.slice tb 2 (b.map au.row)]]:List (List AV))[1]?=some [.slice tb 2 (b.map au.row)]:=rfl
 have l0:∀ x:AV,cX none [x] 0=some x:=fun _=>rfl
 simp (maxSteps:=3000000) (maxDischargeDepth:=6) +contextual -implicitDefEqProofs only [amA M,amB,↓ae,↓aa,↓aj,↓ah,Nat.reduceBEq,Nat.reduceAdd,env,am,kN,n0,n1,n2,n3,g0,g1,l0,ao M gz.eq_1,ao M gA.eq_1,w1,w2,w3,w4,d1,d2,i0,i1,RY M hU h0 h,Qu (show a.length≤4000000000 by omega),RZ h]
end
section
attribute [local congr] aS eb bQ aT bv bb aU aC aD bc be
variable{E:bP}(M:dO d8 E)
def ddF:au→List au→List au
 |_,[]=>[]
 |p,q::t=>if (q.name == p.name&&q.value == p.value)=true then ddF q t else q::ddF q t
def jkF:List au→au→List au→List au
 |mid,p,[]=>mid++[p]
 |mid,p,q::t=>if (q.name == p.name&&q.value == p.value)=true then jkF (mid++[p]) q t else jkF ((mid++[p]).tail) q t
def xG:List au→List au
 |[]=>[]
 |x::l=>x::ddF x l
theorem Oo:∀ (t mid:List au) (p:au),(jkF mid p t).length+(ddF p t).length=mid.length+1+t.length
 |[],mid,p=>by simp [jkF,ddF]
 |q::t,mid,p=>by
  rw [jkF,ddF]
  split
  ·rw [Oo t (mid++[p]) q];simp;omega
  ·rw [List.length_cons,← Nat.add_assoc,Oo t ((mid++[p]).tail) q];simp;omega
theorem CG(A B:List au)(q:au)(rest:List AV){n:Nat}(h:n=A.length*2):cX (some 2) (b5 (A++q::B)++rest) n=some (.agg q.row):=by
 subst h
 have hl:=pS A
 have e:b5 (A++q::B)++rest=b5 A++(q.row++(b5 B++rest)):=by rw [CF];simp [b5]
 have hq:q.row.length=2:=rfl
 simp only [cX]
 rw [e,if_pos (by simp only [List.length_append,hl,hq];omega),← hl,List.drop_left,List.take_left' hq]
theorem Ec:∀ (A x y rest:List AV),x.length=y.length→aP (A++(x++rest)) A.length y=A++(y++rest)
 |A,[],[],rest,_=>by simp [setRow_nil]
 |A,[],_::_,rest,h=>by cases h
 |A,_::_,[],rest,h=>by cases h
 |A,b::x,a::y,rest,h=>by
  rw [setRow_cons]
  have h2:(A++(b::x++rest)).set A.length a=(A++[a])++(x++rest):=by simp
  have:=Ec (A++[a]) x y rest (by simpa using h)
  rw [List.length_append,List.length_cons,List.length_nil,Nat.zero_add] at this
  rw [h2,this];simp
theorem Oq(A B:List au)(m q:au)(rest:List AV){n:Nat}(h:n=A.length*2):aP (b5 (A++m::B)++rest) n q.row=b5 (A++q::B)++rest:=by
 subst h
 have e:∀ m:au,b5 (A++m::B)++rest=b5 A++(m.row++(b5 B++rest)):=fun m=>by rw [CF];simp [b5]
 rw [e,e,← pS A,Ec (b5 A) m.row q.row (b5 B++rest) rfl]
theorem Jc{id off len n:Nat}{room:Bool}(h:n<len):yM 2 (.rslice id off len 2 room) (.int .i64 (n:Int))=some (.ptr id (off+n*2)):=by simp [yM,h]
theorem CH{g:Option Nat}{H:List ag}{id n:Nat}{cs:List AV}{T:TypeId}(h:H[id]?=some (.cells cs T)):pL g H (.ptr id n)=cX g cs n:=by simp [pL,h]
theorem Po{H:List ag}{id:Nat}(h:id<H.length)(o:ag):(H.set id o)[id]?=some o:=by simp [h]
theorem Fw(n:Nat)(L:List au)(rest:List AV)(hr:∀ c∈rest,Wk n c c)(T:TypeId):OX n (.cells (b5 L++rest) T):=fun c hc=>by
 rcases List.mem_append.1 hc with h | h
 ·unfold b5 at h
  obtain ⟨r,hr1,hr2⟩:=List.mem_flatten.1 h
  obtain ⟨f,_,rfl⟩:=List.mem_map.1 hr1
  simp only [au.row,List.mem_cons,List.not_mem_nil,or_false] at hr2
  rcases hr2 with rfl | rfl<;>exact wk_str _ _
 ·exact hr c h
theorem cpi(hU:wt E){H H0:List ag}{id:Nat}(hid:id<H.length){T:TypeId}{rest:List AV}(k:List Fra){n off:Nat}(hn:n≤4000000000) :
  ∀ (t out mid:List au) (p:au) (k2:Nat) (He:List ag),out.length+mid.length+1=off+k2→out.length+mid.length+1+t.length=n→1≤k2 →
  M.go aL H0 (.c cb :: .lp ⟨(some [0,3,4,5]),[],false⟩ cb He :: .blk 2 :: .c (.lv [0,3])::k) (kv [(0,.rslice id 0 n 2 true),(3,.int .i64 out.length),(4,.rslice id (off*2) (n-off) 2 true),(5,.int .i64 k2)]) (H.set id (.cells (b5 (out++(mid++p::t))++rest) T)) =
   M.go aL H0 k (kv [(0,.rslice id 0 n 2 true),(3,.int .i64 (out++ddF p t).length)]) (H.set id (.cells (b5 ((out++ddF p t)++jkF mid p t)++rest) T))
 |[],out,mid,p,k2,He,h1,h2,h3=>by
  have d:decide (k2<n-off)=false:=decide_eq_false (by simp at h2;omega)
  have e:b5 ((out++ddF p [])++jkF mid p [])=b5 (out++(mid++[p])):=by simp [ddF,jkF]
  rw [e,show out++ddF p []=out by simp [ddF]]
  rw [ao M cb.eq_1]
  simp (maxSteps:=3000000) (maxDischargeDepth:=6) +contextual -implicitDefEqProofs only [amA M,amB,↓ae,↓aa,↓aj,↓ah,Nat.reduceBEq,Nat.reduceAdd,env,am,a6,d,zS]
 |q::t,out,mid,p,k2,He,h1,h2,h3=>by
  simp only [List.length_cons] at h2
  have d:decide (k2<n-off)=true:=decide_eq_true (by omega)
  have b1:IntKind.i64.wrap ((k2:Int)-1)=((k2-1:Nat):Int):=by rw [dt (by omega) (by omega)];omega
  have b2:IntKind.i64.wrap ((k2:Int)+1)=((k2+1:Nat):Int):=by rw [dt (by omega) (by omega)];omega
  have b3:IntKind.i64.wrap ((out.length:Int)+1)=((out.length+1:Nat):Int):=by rw [dt (by omega) (by omega)];omega
  have i1:yM 2 (.rslice id (off*2) (n-off) 2 true) (.int .i64 (k2:Int))=some (.ptr id (off*2+k2*2)):=Jc (by omega)
  have i2:yM 2 (.rslice id (off*2) (n-off) 2 true) (.int .i64 ((k2-1:Nat):Int))=some (.ptr id (off*2+(k2-1)*2)):=Jc (by omega)
  have i3:yM 2 (.rslice id 0 n 2 true) (.int .i64 (out.length:Int))=some (.ptr id (0+out.length*2)):=Jc (by omega)
  have hg:∀ c,(H.set id c)[id]?=some c:=fun c=>Po hid c
  have l1:cX (some 2) (b5 (out++(mid++p::q::t))++rest) (off*2+k2*2)=some (.agg q.row):=by
   have:=CG (out++(mid++[p])) t q rest (n:=off*2+k2*2) (by simp;omega)
   simpa [List.append_assoc] using this
  have l2:cX (some 2) (b5 (out++(mid++p::q::t))++rest) (off*2+(k2-1)*2)=some (.agg p.row):=by
   have:=CG (out++mid) (q::t) p rest (n:=off*2+(k2-1)*2) (by simp;omega)
   simpa [List.append_assoc] using this
  cases hqp:(q.name == p.name&&q.value == p.value) with
  |true=>
   have ih:=fun He=>cpi hU (H:=H) (H0:=H0) hid (T:=T) (rest:=rest) k (off:=off) hn t out (mid++[p]) q (k2+1) He (by simp;omega) (by simp;omega) (by omega)
   simp only [kv_cons,kv_nil,List.append_assoc,List.cons_append,List.nil_append] at ih
   rw [ddF,if_pos hqp,jkF,if_pos hqp,List.append_assoc out (ddF q t)]
   rw [ao M cb.eq_1]
   simp (maxSteps:=3000000) (maxDischargeDepth:=6) +contextual -implicitDefEqProofs only [amA M,amB,↓ae,↓aa,↓aj,↓ah,Nat.reduceBEq,Nat.reduceAdd,env,am,a6,d,zS,b1,b2,i1,i2,hg,l1,l2,CH (hg _),um,hqp,ih]
  |false=>
   have hne:¬ ((q.name == p.name&&q.value == p.value)=true):=by rw [hqp];simp
   obtain ⟨m0,mid',hm⟩:∃ m0 mid',mid++[p]=m0::mid':=by cases mid with
    |nil=>exact ⟨p,[],rfl⟩
    |cons a b=>exact ⟨a,b++[p],rfl⟩
   have hml:mid'.length=mid.length:=by have:=congrArg List.length hm;simp at this;omega
   have ih:=fun He=>cpi hU (H:=H) (H0:=H0) hid (T:=T) (rest:=rest) k (off:=off) hn t (out++[q]) mid' q (k2+1) He (by simp;omega) (by simp;omega) (by omega)
   have hst:aP (b5 (out++(mid++p::q::t))++rest) (0+out.length*2) q.row=b5 ((out++[q])++(mid'++q::t))++rest:=by
    have e1:out++(mid++p::q::t)=out++m0::(mid'++q::t):=by
     have:mid++p::q::t=(mid++[p])++q::t:=by simp
     rw [this,hm];rfl
    rw [e1,Oq out (mid'++q::t) m0 q rest (by omega)];simp
   have hlen:0+out.length*2+2≤(b5 (out++(mid++p::q::t))++rest).length:=by
    rw [List.length_append,pS];simp;omega
   rw [ddF,if_neg hne,jkF,if_neg hne,hm,List.tail_cons]
   simp only [kv_cons,kv_nil,List.length_append,List.length_cons,List.length_nil,Nat.zero_add] at ih
   rw [show out++q::ddF q t=(out++[q])++ddF q t by simp,show ((out++[q])++ddF q t).length=out.length+1+(ddF q t).length by simp;omega]
   have hss:∀ a b,(H.set id a).set id b=H.set id b:=fun a b=>by rw [List.set_set]
   rw [ao M cb.eq_1]
   have hsto:stO 2 (H.set id (.cells (b5 (out++(mid++p::q::t))++rest) T)) id (0+out.length*2) q.row (some (.cells (b5 (out++(mid++p::q::t))++rest) T))=some (H.set id (.cells (b5 ((out++[q])++(mid'++q::t))++rest) T)):=by
    simp only [stO]
    rw [if_pos ⟨rfl,hlen,rfl⟩,hst,hss]
   simp (maxSteps:=3000000) (maxDischargeDepth:=6) +contextual -implicitDefEqProofs only [amA M,amB,↓ae,↓aa,↓aj,↓ah,Nat.reduceBEq,Nat.reduceAdd,env,am,a6,d,zS,b1,b2,b3,i1,i2,i3,hg,l1,l2,CH (hg _),um,hqp,hsto,(show ∀ H,Dm (some H)=some (jH,H) from fun _=>rfl),ih]
theorem S2{H0 H:List ag}(h:bO H0 H)(id:Nat){o:ag}(hw:OX H0.length o):bO H0 (H.set id o):=by
 refine ⟨by simpa using h.1,fun i x hi hx => ?_⟩
 rw [List.getElem?_set] at hx
 split at hx
 ·split at hx
  ·cases hx;exact .inr hw
  ·cases hx
 ·exact h.2 i x hi hx
def cpR(M:dO d8 E)(H0:List ag)(k:List Fra)(id:Nat)(T:TypeId)(rest:List AV)(H:List ag)(n:Nat):List au→au→List au→Option Out
 |_,_,[]=>M.go aL H0 k (kv [(0,.rslice id 0 n 2 true)]) H
 |out,p,q::t=>if (q.name == p.name&&q.value == p.value)=true then
   some (.ret (.rslice id 0 (out++p::ddF q t).length 2 true),(H.set id (.cells (b5 (out++p::ddF q t)++(nF (n-(out++p::ddF q t).length)++rest)) T)).take H0.length)
  else cpR M H0 k id T rest H n (out++[p]) q t
theorem cpo(hU:wt E){H H0:List ag}{id:Nat}(hid:id<H.length)(hi0:id<H0.length)(hc:bO H0 H){T:TypeId}{rest:List AV}(hr:∀ c∈rest,Wk H0.length c c)(k:List Fra){l:List au}(hn:l.length≤4000000000)(hx:H[id]?=some (.cells (b5 l++rest) T)) :
  ∀ (t out:List au) (p:au) (He:List ag),l=out++p::t →
  M.go aL H0 (.c ce :: .lp ⟨(some [0,3]),[],false⟩ ce He :: .blk 0 :: .c (.lv [0])::k) (kv [(0,.rslice id 0 l.length 2 true),(3,.int .i64 (out.length+1:Nat))]) H=cpR M H0 k id T rest H l.length out p t
 |[],out,p,He,hl=>by
  have d:decide (out.length+1<l.length)=false:=decide_eq_false (by rw [hl];simp)
  rw [cpR]
  rw [ao M ce.eq_1]
  simp (maxSteps:=3000000) (maxDischargeDepth:=6) +contextual -implicitDefEqProofs only [amA M,amB,↓ae,↓aa,↓aj,↓ah,Nat.reduceBEq,Nat.reduceAdd,env,am,a6,d,zS]
 |q::t,out,p,He,hl=>by
  have hll:l.length=out.length+1+(t.length+1):=by rw [hl];simp;omega
  have d:decide (out.length+1<l.length)=true:=decide_eq_true (by omega)
  have b1:IntKind.i64.wrap (((out.length+1:Nat):Int)-1)=((out.length:Nat):Int):=by rw [dt (by omega) (by omega)];omega
  have b2:IntKind.i64.wrap (((out.length+1:Nat):Int)+1)=((out.length+1+1:Nat):Int):=by rw [dt (by omega) (by omega)];omega
  have i1:yM 2 (.rslice id 0 l.length 2 true) (.int .i64 ((out.length+1:Nat):Int))=some (.ptr id (0+(out.length+1)*2)):=Jc (by omega)
  have i2:yM 2 (.rslice id 0 l.length 2 true) (.int .i64 ((out.length:Nat):Int))=some (.ptr id (0+out.length*2)):=Jc (by omega)
  have l1:cX (some 2) (b5 l++rest) (0+(out.length+1)*2)=some (.agg q.row):=by
   have:=CG (out++[p]) t q rest (n:=0+(out.length+1)*2) (by simp)
   rw [hl];simpa [List.append_assoc] using this
  have l2:cX (some 2) (b5 l++rest) (0+out.length*2)=some (.agg p.row):=by
   rw [hl];exact CG out (q::t) p rest (by omega)
  cases hqp:(q.name == p.name&&q.value == p.value) with
  |true=>
   rw [cpR,if_pos hqp]
   have hin:=fun k He=>cpi M hU (H:=H) (H0:=H0) hid (T:=T) (rest:=rest) k (n:=l.length) (off:=out.length+1) hn t (out++[p]) [] q 1 He (by simp) (by simp;omega) (by omega)
   have hl2:l=(out++[p])++([]++q::t):=by rw [hl];simp
   have hs:H.set id (.cells (b5 ((out++[p])++([]++q::t))++rest) T)=H:=by rw [← hl2];exact yF hx
   have ho:(out++[p]).length=out.length+1:=by simp
   simp only [hs,ho,(show ((1:Nat):Int)=1 from rfl)] at hin
   simp only [kv_cons,kv_nil] at hin
   generalize hK:(out++[p])++ddF q t=K at hin
   have hjk:=Oo t [] q
   have hKl:K.length+(jkF [] q t).length=l.length:=by rw [← hK,hll];simp;simp at hjk;omega
   have hjp:0<(jkF [] q t).length:=by
    have:(ddF q t).length≤t.length:=by
     have key:∀ (t:List au) (q:au),(ddF q t).length≤t.length:=fun t=>by
      induction t with
      |nil=>intro q;simp [ddF]
      |cons a t ih=>
       intro q;rw [ddF];have:=ih a;split<;>simp<;>omega
     exact key t q
    simp at hjk;omega
   have hKp:0<K.length:=by rw [← hK];simp;omega
   have s1:CM 2 (.rslice id 0 l.length 2 true) (some (.int .i64 ((out.length+1:Nat):Int))) none none=some (.rslice id ((out.length+1)*2) (l.length-(out.length+1)) 2 true):=by
    simp only [CM,fD]
    rw [if_pos (by omega),Int.toNat_natCast]
    simp only []
    rw [if_pos ⟨trivial,.inl (by omega),Nat.le_refl _⟩,Nat.zero_add]
   have s2:CM 2 (.rslice id 0 l.length 2 true) (some (.int .i64 (K.length:Int))) none none=some (.rslice id (K.length*2) (l.length-K.length) 2 true):=by
    simp only [CM,fD]
    rw [if_pos (by omega),Int.toNat_natCast]
    simp only []
    rw [if_pos ⟨trivial,.inl (by omega),Nat.le_refl _⟩,Nat.zero_add]
   have s3:CM 2 (.rslice id 0 l.length 2 true) none (some (.int .i64 (K.length:Int))) none=some (.rslice id 0 K.length 2 true):=by
    simp only [CM,fD]
    rw [if_pos (by omega),Int.toNat_natCast]
    simp only []
    rw [if_pos ⟨trivial,.inl (by omega),by omega⟩];simp
   have hcl:rcl (H.set id (.cells (b5 (K++jkF [] q t)++rest) T)) 2 [.str [],.str []] (.rslice id (K.length*2) (l.length-K.length) 2 true)=some (H.set id (.cells (b5 K++(nF (l.length-K.length)++rest)) T)):=by
    simp only [rcl,Po hid]
    rw [if_pos ⟨trivial,by rw [List.length_append,pS,List.length_append];omega⟩,List.set_set]
    have e:b5 (K++jkF [] q t)++rest=b5 K++(b5 (jkF [] q t)++rest):=by rw [CF];simp
    have:=Ec (b5 K) (b5 (jkF [] q t)) (nF (l.length-K.length)) rest (by rw [pS,Om];omega)
    rw [pS] at this
    rw [e]
    show some (H.set id (.cells (aP _ _ (nF (l.length-K.length))) T))=_
    rw [this]
   have hcut:bO H0 (H.set id (.cells (b5 K++(nF (l.length-K.length)++rest)) T)):=S2 hc id (Fw _ K _ (fun c hcm=>by
    rcases List.mem_append.1 hcm with h | h
    ·rw [GU] at h
     exact Fw _ _ [] (fun _ h=>by cases h) T c (by simpa using h)
    ·exact hr c h) T)
   have hfin:uS d8 .drop H0 (H.set id (.cells (b5 K++(nF (l.length-K.length)++rest)) T)) (.rslice id 0 K.length 2 true)=some (.rslice id 0 K.length 2 true,(H.set id (.cells (b5 K++(nF (l.length-K.length)++rest)) T)).take H0.length):=handV_drop hcut (wk_rslice hi0)
   have hK2:out++p::ddF q t=K:=by rw [← hK];simp
   rw [hK2]
   rw [ao M ce.eq_1]
   simp (maxSteps:=3000000) (maxDischargeDepth:=6) +contextual -implicitDefEqProofs only [amA M,amB,↓ae,↓aa,↓aj,↓ah,Nat.reduceBEq,Nat.reduceAdd,env,am,a6,amZ,d,zS,b1,i1,i2,hx,l1,l2,CH hx,um,hqp,s1,s2,s3,hin,hcl,hfin]
  |false=>
   have hne:¬ ((q.name == p.name&&q.value == p.value)=true):=by rw [hqp];simp
   rw [cpR,if_neg hne]
   have ih:=fun He=>cpo hU (H0:=H0) hid hi0 hc hr k hn hx t (out++[p]) q He (by rw [hl];simp)
   have ho:(out++[p]).length=out.length+1:=by simp
   simp only [kv_cons,kv_nil,ho] at ih
   rw [ao M ce.eq_1]
   simp (maxSteps:=3000000) (maxDischargeDepth:=6) +contextual -implicitDefEqProofs only [amA M,amB,↓ae,↓aa,↓aj,↓ah,Nat.reduceBEq,Nat.reduceAdd,env,am,a6,d,zS,b1,b2,i1,i2,hx,l1,l2,CH hx,um,hqp,ih]
end
def Ed(l:List au):Prop:=l.Pairwise fun x y=>Op.bytesLess x.name y.name=true
def Wek(l:List au):Prop:=l.Pairwise fun x y=>Op.bytesLess y.name x.name=false
theorem Co:∀ {l:List au},uQ l=true→Ed l
 |[],_=>.nil
 |x::l,h=>.cons (vk h) (Co (zD h))
theorem Jd{x y:au}(h:(x.name == y.name&&x.value == y.value)=true):x=y:=by
 simp only [Bool.and_eq_true,beq_iff_eq] at h
 cases x;cases y;simp only at h;rw [h.1,h.2]
theorem Ot(x:au):(x.name == x.name&&x.value == x.value)=true:=by simp
theorem Nd{l:List au}(h:Ed l){x y:au}(hx:x∈l)(hy:y∈l)(hn:x.name=y.name):x=y:=by
 induction l with
 |nil=>cases hx
 |cons a l ih=>
  rw [Ed,List.pairwise_cons] at h
  rcases List.mem_cons.1 hx with hx1 | hx1<;>rcases List.mem_cons.1 hy with hy1 | hy1
  ·rw [hx1,hy1]
  ·have:=h.1 y hy1;rw [← hx1,hn,Ch] at this;cases this
  ·have:=h.1 x hx1;rw [← hy1,hn,Ch] at this;cases this
  ·exact ih h.2 hx1 hy1
theorem Pp:∀ {l m:List au},Ed l→Ed m→(∀ x,x∈l↔x∈m)→l=m
 |[],[],_,_,_=>rfl
 |[],y::m,_,_,h=>by have:=(h y).2 (by simp);cases this
 |x::l,[],_,_,h=>by have:=(h x).1 (by simp);cases this
 |x::l,y::m,hl,hm,h=>by
  rw [Ed,List.pairwise_cons] at hl hm
  have hxy:x=y:=by
   rcases List.mem_cons.1 ((h x).1 (by simp)) with e | h1
   ·exact e
   ·rcases List.mem_cons.1 ((h y).2 (by simp)) with e | h2
    ·exact e.symm
    ·have a1:=hm.1 x h1
     have a2:=hl.1 y h2
     rw [RG a1] at a2;cases a2
  subst hxy
  congr 1
  refine Pp hl.2 hm.2 fun z=>⟨fun hz => ?_,fun hz => ?_⟩
  ·rcases List.mem_cons.1 ((h z).1 (by simp [hz])) with e | h1
   ·have:=hl.1 z hz;rw [e,Ch] at this;cases this
   ·exact h1
  ·rcases List.mem_cons.1 ((h z).2 (by simp [hz])) with e | h1
   ·have:=hm.1 z hz;rw [e,Ch] at this;cases this
   ·exact h1
theorem xH:∀ (n:Nat) (a b m:List au),a.length+b.length≤n→Ed a→Ed b→ga a b=some m→(∀ x,x∈m↔x∈a∨x∈b)∧Ed m
 |_,[],b,m,_,_,hb,h=>by
  have:ga [] b=some b:=by cases b<;>simp [ga]
  rw [this] at h;cases h
  exact ⟨fun x=>by simp,hb⟩
 |_,x::a,[],m,_,ha,_,h=>by
  have:ga (x::a) []=some (x::a):=by simp [ga]
  rw [this] at h;cases h
  exact ⟨fun x=>by simp,ha⟩
 |0,x::a,y::b,m,hl,_,_,_=>by simp at hl
 |n+1,x::a,y::b,m,hl,ha,hb,h=>by
  have ha':=ha;have hb':=hb
  rw [Ed,List.pairwise_cons] at ha hb
  simp only [List.length_cons] at hl
  rw [ga] at h
  cases c1:Op.bytesLess x.name y.name with
  |true=>
   rw [c1] at h
   simp only [Option.map_eq_some_iff] at h
   obtain ⟨m',h1,rfl⟩:=h
   obtain ⟨g1,g2⟩:=xH n a (y::b) m' (by simp only [List.length_cons];omega) ha.2 hb' h1
   refine ⟨fun z=>by rw [List.mem_cons,g1,List.mem_cons (a:=z) (b:=x),or_assoc],List.pairwise_cons.2 ⟨fun z hz => ?_,g2⟩⟩
   rcases (g1 z).1 hz with h | h
   ·exact ha.1 z h
   ·rcases List.mem_cons.1 h with rfl | h
    ·exact c1
    ·exact qG c1 (hb.1 z h)
  |false=>
   rw [c1] at h
   simp only at h
   cases c2:Op.bytesLess y.name x.name with
   |true=>
    rw [c2] at h
    simp only [Option.map_eq_some_iff] at h
    obtain ⟨m',h1,rfl⟩:=h
    obtain ⟨g1,g2⟩:=xH n (x::a) b m' (by simp only [List.length_cons];omega) ha' hb.2 h1
    refine ⟨fun z=>by rw [List.mem_cons,g1,List.mem_cons (a:=z) (b:=y) (l:=b)];exact or_left_comm,List.pairwise_cons.2 ⟨fun z hz => ?_,g2⟩⟩
    rcases (g1 z).1 hz with h | h
    ·rcases List.mem_cons.1 h with rfl | h
     ·exact c2
     ·exact qG c2 (ha.1 z h)
    ·exact hb.1 z h
   |false=>
    rw [c2] at h
    simp only at h
    have hn:=I2 c1 c2
    cases c3:(x.name == y.name&&x.value == y.value) with
    |false=>rw [c3] at h;cases h
    |true=>
     rw [c3] at h
     simp only [Option.map_eq_some_iff] at h
     obtain ⟨m',h1,rfl⟩:=h
     have hxy:=Jd c3
     subst hxy
     obtain ⟨g1,g2⟩:=xH n a b m' (by omega) ha.2 hb.2 h1
     refine ⟨fun z=>by rw [List.mem_cons,g1,List.mem_cons (a:=z) (b:=x) (l:=a),List.mem_cons (a:=z) (b:=x) (l:=b)];exact or_or_distrib_left,List.pairwise_cons.2 ⟨fun z hz => ?_,g2⟩⟩
     rcases (g1 z).1 hz with h | h
     ·exact ha.1 z h
     ·exact hb.1 z h
theorem Ou:∀ (l:List au) (p q:au),q∈p::ddF p l↔q∈p::l
 |[],p,q=>by simp [ddF]
 |r::t,p,q=>by
  rw [ddF]
  split
  ·rename_i h
   obtain rfl:=Jd h
   rw [Ou t r q];simp
  ·rw [List.mem_cons,Ou t r q,List.mem_cons (a:=q) (b:=p)]
theorem R0:∀ (l:List au) (p:au),Wek (p::l)→(∀ x∈p::l,∀ y∈p::l,x.name=y.name→x=y)→Ed (p::ddF p l)
 |[],p,_,_=>by simp [ddF,Ed]
 |q::t,p,hw,hu=>by
  have hw':=hw
  rw [Wek,List.pairwise_cons] at hw
  have ih:=R0 t q hw.2 (fun x hx y hy=>hu x (by simp at hx ⊢;exact .inr hx) y (by simp at hy ⊢;exact .inr hy))
  rw [ddF]
  split
  ·rename_i h
   obtain rfl:=Jd h
   exact ih
  ·rename_i h
   have hpq:Op.bytesLess p.name q.name=true:=by
    have h1:=hw.1 q (by simp)
    cases h2:Op.bytesLess p.name q.name with
    |true=>rfl
    |false=>
     have:=hu p (by simp) q (by simp) (I2 h2 h1)
     subst this
     exact absurd (Ot p) h
   refine List.pairwise_cons.2 ⟨fun z hz => ?_,ih⟩
   rcases List.mem_cons.1 hz with rfl | hz
   ·exact hpq
   ·exact qG hpq ((List.pairwise_cons.1 ih).1 z hz)
structure Srt (srt:List au→List au):Prop where
 perm:∀ l,(srt l).Perm l
 ord:∀ l,Wek (srt l)
theorem R1{a b:List au}(ha:Ed a)(hb:Ed b)(hc:kS a b=false):∀ x∈a++b,∀ y∈a++b,x.name=y.name→x=y:=by
 have hab:∀ x∈a,∀ y∈b,x.name=y.name→x=y:=fun x hx y hy hn=>by
  have h1:(b.any fun g=>kh x g)=false:=by
   unfold kS at hc
   rw [List.any_eq_false] at hc
   have:=hc x hx
   simpa using this
  rw [List.any_eq_false] at h1
  have h2:=h1 y hy
  simp only [kh,hn,beq_self_eq_true,Bool.true_and,Bool.not_eq_true,Bool.not_eq_false'] at h2
  cases x;cases y;simp only at hn h2;rw [hn,eq_of_beq h2]
 intro x hx y hy hn
 rcases List.mem_append.1 hx with hx | hx<;>rcases List.mem_append.1 hy with hy | hy
 ·exact Nd ha hx hy hn
 ·exact hab x hx y hy hn
 ·exact (hab y hy x hx hn.symm).symm
 ·exact Nd hb hx hy hn
theorem Ov{srt:List au→List au}(hs:Srt srt){l:List au}(hu:∀ x∈l,∀ y∈l,x.name=y.name→x=y):(∀ x,x∈xG (srt l)↔x∈l)∧Ed (xG (srt l)):=by
 have hp:=hs.perm l
 have ho:=hs.ord l
 generalize srt l=s at hp ho
 have hm:∀ x,x∈s↔x∈l:=fun x=>hp.mem_iff
 cases s with
 |nil=>exact ⟨fun x=>by rw [← hm];rfl,.nil⟩
 |cons p s=>exact ⟨fun x=>by rw [← hm];exact Ou s p x,R0 s p ho fun x hx y hy=>hu x ((hm x).1 hx) y ((hm y).1 hy)⟩
def Ow(srt:List au→List au)(a b:List au):Option (List au):=sel (uQ a&&uQ b && !kS a b) (some (xG (srt (a++b)))) none
theorem R2{srt:List au→List au}(hs:Srt srt)(a b:List au):Ow srt a b=uR a b:=by
 unfold Ow uR
 cases ha:uQ a with
 |false=>rfl
 |true=>
  cases hb:uQ b with
  |false=>rfl
  |true=>
   have hc:=uo _ a b (Nat.le_refl _) ha hb
   simp only [Bool.true_and,sel]
   cases hcl:kS a b with
   |true=>
    rw [hcl] at hc
    cases hm:ga a b with
    |none=>rfl
    |some m=>rw [hm] at hc;cases hc
   |false=>
    rw [hcl] at hc
    cases hm:ga a b with
    |none=>rw [hm] at hc;cases hc
    |some m=>
     obtain ⟨g1,g2⟩:=xH _ a b m (Nat.le_refl _) (Co ha) (Co hb) hm
     obtain ⟨g3,g4⟩:=Ov hs (R1 (Co ha) (Co hb) hcl)
     simp only [Bool.not_false]
     congr 1
     exact Pp g4 g2 fun x=>by rw [g3,g1,List.mem_append]
theorem CI:∀ (n:Nat) (a b m:List au),a.length+b.length≤n→ga a b=some m→m.length≤a.length+b.length
 |_,[],b,m,_,h=>by
  have:ga [] b=some b:=by cases b<;>simp [ga]
  rw [this] at h;cases h;simp
 |_,x::a,[],m,_,h=>by
  have:ga (x::a) []=some (x::a):=by simp [ga]
  rw [this] at h;cases h;simp
 |0,x::a,y::b,m,hl,_=>by simp at hl
 |n+1,x::a,y::b,m,hl,h=>by
  simp only [List.length_cons] at hl
  rw [ga] at h
  split at h
  ·simp only [Option.map_eq_some_iff] at h
   obtain ⟨m',h1,rfl⟩:=h
   have:=CI n a (y::b) m' (by simp only [List.length_cons];omega) h1
   simp only [List.length_cons] at this ⊢;omega
  ·split at h
   ·simp only [Option.map_eq_some_iff] at h
    obtain ⟨m',h1,rfl⟩:=h
    have:=CI n (x::a) b m' (by simp only [List.length_cons];omega) h1
    simp only [List.length_cons] at this ⊢;omega
   ·split at h
    ·simp only [Option.map_eq_some_iff] at h
     obtain ⟨m',h1,rfl⟩:=h
     have:=CI n a b m' (by omega) h1
     simp only [List.length_cons];omega
    ·cases h
section
open Go.Sort Go.Proofs Go.Lib
abbrev Pr:=List UInt8×List UInt8
def Fx(x:Pr):List AV:=[.str x.1,.str x.2]
def Bg(x:Pr):List Value:=[.string ⟨x.1.toArray⟩,.string ⟨x.2.toArray⟩]
def Je(x y:Pr):Int:=Lib.compareBytes x.1 y.1
def tl(d:Array Pr):Array Pr:=pdq (ltOf Je) d 0 d.size (Lib.bitLen d.size) true true
def DC(l:List Pr):List Pr:=(tl l.toArray).toList
section
variable{P:Program}{G:Nat→Option (List AV)}{K:aA}{H:List ag}{w:World}
theorem Inv.drewN(hi:Inv K H w):∀ n,Inv K H (w.drewN n)
 |0=>by rw [World.drewN_zero];exact hi
 |n+1=>(Inv.drewN hi n).drew
theorem Inv.grow(hi:Inv K H w)(os:Array Obj):Inv K H (Go.Sort.grow w os):=by
 obtain ⟨l,rfl⟩:∃ l:List Obj,os=l.toArray:=⟨os.toList,by simp⟩
 induction l generalizing w with
 |nil=>simpa using hi
 |cons o l ih=>
  have:=ih (hi.junk o)
  rw [alloc_eq_grow,grow_grow] at this
  simpa using this
theorem Ox:∀ (x y rest:List AV),x.length=y.length→aP (x++rest) 0 y=y++rest:=by
 have key:∀ (y x pre rest:List AV),x.length=y.length→aP (pre++x++rest) pre.length y=pre++y++rest:=by
  intro y
  induction y with
  |nil=>intro x pre rest h;have:x=[]:=List.length_eq_zero_iff.1 h;subst this;simp [aP]
  |cons a y ih=>
   intro x pre rest h
   cases x with
   |nil=>cases h
   |cons b x=>
    rw [aP]
    have:=ih x (pre++[a]) rest (by simpa using h)
    simp only [List.length_append,List.length_cons,List.length_nil,List.append_assoc,List.cons_append,List.nil_append] at this ⊢
    rw [← this]
    congr 1
    simp
 intro x y rest h
 simpa using key y x [] rest h
theorem KM(l:List Pr):∀ (j:Nat),j<l.length*2→∃ s,(l.flatMap Fx)[j]?=some (.str s)∧(Bg (l.toArray[j / 2]!))[j % 2]! = .string ⟨s.toArray⟩:=by
 induction l with
 |nil=>intro j h;simp at h
 |cons x l ih=>
  intro j h
  match j with
  |0=>exact ⟨x.1,rfl,rfl⟩
  |1=>exact ⟨x.2,rfl,rfl⟩
  |j+2=>
   obtain ⟨s,h1,h2⟩:=ih j (by simp at h;omega)
   refine ⟨s,by simpa [Fx] using h1, ?_⟩
   have e1:(j+2) / 2=j / 2+1:=by omega
   have e2:(j+2) % 2=j % 2:=by omega
   rw [e1,e2,← h2]
   simp
theorem ll(l:List Pr):(l.flatMap Fx).length=l.length*2:=by
 induction l with
 |nil=>rfl
 |cons x l ih=>simp [Fx,ih];omega
theorem Nf{f g:FuncId}(ef:∀ args w,(callFunc f args).run P w = .ok (.enter f args) w)
  (hs:∀ (blk cap:Nat) (d:Array Pr) (w:World),HoldsK Bg 2 w blk 0 d→blk<w.heap.size→d.size<4611686018427387904 →
   Calls P f #[.slice (some ⟨blk,0,none⟩) d.size cap,.func (.func g) #[] #[]] w fun e w'=>e = .returned (.tuple #[])∧∃ n os,w'=sortWorldK Bg 2 w blk 0 n (tl d) os)
  (hz:∀ d:Array Pr,(tl d).size=d.size)
  {l:List Pr} (hl:l.length<4611686018427387904) {rest:List AV}{id:Nat}{room:Bool}{T:TypeId} (hid:H[id]?=some (.cells (l.flatMap Fx++rest) T)) :
  eS P G f [.rslice id 0 l.length 2 room,.fn (.func g) [] []] H fun r H'=>r = .ret (.tuple [])∧H'=H.set id (.cells ((DC l).flatMap Fx++rest) T):=by
 intro K w cargs hg hi hv
 obtain ⟨c,d,rfl,hc,hd⟩:=tV hv
 cases hc with
 |rslice _ _ _ _ _ b cap hb hcap hro=>
 cases hd with
 |fn _ _ _ vs us h1 h2 hv1 hu1=>
 obtain rfl:vs = #[]:=Array.eq_empty_of_size_eq_zero h1.symm
 obtain rfl:us = #[]:=Array.eq_empty_of_size_eq_zero h2.symm
 obtain ⟨b',vs,T',g1,g2,g3,g4,g5,g6,g7,g8,g9⟩:=hi.obj id _ hid
 rw [hb] at g1;cases g1
 have hlen:l.length*2≤vs.size:=by
  rw [List.length_append,ll] at g4;omega
 have hH:HoldsK Bg 2 w b 0 l.toArray:=by
  intro j hj
  rw [size_flatK] at hj
  simp only [List.size_toArray] at hj
  obtain ⟨s,e1,e2⟩:=KM l j hj
  have hav:=g5 j (.str s) (by rw [List.getElem?_append_left (by rw [ll];exact hj)];exact e1)
  have hlt:j<vs.size:=by omega
  refine ⟨?_,by simp [World.frozen?,g3]⟩
  rw [Nat.zero_add,cell_of_heap g3,Array.getElem?_eq_getElem hlt]
  rw [get_flatK _ _ _ _ (by simpa using hj),e2]
  have hgd:vs.getD j undef=vs[j]:=by simp [Array.getD,hlt]
  rw [hgd] at hav
  generalize vs[j]=v at hav
  cases hav
  rfl
 have hblk:b<w.heap.size:=(Array.getElem?_eq_some_iff.1 g3).1
 have hc:=hs b cap l.toArray w hH hblk (by simpa using hl)
 simp only [List.size_toArray] at hc
 refine .inl ⟨ef _ _,hc.mono ?_⟩
 rintro e w' ⟨rfl,n,os,rfl⟩
 have hz':(tl l.toArray).size=l.length:=by simpa using hz l.toArray
 have hsl:(DC l).length=l.length:=by simpa [DC] using hz'
 refine ⟨K,.ret (.tuple []),_,.refl K,(.tuple [] #[] rfl (by simp):V K _ _), ?_,rfl,rfl⟩
 have e1:putRowK Bg 2 (Sort.ahead w n) b 0 (tl l.toArray)=(w.drewN n).setCells b 0 (flatK Bg 2 (tl l.toArray)).toList:=by
  have:=putRow_eq_setCells (fun v:Value=>v) w b 0 (flatK Bg 2 l.toArray) (flatK Bg 2 (tl l.toArray)).toList n hH (by simp [hz'])
  simp only [Array.toArray_toList,List.map_id_fun,List.map_id] at this
  refine Eq.trans ?_ (this.trans ?_)
  ·rfl
  ·congr 1;exact List.map_id _
 unfold sortWorldK
 rw [e1]
 refine Inv.grow ?_ os
 have hi2:=hi.drewN n
 have:=Inv.stores hb ((DC l).flatMap Fx) (flatK Bg 2 (tl l.toArray)).toList 0 H (w.drewN n) (l.flatMap Fx++rest) T hi2 hid (by rw [ll,hsl];simp [hz']) (by rw [ll,hsl,List.length_append,ll];omega) (fun j av hj=>by
  have hj2:j<(DC l).length*2:=by rw [← ll];exact (List.getElem?_eq_some_iff.1 hj).1
  obtain ⟨s,k1,k2⟩:=KM (DC l) j hj2
  rw [hj] at k1;cases k1
  refine ⟨.string ⟨s.toArray⟩, ?_,.str s⟩
  have hj3:j<(tl l.toArray).size*2:=by rw [hz',← hsl];exact hj2
  have:(flatK Bg 2 (tl l.toArray))[j]! = .string ⟨s.toArray⟩:=by
   rw [get_flatK _ _ _ _ hj3,← k2];simp [DC]
  rw [Array.getElem?_toList,← this,getElem!_def]
  have hj4:j<(flatK Bg 2 (tl l.toArray)).size:=by rw [size_flatK];exact hj3
  rw [Array.getElem?_eq_getElem hj4])
 rwa [Ox _ _ _ (by rw [ll,ll,hsl])] at this
end
end
section
open Go.Sort Go.Proofs Go.Lib
def toP(x:au):Pr:=(x.name,x.value)
def ofP(p:Pr):au:=⟨p.1,p.2⟩
def R3(l:List au):List au:=(DC (l.map toP)).map ofP
theorem Pq(l:List au):b5 l=(l.map toP).flatMap Fx:=by
 unfold b5
 induction l with
 |nil=>rfl
 |cons x l ih=>rw [List.map_cons,List.flatten_cons,ih];rfl
theorem S3(l:List Pr):b5 (l.map ofP)=l.flatMap Fx:=by
 rw [Pq,List.map_map]
 congr 1
 exact List.map_id l
theorem R4:∀ x y:List UInt8,decide (Lib.compareBytes x y<0)=Op.bytesLess x y
 |[],[]=>rfl
 |[],_::_=>rfl
 |_::_,[]=>rfl
 |a::x,b::y=>by
  rw [Lib.compareBytes,Op.bytesLess]
  by_cases h1:a<b
  ·simp [h1]
  ·by_cases h2:b<a
   ·have:¬ a=b:=fun e=>by subst e;exact h1 h2
    simp [h1,h2,this]
   ·have:a=b:=UInt8.le_antisymm (UInt8.not_lt.1 h2) (UInt8.not_lt.1 h1)
    subst this
    simp [h1,R4 x y]
theorem Ps(x y:Pr):ltOf Je x y=Op.bytesLess x.1 y.1:=R4 x.1 y.1
theorem UH:SWO (ltOf Je) where
 irrefl x:=by rw [Ps];exact Ch _
 trans x y z h1 h2:=by rw [Ps] at *;exact qG h1 h2
 ntrans x y z h1 h2:=by
  rw [Ps] at *
  cases h3:Op.bytesLess x.1 z.1 with
  |false=>rfl
  |true=>
   cases h4:Op.bytesLess y.1 x.1 with
   |true=>rw [qG h4 h3] at h2;cases h2
   |false=>rw [I2 h1 h4] at h3;rw [h3] at h2;cases h2
theorem Ee(d:Array Pr):PermIn 0 d.size d (tl d)∧SortedIn (ltOf Je) 0 d.size (tl d):=
 pdq_sorts (ltOf Je) UH d 0 d.size (Lib.bitLen d.size) true true (Nat.zero_le _) (Nat.le_refl _) (Or.inl rfl)
theorem Gq(d:Array Pr):(tl d).size=d.size:=(Ee d).1.1
theorem R5:Srt R3:=by
 constructor
 ·intro l
  have h:=(Ee (l.map toP).toArray).1.2.2
  have hs:=Gq (l.map toP).toArray
  have e1:(tl (l.map toP).toArray).extract 0 (l.map toP).toArray.size=tl (l.map toP).toArray:=by rw [← hs];exact Array.extract_size
  have e2:(l.map toP).toArray.extract 0 (l.map toP).toArray.size=(l.map toP).toArray:=Array.extract_size
  rw [e1,e2] at h
  have h2:=h.map ofP
  have e3:(l.map toP).map ofP=l:=by rw [List.map_map];exact List.map_id l
  rwa [e3] at h2
 ·intro l
  have h:=(Ee (l.map toP).toArray).2
  have hs:=Gq (l.map toP).toArray
  unfold Wek R3 DC
  rw [List.pairwise_iff_getElem]
  intro i j hi hj hij
  simp only [List.length_map,Array.length_toList] at hi hj
  have:=h i j (Nat.zero_le _) hij (by rw [← hs];exact hj)
  rw [Ps] at this
  simp only [List.getElem_map,Array.getElem_toList]
  rw [getElem!_pos _ i hi,getElem!_pos _ j hj] at this
  exact this
def Ng:List AV→Option (List Pr)
 |[]=>some []
 |.str a :: .str b::r=>match Ng r with
  |some l=>some ((a,b)::l)
  |none=>none
 |_=>none
theorem KN:∀ l:List Pr,Ng (l.flatMap Fx)=some l
 |[]=>rfl
 |x::l=>by
  show Ng (.str x.1 :: .str x.2::l.flatMap Fx)=_
  rw [Ng,KN l]
theorem Pt:∀ {cs:List AV}{l:List Pr},Ng cs=some l→cs=l.flatMap Fx
 |[],l,h=>by cases h;rfl
 |.str a :: .str b::r,l,h=>by
  rw [Ng] at h
  split at h
  ·rename_i l' h'
   cases h
   rw [Pt h'];rfl
  ·cases h
def Qv(fS gU:FuncId)(f:FuncId)(args:List AV)(H:List ag):Option Out:=
 match args with
 |[.rslice id 0 n 2 true,.fn (.func g) [] []]=>bif Nat.beq f fS&&Nat.beq g gU then (match H[id]? with
   |some (.cells cs T)=>match Ng cs with
    |some l=>bif Nat.beq l.length n&&Nat.ble n 4000000000 then some (.ret (.tuple []),H.set id (.cells ((DC l).flatMap Fx) T)) else none
    |none=>none
   |_=>none) else none
 |[.slice .full 2 [],.fn (.func g) [] []]=>bif Nat.beq f fS&&Nat.beq g gU then some (.ret (.tuple []),H) else none
 |_=>none
theorem S4{P:Program}{G:Nat→Option (List AV)}{fS gU:FuncId}(ef:∀ args w,(callFunc fS args).run P w = .ok (.enter fS args) w)
  (hs:∀ (blk cap:Nat) (d:Array Pr) (w:World),HoldsK Bg 2 w blk 0 d→blk<w.heap.size→d.size<4611686018427387904 →
   Calls P fS #[.slice (some ⟨blk,0,none⟩) d.size cap,.func (.func gU) #[] #[]] w fun e w'=>e = .returned (.tuple #[])∧∃ n os,w'=sortWorldK Bg 2 w blk 0 n (tl d) os)
  (h0:∀ (p:Option Addr) (cap:Nat) (fv:Value) (w:World),Calls P fS #[.slice p 0 cap,fv] w fun e w'=>e = .returned (.tuple #[])∧w'=w)
  {f:FuncId}{args:List AV}{H H':List ag}{r:uW} (h:Qv fS gU f args H=some (r,H')):eS P G f args H fun r2 H2=>r2=r∧H2=H':=by
 unfold Qv at h
 split at h
 ·rename_i id n g
  cases hb:(Nat.beq f fS&&Nat.beq g gU) with
  |false=>rw [hb] at h;cases h
  |true=>
   rw [hb,cond_true] at h
   simp only [Bool.and_eq_true] at hb
   obtain rfl:=Nat.eq_of_beq_eq_true hb.1
   obtain rfl:=Nat.eq_of_beq_eq_true hb.2
   split at h<;>try (cases h;done)
   rename_i cs T hx
   split at h<;>try (cases h;done)
   rename_i l hl
   cases hc:(Nat.beq l.length n&&Nat.ble n 4000000000) with
   |false=>rw [hc] at h;cases h
   |true=>
    rw [hc,cond_true] at h
    simp only [Bool.and_eq_true] at hc
    obtain rfl:=Nat.eq_of_beq_eq_true hc.1
    have hle:=Nat.le_of_ble_eq_true hc.2
    cases h
    obtain rfl:=Pt hl
    have:=Nf (P:=P) (G:=G) ef hs Gq (l:=l) (by omega) (rest:=[]) (H:=H) (id:=id) (room:=true) (T:=T) (by rw [List.append_nil];exact hx)
    simpa using this
 ·rename_i g
  cases hb:(Nat.beq f fS&&Nat.beq g gU) with
  |false=>rw [hb] at h;cases h
  |true=>
   rw [hb,cond_true] at h
   simp only [Bool.and_eq_true] at hb
   obtain rfl:=Nat.eq_of_beq_eq_true hb.1
   cases h
   intro K w cargs hg hi hv
   obtain ⟨c,d,rfl,hc,hd⟩:=tV hv
   obtain ⟨p,rfl⟩:∃ p,c = .slice p 0 0:=by
    cases hc with
    |slice0 _ _ a _=>exact ⟨a,rfl⟩
    |slice _ _ _ b o cap vs hl him hvv hcap ht=>exact ⟨_,by have:cap=0:=ht;rw [this];rfl⟩
   refine .inl ⟨ef _ _,(h0 p 0 d w).mono ?_⟩
   rintro e w' ⟨rfl,rfl⟩
   exact ⟨K,.ret (.tuple []),H,.refl K,(.tuple [] #[] rfl (by simp):V K _ _),hi,rfl,rfl⟩
 ·cases h
end
section
attribute [local congr] aS eb bQ aT bv bb aU aC aD bc be
variable{E:bP}(M:dO d8 E)
theorem R6{H0:List ag}{k:List Fra}{id:Nat}{T:TypeId}{rest:List AV}{H:List ag}{l:List au}(hx:H[id]?=some (.cells (b5 l++rest) T))
  (hk:M.go aL H0 k (kv [(0,.rslice id 0 l.length 2 true)]) H=some (.ret (.rslice id 0 l.length 2 true),H.take H0.length)) :
  ∀ (t out:List au) (p:au),l=out++p::t→cpR M H0 k id T rest H l.length out p t=some (.ret (.rslice id 0 (out++p::ddF p t).length 2 true),(H.set id (.cells (b5 (out++p::ddF p t)++(nF (l.length-(out++p::ddF p t).length)++rest)) T)).take H0.length)
 |[],out,p,hl=>by
  rw [cpR,hk,ddF,← hl,Nat.sub_self,show nF 0=[] from rfl,List.nil_append,yF hx]
 |q::t,out,p,hl=>by
  rw [cpR,ddF]
  split
  ·rfl
  ·have:=R6 hx hk t (out++[p]) q (by rw [hl];simp)
   rw [this]
   simp only [List.append_assoc,List.cons_append,List.nil_append]
theorem Nh(hU:wt E){l:List au}(h0:0<l.length)(hn:l.length≤4000000000){H:List ag}{id:Nat}{T:TypeId}{rest:List AV}(hr:∀ c∈rest,Wk H.length c c)(hx:H[id]?=some (.cells (b5 l++rest) T)) :
  M.run eC [.rslice id 0 l.length 2 true] H=some (.ret (.rslice id 0 (xG l).length 2 true),H.set id (.cells (b5 (xG l)++(nF (l.length-(xG l).length)++rest)) T)):=by
 have hid:id<H.length:=(List.getElem?_eq_some_iff.1 hx).1
 have hw:∀ n,uS d8 .drop H H (.rslice id 0 n 2 true)=some (.rslice id 0 n 2 true,H.take H.length):=fun n=>handV_drop (cut_refl H) (wk_rslice hid)
 match l,h0,hn,hx with
 |[x],_,_,hx=>
  rw [aM M hU.slices_Compact_api_Feat_api_Feat rfl (c:=bS) rfl,bS]
  have e:xG [x]=[x]:=rfl
  have hs:H.set id (.cells (b5 [x]++(nF ([x].length-[x].length)++rest)) T)=H:=by rw [Nat.sub_self];exact yF hx
  rw [e,hs]
  simp (maxSteps:=3000000) (maxDischargeDepth:=6) +contextual -implicitDefEqProofs only [amA M,amB,↓ae,↓aa,↓aj,↓ah,Nat.reduceBEq,Nat.reduceAdd,env,am,a6,zS,hw,(show decide ([x].length<2)=true from rfl),(show decide ((([x].length:Nat):Int)<2)=true from rfl)]
 |x::y::t,_,hn,hx=>
  rw [aM M hU.slices_Compact_api_Feat_api_Feat rfl (c:=bS) rfl,bS]
  generalize hl:x::y::t=l at *
  have d:decide ((l.length:Int)<2)=false:=decide_eq_false (by rw [← hl];simp;omega)
  have h1:=fun k He=>cpo M hU (H:=H) (H0:=H) hid hid (cut_refl H) (T:=T) (rest:=rest) hr k (l:=l) hn hx (y::t) [] x He (by rw [← hl];rfl)
  simp only [kv_cons,kv_nil,List.length_nil,Nat.zero_add,(show ((1:Nat):Int)=1 from rfl)] at h1
  have hk:M.go aL H [.c (Sh.Q (Sh.O [Sh.m 60 0,Sh.m 2 60]) Sh.R)] (kv [(0,.rslice id 0 l.length 2 true)]) H=some (.ret (.rslice id 0 l.length 2 true),H.take H.length):=by
   simp only [kv_cons,kv_nil]
   simp (maxSteps:=3000000) (maxDischargeDepth:=6) +contextual -implicitDefEqProofs only [amA M,amB,↓ae,↓aa,↓aj,↓ah,Nat.reduceBEq,Nat.reduceAdd,env,am,a6,hw]
  have h2:=R6 M (rest:=rest) hx hk (y::t) [] x (by rw [← hl];rfl)
  have hc:xG l=[]++x::ddF x (y::t):=by rw [← hl];rfl
  rw [← hc,List.take_of_length_le (by simp)] at h2
  simp (maxSteps:=3000000) (maxDischargeDepth:=6) +contextual -implicitDefEqProofs only [amA M,amB,↓ae,↓aa,↓aj,↓ah,Nat.reduceBEq,Nat.reduceAdd,env,am,a6,zS,d,h1]
  exact h2
theorem Ni(hU:wt E){ta tb:Tag}(H:List ag) :
  M.run eN [.slice .full 1 [[.slice ta 2 []],[.slice tb 2 []]]] H=some (.ret (.slice .full 2 []),H):=by
 rw [aM M hU.slices_Concat_api_Feat_api_Feat rfl (c:=dL) rfl,dL]
 have w1:IntKind.i64.wrap (0+0)=0:=by decide
 have w3:IntKind.i64.wrap (0+1)=1:=by decide
 have w4:IntKind.i64.wrap (1+1)=2:=by decide
 have d1:decide ((0:Int)<0)=false:=rfl
 have i0:yM 1 (.slice .full 1 [[.slice ta 2 []],[.slice tb 2 []]]) (.int .i64 0)=some (.vptr 1 [[.slice ta 2 []],[.slice tb 2 []]] 0 0):=rfl
 have i1:yM 1 (.slice .full 1 [[.slice ta 2 []],[.slice tb 2 []]]) (.int .i64 1)=some (.vptr 1 [[.slice ta 2 []],[.slice tb 2 []]] 1 0):=rfl
 have n0:(([[.slice ta 2 []],[.slice tb 2 []]]:List (List AV)).length:Int)=2:=rfl
 have n1:decide ((0:Int)<2)=true:=rfl
 have n2:decide ((1:Int)<2)=true:=rfl
 have n3:decide ((2:Int)<2)=false:=rfl
 have g0:([[.slice ta 2 []],[.slice tb 2 []]]:List (List AV))[0]?=some [.slice ta 2 []]:=rfl
 have g1:([[.slice ta 2 []],[.slice tb 2 []]]:List (List AV))[1]?=some [.slice tb 2 []]:=rfl
 have l0:∀ x:AV,cX none [x] 0=some x:=fun _=>rfl
 have e0:(((List.length ([]:List (List AV))):Nat):Int)=0:=rfl
 simp (maxSteps:=3000000) (maxDischargeDepth:=6) +contextual -implicitDefEqProofs only [amA M,amB,↓ae,↓aa,↓aj,↓ah,Nat.reduceBEq,Nat.reduceAdd,env,am,kN,n0,n1,n2,n3,g0,g1,l0,e0,ao M gz.eq_1,ao M gA.eq_1,w1,w3,w4,d1,i0,i1,Qt M hU,KL (.inl rfl),KL (.inr rfl)]
structure GV (M:dO d8 E) (srt:List au→List au):Prop where
 none:∀ H,M.run bm [.slice .full 2 [],.fn (.func gE) [] []] H=some (.ret (.tuple []),H)
 some:∀ {l:List au}{H:List ag}{id:Nat}{T:TypeId},0<l.length→l.length≤4000000000→H[id]? = .some (.cells (b5 l) T) →
  M.run bm [.rslice id 0 l.length 2 true,.fn (.func gE) [] []] H = .some (.ret (.tuple []),H.set id (.cells (b5 (srt l)) T))
 len:∀ l,(srt l).length=l.length
theorem Jf:∀ (l:List au) (rest:List AV),lm 2 l.length (b5 l++rest)=l.map au.row
 |[],_=>rfl
 |x::l,rest=>by
  have e:b5 (x::l)++rest=x.row++(b5 l++rest):=by simp [b5]
  rw [e,List.length_cons,lm]
  show x.row::lm 2 l.length (b5 l++rest)=_
  rw [Jf l rest];rfl
theorem Nj(H:List ag)(o o':ag):(H++[.dead,.dead,o]).set (H.length+2) o'=H++[.dead,.dead,o']:=by
 rw [List.set_append_right _ _ (by omega)];simp
theorem Jg(H:List ag)(o:ag):(H++[.dead,.dead,o])[H.length+2]?=some o:=by
 rw [List.getElem?_append_right (by omega)];simp
theorem Qw(hU:wt E){srt:List au→List au}(hS:GV M srt){a b:Sl au}(h:a.l.length+b.l.length≤4000000000)(H:List ag) :
  M.run xP [.slice a.tag 2 (a.l.map au.row),.slice b.tag 2 (b.l.map au.row)] H=some (.ret (.slice .any 2 ((xG (srt (a.l++b.l))).map au.row)),H):=by
 rw [aM M hU.morph_union rfl (c:=x5) rfl,x5]
 have e1:List.map AV.strip [AV.slice a.tag 2 (a.l.map au.row),.slice b.tag 2 (b.l.map au.row)]=[.slice a.tag.strip 2 (a.l.map au.row),.slice b.tag.strip 2 (b.l.map au.row)]:=by simp [xy]
 have e2:∀ x y:AV,xp 1 2 [x,y]=[[x],[y]]:=fun _ _=>rfl
 by_cases h0:a.l.length+b.l.length=0
 ·have ha:a.l=[]:=List.length_eq_zero_iff.1 (by omega)
  have hb:b.l=[]:=List.length_eq_zero_iff.1 (by omega)
  have hs:srt ([]++[])=[]:=List.length_eq_zero_iff.1 (by rw [hS.len];rfl)
  have hcp:M.run eC [.slice .full 2 []] H=some (.ret (.slice .any 2 []),H):=by
   rw [aM M hU.slices_Compact_api_Feat_api_Feat rfl (c:=bS) rfl,bS]
   simp (maxSteps:=3000000) (maxDischargeDepth:=6) +contextual -implicitDefEqProofs only [amA M,amB,↓ae,↓aa,↓aj,↓ah,Nat.reduceBEq,Nat.reduceAdd,env,am,a6,zS,(show decide ((((List.length ([]:List (List AV))):Nat):Int)<2)=true from rfl),(show decide (List.length ([]:List (List AV))<2)=true from rfl),i9]
  rw [ha,hb,hs]
  rw [ha,hb] at e1
  simp only [List.map_nil] at e1 ⊢
  simp (maxSteps:=3000000) (maxDischargeDepth:=6) +contextual -implicitDefEqProofs only [amA M,amB,↓ae,↓aa,↓aj,↓ah,Nat.reduceBEq,Nat.reduceAdd,env,am,Dr,amG,AV.cell,Nat.reduceMul,Nat.reduceLeDiff,xy,Ni M hU,hS.none,hcp]
  rw [Kl (v':=.slice .any 2 []) rfl (fun K K' w w' x hi hi' hk hv=>by
   obtain ⟨hc1,hc2⟩:=hi.cut hi' hk (cut_refl H)
   exact ⟨_,hc2,wk_any (i9 _) K' x (by rw [hi'.len];exact Nat.le_refl _) hv,hc1⟩)]
  simp only [List.take_length]
  rfl
 ·have hcc:=fun H=>On M hU (a:=a.l) (b:=b.l) (ta:=a.tag.strip) (tb:=b.tag.strip) (by omega) h H
  have hll:0<(a.l++b.l).length:=by simp;omega
  have hlm:(a.l++b.l).length≤4000000000:=by simp;omega
  have hso:=hS.some (l:=a.l++b.l) (H:=H++[.dead,.dead,.cells (b5 (a.l++b.l)) aQ]) (id:=H.length+2) (T:=aQ) hll hlm (Jg _ _)
  rw [Nj] at hso
  have hsl:=hS.len (a.l++b.l)
  generalize hL:srt (a.l++b.l)=L at hso hsl ⊢
  have hcp:=Nh M hU (l:=L) (by omega) (by omega) (H:=H++[.dead,.dead,.cells (b5 L) aQ]) (id:=H.length+2) (T:=aQ) (rest:=[]) (fun c h=>by cases h) (by rw [Jg,List.append_nil])
  rw [Nj,hsl] at hcp
  have hfz:uS d8 .frz H (H++[.dead,.dead,.cells (b5 (xG L)++(nF ((a.l++b.l).length-(xG L).length)++[])) aQ]) (.rslice (H.length+2) 0 (xG L).length 2 true)=some (.slice .any 2 ((xG L).map au.row),H):=by
   rw [FS (by omega) (Jg _ _) (by simp) (by simp) (by rw [List.length_append,pS];omega) (Fw _ _ _ (fun c hc=>by
    rw [List.append_nil,GU] at hc
    exact Fw _ _ [] (fun _ h=>by cases h) 0 c (by simpa using hc)) 0),List.drop_zero,Jf]
  simp only [List.append_nil] at hfz
  simp (maxSteps:=3000000) (maxDischargeDepth:=6) +contextual -implicitDefEqProofs only [amA M,amB,↓ae,↓aa,↓aj,↓ah,Nat.reduceBEq,Nat.reduceAdd,env,am,Dr,amG,AV.cell,Nat.reduceMul,Nat.reduceLeDiff,xy,hcc,hso,hcp,hfz]
end
end Go.Am
