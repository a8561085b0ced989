import Derived.Test.YtjmdmfmkldhcfaaGreatDoorA5
import Derived.Lib.Bytealg
import Derived.Shelf.SlSortCmp.WholeK
import Derived.Lib.RowBridge
/-
  Part 6 of the tool: an abstract machine over the model, proved sound, and what it says of the functions that the law reaches. Condition: none but those that each theorem names.
-/
set_option linter.unusedVariables false
set_option linter.unusedSimpArgs false
set_option maxRecDepth 100000
set_option maxHeartbeats 4000000
namespace Go.Am
open Go.RowKit
section
attribute [local congr] aP dR bF aQ bq aZ aR aE aF a6 a7
variable{E:bL}(M:dK dW E)
def yk(l:Lex):Int:=lS 8 (Gs l) l.traits.l
theorem M6(hN:bp E)(hE:kW E){l:Lex}{n:Nat}(hl:l.ok n){H:List ag}(hn:n≤H.length){p q:Nat}{T T2:TypeId}(hp:H[p]?=some (.cells l.row T))(hq:H[q]?=some (.cells l.row T2)) :
  M.run qZ [.ptr p 0,.ptr q 0] H=some (.ret (.int .u8 (yk l)),H):=by
 rw [aL M hE.morph_Check_1 rfl (c:=uH) rfl,uH]
 have he:=IV M hE.morph_each_api_Trait (g:=kE) (fr:=[.agg l.row]) (cap:=[]) (F:=Gs l) (tg:=l.traits.tag) (l:=l.traits.l) (H:=H) hl.traits.len
  (wk_fn ⟨wk_agg (hl.mono hn).wk,trivial⟩ trivial) ((hl.traits.mono hn (fun _ h=>h.mono hn)).wk (fun _ h=>h.wk))
  (fun L i x hx=>Qp M hN hE hl (hl.traits.all x (List.mem_of_getElem? hx)) (List.getElem?_eq_some_iff.1 hx).1 _)
 simp (maxSteps:=3000000) (maxDischargeDepth:=6) +contextual -implicitDefEqProofs only [amA M,amB,↓ae,↓aa,↓aj,↓ah,Nat.reduceBEq,Nat.reduceAdd,env,am,Hl,he 8,br,hp,hq,yk]
def tO(l:Lex):Int:=lS 16 (AM l) l.classes.l
theorem M7(hN:bp E)(hE:kW E){l:Lex}{n:Nat}(hl:l.ok n){H:List ag}(hn:n≤H.length){p q:Nat}{T T2:TypeId}(hp:H[p]?=some (.cells l.row T))(hq:H[q]?=some (.cells l.row T2)) :
  M.run ra [.ptr p 0,.ptr q 0] H=some (.ret (.int .u8 (tO l)),H):=by
 rw [aL M hE.morph_Check_2 rfl (c:=uI) rfl,uI]
 have he:=IX M hE.morph_each_api_Class (g:=kF) (fr:=[.agg l.row]) (cap:=[]) (F:=AM l) (tg:=l.classes.tag) (l:=l.classes.l) (H:=H) hl.classes.len
  (wk_fn ⟨wk_agg (hl.mono hn).wk,trivial⟩ trivial) ((hl.classes.mono hn (fun _ h=>h.mono hn)).wk (fun _ h=>h.wk))
  (fun L i x hx=>Qq M hN hE hl (hl.classes.all x (List.mem_of_getElem? hx)) (List.getElem?_eq_some_iff.1 hx).1 (by simp;omega))
 simp (maxSteps:=3000000) (maxDischargeDepth:=6) +contextual -implicitDefEqProofs only [amA M,amB,↓ae,↓aa,↓aj,↓ah,Nat.reduceBEq,Nat.reduceAdd,env,am,Hm,he 16,br,hp,hq,tO]
def wB(l:Lex):Int:=lS 128 (yj l) l.entries.l
theorem M8(hN:bp E)(hE:kW E){l:Lex}{n:Nat}(hl:l.ok n){H:List ag}(hn:n≤H.length){p q:Nat}{T T2:TypeId}(hp:H[p]?=some (.cells l.row T))(hq:H[q]?=some (.cells l.row T2)) :
  M.run rb [.ptr p 0,.ptr q 0] H=some (.ret (.int .u8 (wB l)),H):=by
 rw [aL M hE.morph_Check_3 rfl (c:=uJ) rfl,uJ]
 have he:=IZ M hE.morph_each_api_Entry (g:=kG) (fr:=[.agg l.row]) (cap:=[]) (F:=yj l) (tg:=l.entries.tag) (l:=l.entries.l) (H:=H) hl.entries.len
  (wk_fn ⟨wk_agg (hl.mono hn).wk,trivial⟩ trivial) ((hl.entries.mono hn (fun _ h=>h.mono hn)).wk (fun _ h=>h.wk))
  (fun L i x hx=>Qs M hN hE hl (hl.entries.all x (List.mem_of_getElem? hx)) (List.getElem?_eq_some_iff.1 hx).1 (by simp;omega))
 simp (maxSteps:=3000000) (maxDischargeDepth:=6) +contextual -implicitDefEqProofs only [amA M,amB,↓ae,↓aa,↓aj,↓ah,Nat.reduceBEq,Nat.reduceAdd,env,am,Hn,he 128,br,hp,hq,wB]
def yl(l:Lex):Int:=lS 16 (fun _ x=>tN x) l.spells.l
theorem M9(hN:bp E)(hE:kW E){l:Lex}{n:Nat}(hl:l.ok n){H:List ag}(hn:n≤H.length){p q:Nat}{T T2:TypeId}(hp:H[p]?=some (.cells l.row T))(hq:H[q]?=some (.cells l.row T2)) :
  M.run rc [.ptr p 0,.ptr q 0] H=some (.ret (.int .u8 (yl l)),H):=by
 rw [aL M hE.morph_Check_4 rfl (c:=uK) rfl,uK]
 have he:=I1 M hE.morph_each_api_Spell (g:=kH) (fr:=[.agg l.row]) (cap:=[]) (F:=fun _ x=>tN x) (tg:=l.spells.tag) (l:=l.spells.l) (H:=H) hl.spells.len
  (wk_fn ⟨wk_agg (hl.mono hn).wk,trivial⟩ trivial) ((hl.spells.mono hn (fun _ h=>h.mono hn)).wk (fun _ h=>h.wk))
  (fun L i x hx=>M5 M hN hE (hl.spells.all x (List.mem_of_getElem? hx)) i _)
 simp (maxSteps:=3000000) (maxDischargeDepth:=6) +contextual -implicitDefEqProofs only [amA M,amB,↓ae,↓aa,↓aj,↓ah,Nat.reduceBEq,Nat.reduceAdd,env,am,Ho,he 16,br,hp,hq,yl]
def AN(l:Lex):Int:=lS 8 (fun _ x=>Fx l x) l.links.l
theorem Na(hN:bp E)(hE:kW E){l:Lex}{n:Nat}(hl:l.ok n){H:List ag}(hn:n≤H.length){p q:Nat}{T T2:TypeId}(hp:H[p]?=some (.cells l.row T))(hq:H[q]?=some (.cells l.row T2)) :
  M.run re [.ptr p 0,.ptr q 0] H=some (.ret (.int .u8 (AN l)),H):=by
 rw [aL M hE.morph_Check_5 rfl (c:=uL) rfl,uL]
 have he:=JY M hE.morph_each_api_Link (g:=k9) (fr:=[.agg l.row]) (cap:=[]) (F:=fun _ x=>Fx l x) (tg:=l.links.tag) (l:=l.links.l) (H:=H) hl.links.len
  (wk_fn ⟨wk_agg (hl.mono hn).wk,trivial⟩ trivial) ((hl.links.mono hn (fun _ h=>h.mono hn)).wk (fun _ h=>h.wk))
  (fun L i x hx=>Oj M hN hE hl (hl.links.all x (List.mem_of_getElem? hx)) i (by simp;omega))
 simp (maxSteps:=3000000) (maxDischargeDepth:=6) +contextual -implicitDefEqProofs only [amA M,amB,↓ae,↓aa,↓aj,↓ah,Nat.reduceBEq,Nat.reduceAdd,env,am,Hp,he 8,br,hp,hq,AN]
structure Clo where
 g:Nat
 fr:List AV
 cap:List AV
 e:Int
def Clo.row(x:Clo):List AV:=[.fn (.func x.g) x.fr x.cap]
theorem Vi:(∀ x:Clo,c8 none x.row 0=some (.fn (.func x.g) x.fr x.cap)):=fun _=>rfl
theorem fst{H H0:List ag}{tg:Tag}{l:List Clo}(hs:l.length≤aY)(hp:∀ x∈l,M.run x.g (x.fr++x.cap) H=some (.ret (.int .u8 x.e),H))(hc:bP H0 H)(k:List Fra):∀ (n i:Nat) (He:List ag),i+n=l.length →
  M.go jl H0 (.c nQ :: .lp ⟨(some [6,7,8]),[],false⟩ nQ He :: .blk 0 :: .c (.lv [])::k) (kv [(6,.slice tg 1 (l.map Clo.row)),(7,.int .i64 l.length),(8,.int .i64 i)]) H =
   orE (bE (pL fun _ x=>x.e) i (l.drop i)) (H.take H0.length) (M.go jl H0 k .leaf H)
 |0,i,He,h=>by
  have e:i=l.length:=by omega
  subst e
  rw [ao M nQ.eq_1]
  simp (maxSteps:=3000000) (maxDischargeDepth:=6) +contextual -implicitDefEqProofs only [amA M,amB,↓ae,↓aa,↓aj,↓ah,Nat.reduceBEq,Nat.reduceAdd,env,am,x8,Nat.lt_irrefl,List.drop_length]
 |n+1,i,He,h=>by
  have hi:i<l.length:=by omega
  have hx:l[i]?=some l[i]:=List.getElem?_eq_getElem hi
  have hd:(l.drop i)=l[i]::l.drop (i+1):=List.drop_eq_getElem_cons hi
  have hm:l[i]∈l:=List.getElem_mem hi
  have ih:=fun He=>fst (H:=H) (H0:=H0) (tg:=tg) (l:=l) (hs:=hs) (hp:=hp) hc k n (i+1)  He (by omega)
  simp only [kv_cons,kv_nil] at ih
  rw [ao M nQ.eq_1]
  simp (maxSteps:=3000000) (maxDischargeDepth:=6) +contextual -implicitDefEqProofs only [amA M,amB,↓ae,↓aa,↓aj,↓ah,Nat.reduceBEq,Nat.reduceAdd,env,am,x8,hx,hd,hi,ih,hp _ hm,bn hi hs,aA hi,Vi,hc,pL]
theorem Qt(hE:kW E){tg:Tag}{l:List Clo}(hs:l.length≤aY){H:List ag}(hp:∀ x∈l,M.run x.g (x.fr++x.cap) H=some (.ret (.int .u8 x.e),H)) :
  M.run xW [.slice tg 1 (l.map Clo.row)] H=some (.ret (.int .u8 (uv (fun _ x=>x.e) 0 l)),H):=by
 rw [aL M hE.morph_first rfl (c:=x7) rfl,x7]
 have hl:=fun k He=>fst M (tg:=tg) hs hp (cut_refl H) k l.length 0 He (by omega)
 simp only [kv_cons,kv_nil,Int.ofNat_zero,List.drop_zero] at hl
 simp (maxSteps:=3000000) (maxDischargeDepth:=6) +contextual -implicitDefEqProofs only [amA M,amB,↓ae,↓aa,↓aj,↓ah,Nat.reduceBEq,Nat.reduceAdd,env,am,x8,hl]
 exact mD _ l 0 H
def dI(l:Lex):Int:=
 uv (fun _ e=>e) 0 [Qo l,yk l,tO l,wB l,yl l,AN l]
theorem zN(hN:bp E)(hE:kW E){l:Lex}{n:Nat}(hl:l.ok n){H:List ag}(hn:n≤H.length) :
  M.run lE [.agg l.row] H=some (.ret (.int .u8 (dI l)),H):=by
 rw [aL M hE.morph_Check rfl (c:=x5) rfl,x5]
 have hf:=Qt M hE (tg:=.full) (H:=H++[.cells l.row aq,.cells l.row bv])
  (l:=[⟨j5,[.agg l.row],[],Qo l⟩,⟨qZ,[],[.ptr H.length 0,.ptr (H.length+1) 0],yk l⟩,⟨ra,[],[.ptr H.length 0,.ptr (H.length+1) 0],tO l⟩,
   ⟨rb,[],[.ptr H.length 0,.ptr (H.length+1) 0],wB l⟩,⟨rc,[],[.ptr H.length 0,.ptr (H.length+1) 0],yl l⟩,⟨re,[],[.ptr H.length 0,.ptr (H.length+1) 0],AN l⟩]) (by simp [aY]) (by
  have h0:(H++[ag.cells l.row aq,.cells l.row bv])[H.length]?=some (.cells l.row aq):=by rw [cf];rfl
  have h1:(H++[ag.cells l.row aq,.cells l.row bv])[H.length+1]?=some (.cells l.row bv):=by rw [hp_getk];rfl
  have h2:n≤(H++[ag.cells l.row aq,.cells l.row bv]).length:=by simp;omega
  intro x hx
  simp only [List.mem_cons,List.not_mem_nil,or_false] at hx
  rcases hx with rfl | rfl | rfl | rfl | rfl | rfl
  ·exact Oi M hN hE hl _
  ·exact M6 M hN hE hl h2 h0 h1
  ·exact M7 M hN hE hl h2 h0 h1
  ·exact M8 M hN hE hl h2 h0 h1
  ·exact M9 M hN hE hl h2 h0 h1
  ·exact Na M hN hE hl h2 h0 h1)
 simp only [List.map_cons,List.map_nil,Clo.row] at hf
 simp (maxSteps:=3000000) (maxDischargeDepth:=6) +contextual -implicitDefEqProofs only [amA M,amB,↓ae,↓aa,↓aj,↓ah,Nat.reduceBEq,Nat.reduceAdd,env,am,JP,amG,AV.cell,Nat.reduceMul,Nat.reduceLeDiff,hf,br]
 rfl
end
section
attribute [local congr] aP dR bF aQ bq aZ aR aE aF a6 a7
variable{E:bL}(M:dK dW E)
structure tm (E:bL):Prop where
 truchmanref02_trait:E.fn kK=some ec
 truchmanref02_Class:E.fn eW=some eb
 truchmanref02_in:E.fn kq=some fy
 truchmanref02_bundle:E.fn fJ=some dS
 truchmanref02_traits:E.fn mX=some cI
 truchmanref02_classes:E.fn lY=some co
 truchmanref02_Unify:E.fn i5=some b4
 truchmanref02_entries:E.fn lZ=some a8
 truchmanref02_Check:E.fn gh=some bZ
theorem Pp{H H0:List ag}{l:Lex}{n0:Nat}(hl:l.ok n0){v:Str}{p:Nat}{T:TypeId}(hp:H[p]?=some (.cells l.row T))(hc:bP H0 H)(k:List Fra):∀ (n i:Nat) (He:List ag),i+n=(l.traits.l).length →
  M.go ec H0 (.c im :: .lp ⟨(some [1,2,5]),[],false⟩ im He :: .blk 0 :: .c (.lv [])::k) (kv [(1,.str v),(2,.ptr p 0),(5,.int .i64 i)]) H =
   orE (bE (xc fun t=>t.name == v) i (l.traits.l.drop i)) (H.take H0.length) (M.go ec H0 k .leaf H)
 |0,i,He,h=>by
  have e:i=(l.traits.l).length:=by omega
  subst e
  rw [ao M im.eq_1]
  simp (maxSteps:=3000000) (maxDischargeDepth:=6) +contextual -implicitDefEqProofs only [amA M,amB,↓ae,↓aa,↓aj,↓ah,Nat.reduceBEq,Nat.reduceAdd,env,am,oW,Nat.lt_irrefl,List.drop_length,br,hp]
 |n+1,i,He,h=>by
  have hi:i<(l.traits.l).length:=by omega
  have hx:(l.traits.l)[i]?=some (l.traits.l)[i]:=List.getElem?_eq_getElem hi
  have hd:((l.traits.l).drop i)=(l.traits.l)[i]::(l.traits.l).drop (i+1):=List.drop_eq_getElem_cons hi
  have hm:(l.traits.l)[i]∈(l.traits.l):=List.getElem_mem hi
  have ih:=fun He=>Pp (H:=H) (H0:=H0) (l:=l) (n0:=n0) (hl:=hl) (v:=v) (p:=p) (T:=T) (hp:=hp) hc k n (i+1)  He (by omega)
  simp only [kv_cons,kv_nil] at ih
  rw [ao M im.eq_1]
  simp (maxSteps:=3000000) (maxDischargeDepth:=6) +contextual -implicitDefEqProofs only [amA M,amB,↓ae,↓aa,↓aj,↓ah,Nat.reduceBEq,Nat.reduceAdd,env,am,oW,hx,hd,hi,ih,bn hi hl.traits.len,aA hi,br,oo,hp,xc,hc]
theorem I5(hR:tm E){l:Lex}{n:Nat}(hl:l.ok n)(v:Str)(H:List ag):M.run kK [.agg l.row,.str v] H=some (.ret (.int .i64 (qn (fun t=>t.name == v) 0 l.traits.l)),H):=by
 rw [aL M hR.truchmanref02_trait rfl (c:=oV) rfl,oV]
 have h1:=fun k He=>Pp M (H:=H++[.cells l.row aq]) hl (v:=v) (p:=H.length) (T:=aq) (by rw [cf];rfl) (cut_app H _) k l.traits.l.length 0 He (by omega)
 simp only [kv_cons,kv_nil,Int.ofNat_zero,List.drop_zero] at h1
 simp (maxSteps:=3000000) (maxDischargeDepth:=6) +contextual -implicitDefEqProofs only [amA M,amB,↓ae,↓aa,↓aj,↓ah,Nat.reduceBEq,Nat.reduceAdd,env,am,oW,h1,cut_app]
 exact mC _ _ 0 H
theorem Pq{H H0:List ag}{l:Lex}{n0:Nat}(hl:l.ok n0){v:Str}{p:Nat}{T:TypeId}(hp:H[p]?=some (.cells l.row T))(hc:bP H0 H)(k:List Fra):∀ (n i:Nat) (He:List ag),i+n=(l.classes.l).length →
  M.go eb H0 (.c ik :: .lp ⟨(some [1,2,5]),[],false⟩ ik He :: .blk 0 :: .c (.lv [])::k) (kv [(1,.str v),(2,.ptr p 0),(5,.int .i64 i)]) H =
   orE (bE (xc fun t=>t.name == v) i (l.classes.l.drop i)) (H.take H0.length) (M.go eb H0 k .leaf H)
 |0,i,He,h=>by
  have e:i=(l.classes.l).length:=by omega
  subst e
  rw [ao M ik.eq_1]
  simp (maxSteps:=3000000) (maxDischargeDepth:=6) +contextual -implicitDefEqProofs only [amA M,amB,↓ae,↓aa,↓aj,↓ah,Nat.reduceBEq,Nat.reduceAdd,env,am,oS,Nat.lt_irrefl,List.drop_length,br,hp]
 |n+1,i,He,h=>by
  have hi:i<(l.classes.l).length:=by omega
  have hx:(l.classes.l)[i]?=some (l.classes.l)[i]:=List.getElem?_eq_getElem hi
  have hd:((l.classes.l).drop i)=(l.classes.l)[i]::(l.classes.l).drop (i+1):=List.drop_eq_getElem_cons hi
  have hm:(l.classes.l)[i]∈(l.classes.l):=List.getElem_mem hi
  have ih:=fun He=>Pq (H:=H) (H0:=H0) (l:=l) (n0:=n0) (hl:=hl) (v:=v) (p:=p) (T:=T) (hp:=hp) hc k n (i+1)  He (by omega)
  simp only [kv_cons,kv_nil] at ih
  rw [ao M ik.eq_1]
  simp (maxSteps:=3000000) (maxDischargeDepth:=6) +contextual -implicitDefEqProofs only [amA M,amB,↓ae,↓aa,↓aj,↓ah,Nat.reduceBEq,Nat.reduceAdd,env,am,oS,hx,hd,hi,ih,bn hi hl.classes.len,aA hi,br,gL,hp,xc,hc]
theorem wC(hR:tm E){l:Lex}{n:Nat}(hl:l.ok n)(v:Str)(H:List ag):M.run eW [.agg l.row,.str v] H=some (.ret (.int .i64 (qn (fun t=>t.name == v) 0 l.classes.l)),H):=by
 rw [aL M hR.truchmanref02_Class rfl (c:=oR) rfl,oR]
 have h1:=fun k He=>Pq M (H:=H++[.cells l.row aq]) hl (v:=v) (p:=H.length) (T:=aq) (by rw [cf];rfl) (cut_app H _) k l.classes.l.length 0 He (by omega)
 simp only [kv_cons,kv_nil,Int.ofNat_zero,List.drop_zero] at h1
 simp (maxSteps:=3000000) (maxDischargeDepth:=6) +contextual -implicitDefEqProofs only [amA M,amB,↓ae,↓aa,↓aj,↓ah,Nat.reduceBEq,Nat.reduceAdd,env,am,oS,h1,cut_app]
 exact mC _ _ 0 H
def inF(v:Str):Nat→Str→Option AV:=fun _ s=>sel (v == s) (some (.bool true)) none
theorem Nb(v:Str):∀ (l:List Str) (i:Nat) (H:List ag),orE (bE (inF v) i l) H (some (.ret (.bool false),H))=some (.ret (.bool (l.any fun s=>v == s)),H)
 |[],_,_=>rfl
 |s::l,i,H=>by
  rw [iV,inF,List.any_cons,CN,xJ,y7,y8,ue,Nb v l]
  cases v == s<;>rfl
theorem AO(a b:Str):(a == b)=(b == a):=BEq.comm
theorem UM{H H0:List ag}{v:Str}{tg:Tag}{l:List Str}(hs:l.length≤aY)(hc:bP H0 H)(k:List Fra):∀ (n i:Nat) (He:List ag),i+n=l.length →
  M.go fy H0 (.c jr :: .lp ⟨(some [0,1,5]),[],false⟩ jr He :: .blk 0 :: .c (.lv [])::k) (kv [(0,.slice tg 1 (l.map d9)),(1,.str v),(5,.int .i64 i)]) H =
   orE (bE (inF v) i (l.drop i)) (H.take H0.length) (M.go fy H0 k .leaf H)
 |0,i,He,h=>by
  have e:i=l.length:=by omega
  subst e
  rw [ao M jr.eq_1]
  simp (maxSteps:=3000000) (maxDischargeDepth:=6) +contextual -implicitDefEqProofs only [amA M,amB,↓ae,↓aa,↓aj,↓ah,Nat.reduceBEq,Nat.reduceAdd,env,am,rk,Nat.lt_irrefl,List.drop_length]
 |n+1,i,He,h=>by
  have hi:i<l.length:=by omega
  have hx:l[i]?=some l[i]:=List.getElem?_eq_getElem hi
  have hd:(l.drop i)=l[i]::l.drop (i+1):=List.drop_eq_getElem_cons hi
  have hm:l[i]∈l:=List.getElem_mem hi
  have ih:=fun He=>UM (H:=H) (H0:=H0) (v:=v) (tg:=tg) (l:=l) (hs:=hs) hc k n (i+1)  He (by omega)
  simp only [kv_cons,kv_nil] at ih
  rw [ao M jr.eq_1]
  simp (maxSteps:=3000000) (maxDischargeDepth:=6) +contextual -implicitDefEqProofs only [amA M,amB,↓ae,↓aa,↓aj,↓ah,Nat.reduceBEq,Nat.reduceAdd,env,am,rk,hx,hd,hi,ih,bn hi hs,aA hi,JK,inF,hc,AO v]
theorem HP(hR:tm E){v:Str}{tg:Tag}{l:List Str}(hs:l.length≤aY)(H:List ag):M.run kq [.slice tg 1 (l.map d9),.str v] H=some (.ret (.bool (l.any fun s=>v == s)),H):=by
 rw [aL M hR.truchmanref02_in rfl (c:=rj) rfl,rj]
 have h1:=fun k He=>UM M (tg:=tg) (v:=v) hs (cut_refl H) k l.length 0 He (by omega)
 simp only [kv_cons,kv_nil,Int.ofNat_zero,List.drop_zero] at h1
 simp (maxSteps:=3000000) (maxDischargeDepth:=6) +contextual -implicitDefEqProofs only [amA M,amB,↓ae,↓aa,↓aj,↓ah,Nat.reduceBEq,Nat.reduceAdd,env,am,rk,h1]
 exact Nb _ _ 0 H
theorem rbl{H H0:List ag}(hR:tm E){l:Lex}{n0:Nat}(hl:l.ok n0){b:List au}{tg:Tag}(hb:b.length≤aY){p:Nat}{T:TypeId}(hp:H[p]?=some (.cells l.row T))(hc:bP H0 H)(k:List Fra):∀ (n i:Nat) (He:List ag),i+n=b.length →
  M.go dS H0 (.c dY :: .lp ⟨(some [1,2,5]),[],false⟩ dY He :: .blk 0 :: .c (.lv [])::k) (kv [(1,.slice tg 2 (b.map au.row)),(2,.ptr p 0),(5,.int .i64 i)]) H =
   orE (bE (pL (I4 l b)) i (b.drop i)) (H.take H0.length) (M.go dS H0 k .leaf H)
 |0,i,He,h=>by
  have e:i=b.length:=by omega
  subst e
  rw [ao M dY.eq_1]
  simp (maxSteps:=3000000) (maxDischargeDepth:=6) +contextual -implicitDefEqProofs only [amA M,amB,↓ae,↓aa,↓aj,↓ah,Nat.reduceBEq,Nat.reduceAdd,env,am,iE,Nat.lt_irrefl,List.drop_length]
 |n+1,i,He,h=>by
  have hi:i<b.length:=by omega
  have hx:b[i]?=some b[i]:=List.getElem?_eq_getElem hi
  have hd:(b.drop i)=b[i]::b.drop (i+1):=List.drop_eq_getElem_cons hi
  have hm:b[i]∈b:=List.getElem_mem hi
  have ih:=fun He=>rbl (H:=H) (H0:=H0) (hR:=hR) (l:=l) (n0:=n0) (hl:=hl) (b:=b) (tg:=tg) (hb:=hb) (p:=p) (T:=T) (hp:=hp) hc k n (i+1)  He (by omega)
  simp only [kv_cons,kv_nil] at ih
  have hcf:=fun H=>I5 M hR hl b[i].name H
  rcases nL (fun t:bA=>t.name == b[i].name) l.traits.l 0 with ⟨h1,h2⟩ | ⟨j,t,h1,h2,h3⟩
  ·rw [h1] at hcf
   rw [ao M dY.eq_1]
   simp (maxSteps:=3000000) (maxDischargeDepth:=6) +contextual -implicitDefEqProofs only [amA M,amB,↓ae,↓aa,↓aj,↓ah,Nat.reduceBEq,Nat.reduceAdd,env,am,iE,hx,hd,hi,ih,hcf,br,mL,hp,aA hi,lr,I4,h2,S7,qE,hc]
  ·rw [h1,Nat.zero_add] at hcf
   have hj:j<l.traits.l.length:=(List.getElem?_eq_some_iff.1 h2).1
   have htm:t∈l.traits.l:=List.mem_of_getElem? h2
   cases i with
   |zero=>
    rw [ao M dY.eq_1]
    simp (maxSteps:=3000000) (maxDischargeDepth:=6) +contextual -implicitDefEqProofs only [amA M,amB,↓ae,↓aa,↓aj,↓ah,Nat.reduceBEq,Nat.reduceAdd,env,am,iE,hx,hd,hi,ih,hcf,br,mL,oo,hp,aA hi,Rx hi,lr,I4,h2,h3,HA,UK,Eg,qE,hc,aA hj,HP M hR (hl.traits.all t htm).values.len,bn hi hb]
   |succ i=>
    have hx1:b[i]?=some b[i]:=List.getElem?_eq_getElem (by omega)
    rw [ao M dY.eq_1]
    simp (maxSteps:=3000000) (maxDischargeDepth:=6) +contextual -implicitDefEqProofs only [amA M,amB,↓ae,↓aa,↓aj,↓ah,Nat.reduceBEq,Nat.reduceAdd,env,am,iE,hx,hd,hi,ih,hcf,br,mL,oo,hp,aA hi,lr,I4,h2,h3,HA,UL,pM hx1,hx1,aA (show i<b.length by omega),F4 (show i+1≤aY by omega),qE,hc,aA hj,HP M hR (hl.traits.all t htm).values.len,bn hi hb]
theorem pN(hR:tm E){l:Lex}{b:List au}{tg:Tag}{n:Nat}(hl:l.ok n)(hb:b.length≤aY)(H:List ag) :
  M.run fJ [.agg l.row,.slice tg 2 (b.map au.row)] H=some (.ret (.int .u8 (kN l b)),H):=by
 rw [aL M hR.truchmanref02_bundle rfl (c:=nn) rfl,nn]
 have h1:=fun k He=>rbl M hR (H:=H++[.cells l.row aq]) hl (tg:=tg) hb (p:=H.length) (T:=aq) (by rw [cf];rfl) (cut_app H _) k b.length 0 He (by omega)
 simp only [kv_cons,kv_nil,Int.ofNat_zero,List.drop_zero] at h1
 simp (maxSteps:=3000000) (maxDischargeDepth:=6) +contextual -implicitDefEqProofs only [amA M,amB,↓ae,↓aa,↓aj,↓ah,Nat.reduceBEq,Nat.reduceAdd,env,am,iE,h1,cut_app,rr,pi,kN,lS]
end
section
attribute [local congr] aP dR bF aQ bq aZ aR aE aF a6 a7
variable{E:bL}(M:dK dW E)
theorem RP{α:Type}{p:α→Bool}:∀ {l:List α}{i:Nat}{x:α},l[i]?=some x→p x=true→∀ s:Nat,decide (qn p s l<((s+i:Nat):Int))=(l.take i).any p
 |[],_,_,h,_,_=>by simp at h
 |y::l,0,x,h,hp,s=>by
  obtain rfl:y=x:=by simpa using h
  simp only [qn,hp,sel,List.take_zero,List.any_nil,Nat.add_zero]
  exact decide_eq_false (by omega)
 |y::l,i+1,x,h,hp,s=>by
  rw [List.take_succ_cons,List.any_cons,qn]
  cases hy:p y with
  |true=>simp only [sel,Bool.true_or];exact decide_eq_true (by omega)
  |false=>
   have:=RP (l:=l) (i:=i) (x:=x) (by simpa using h) hp (s+1)
   rw [Bool.false_or,← this]
   simp only [sel]
   congr 2
   omega
theorem Ps{α:Type}{p:α→Bool}{l:List α}{i:Nat}{x:α}(h:l[i]?=some x)(hp:p x=true):decide (qn p 0 l<(i:Int))=(l.take i).any p:=by
 have:=RP h hp 0
 rwa [Nat.zero_add] at this
theorem rtv{H H0:List ag}(hN:bp E)(hR:tm E){t:bA}{n0:Nat}(ht:t.ok n0){p q:Nat}{T:TypeId}(hq:H[q]?=some (.cells t.row T)){i0:Nat}(hc:bP H0 H)(k:List Fra):∀ (n i:Nat) (He:List ag),i+n=(t.values.l).length →
  M.go cI H0 (.c gz :: .lp ⟨(some [1,3,4,5]),[],false⟩ gz He :: .blk 3 :: .c (.lv [1,3])::k) (kv [(1,.ptr p 0),(3,.int .i64 i0),(4,.ptr q 0),(5,.int .i64 i)]) H =
   orE (bE (pL (RN t)) i (t.values.l.drop i)) (H.take H0.length) (M.go cI H0 k (kv [(1,.ptr p 0),(3,.int .i64 i0)]) H)
 |0,i,He,h=>by
  have e:i=(t.values.l).length:=by omega
  subst e
  rw [ao M gz.eq_1]
  simp (maxSteps:=3000000) (maxDischargeDepth:=6) +contextual -implicitDefEqProofs only [amA M,amB,↓ae,↓aa,↓aj,↓ah,Nat.reduceBEq,Nat.reduceAdd,env,am,iG,Nat.lt_irrefl,List.drop_length,oo,hq]
 |n+1,i,He,h=>by
  have hi:i<(t.values.l).length:=by omega
  have hx:(t.values.l)[i]?=some (t.values.l)[i]:=List.getElem?_eq_getElem hi
  have hd:((t.values.l).drop i)=(t.values.l)[i]::(t.values.l).drop (i+1):=List.drop_eq_getElem_cons hi
  have hm:(t.values.l)[i]∈(t.values.l):=List.getElem_mem hi
  have ih:=fun He=>rtv (H:=H) (H0:=H0) (hN:=hN) (hR:=hR) (t:=t) (n0:=n0) (ht:=ht) (p:=p) (q:=q) (T:=T) (hq:=hq) (i0:=i0) hc k n (i+1)  He (by omega)
  simp only [kv_cons,kv_nil] at ih
  rw [ao M gz.eq_1]
  simp (maxSteps:=3000000) (maxDischargeDepth:=6) +contextual -implicitDefEqProofs only [amA M,amB,↓ae,↓aa,↓aj,↓ah,Nat.reduceBEq,Nat.reduceAdd,env,am,iG,hx,hd,hi,ih,bn hi ht.values.len,aA hi,oo,JK,hq,Gr M hN (ht.values.all _ hm),F3 hi,HP M hR (y9 ht.values.len i),lr,RN,qE,hc]
theorem rtr{H H0:List ag}(hN:bp E)(hR:tm E){l:Lex}{n0:Nat}(hl:l.ok n0){p:Nat}{T:TypeId}(hp:H[p]?=some (.cells l.row T))(hc:bP H0 H)(k:List Fra):∀ (n i:Nat),i+n=(l.traits.l).length →
  M.go cI H0 (.c gA :: .lp ⟨(some [1,3]),[],true⟩ gA H :: .blk 0 :: .c (.lv [])::k) (kv [(1,.ptr p 0),(3,.int .i64 i)]) H =
   orE (bE (pL (Gs l)) i (l.traits.l.drop i)) (H.take H0.length) (M.go cI H0 k .leaf H)
 |0,i,h=>by
  have e:i=(l.traits.l).length:=by omega
  subst e
  rw [ao M gA.eq_1]
  simp (maxSteps:=3000000) (maxDischargeDepth:=6) +contextual -implicitDefEqProofs only [amA M,amB,↓ae,↓aa,↓aj,↓ah,Nat.reduceBEq,Nat.reduceAdd,env,am,iG,Nat.lt_irrefl,List.drop_length,br,hp]
 |n+1,i,h=>by
  have hi:i<(l.traits.l).length:=by omega
  have hx:(l.traits.l)[i]?=some (l.traits.l)[i]:=List.getElem?_eq_getElem hi
  have hd:((l.traits.l).drop i)=(l.traits.l)[i]::(l.traits.l).drop (i+1):=List.drop_eq_getElem_cons hi
  have hm:(l.traits.l)[i]∈(l.traits.l):=List.getElem_mem hi
  have ih:=rtr (H:=H) (H0:=H0) (hN:=hN) (hR:=hR) (l:=l) (n0:=n0) (hl:=hl) (p:=p) (T:=T) (hp:=hp) hc k n (i+1)  (by omega)
  simp only [kv_cons,kv_nil] at ih
  have hp':=fun L=>bS (L:=L) hp
  have w1:Wk H.length (.ptr p 0) (.ptr p 0):=wk_ptr (List.getElem?_eq_some_iff.1 hp).1
  have ht:=hl.traits.all _ hm
  have h0:=fun k He=>rtv M (H:=H++[.cells l.traits.l[i].row gf]) (H0:=H0) hN hR ht (p:=p) (q:=H.length) (T:=gf) (by rw [cf];rfl) (i0:=i) (sb hc _) k l.traits.l[i].values.l.length 0 He (by omega)
  simp only [kv_cons,kv_nil,Int.ofNat_zero,List.drop_zero] at h0
  rw [ao M gA.eq_1]
  simp (maxSteps:=3000000) (maxDischargeDepth:=6) +contextual -implicitDefEqProofs only [amA M,amB,↓ae,↓aa,↓aj,↓ah,Nat.reduceBEq,Nat.reduceAdd,env,am,iG,hx,hd,hi,ih,amG,AV.cell,hp,hp',w1,h0,bn hi hl.traits.len,aA hi,br,oo,Gr M hN ht.name,I5 M hR hl,Ps (p:=fun t:bA=>t.name == l.traits.l[i].name) hx (by simp),lr,Gs,qE,Fw,hc]
theorem G2(hN:bp E)(hR:tm E){l:Lex}{n:Nat}(hl:l.ok n)(H:List ag):M.run mX [.agg l.row] H=some (.ret (.int .u8 (yk l)),H):=by
 rw [aL M hR.truchmanref02_traits rfl (c:=np) rfl,np]
 have h1:=fun k=>rtr M hN hR (H:=H++[.cells l.row aq]) hl (p:=H.length) (T:=aq) (by rw [cf];rfl) (cut_app H _) k l.traits.l.length 0 (by omega)
 simp only [kv_cons,kv_nil,Int.ofNat_zero,List.drop_zero] at h1
 simp (maxSteps:=3000000) (maxDischargeDepth:=6) +contextual -implicitDefEqProofs only [amA M,amB,↓ae,↓aa,↓aj,↓ah,Nat.reduceBEq,Nat.reduceAdd,env,am,iG,h1,br,cut_app,rr,pi,yk,lS]
theorem Gt(s:Str):(!qp jd s)=(!ofF [] s||decide (6<(s.length:Int))):=by
 rw [HO,qp]
 cases s.all jd with
 |false=>simp
 |true=>simp only [Bool.and_true,Bool.not_true,Bool.false_or];rw [Bool.eq_iff_iff];simp
theorem rcs{H H0:List ag}(hN:bp E)(hR:tm E){l:Lex}{c:aW}{n0:Nat}(hl:l.ok n0)(hco:c.ok n0){p q:Nat}{T T2:TypeId}(hp:H[p]?=some (.cells l.row T))(hq:H[q]?=some (.cells c.row T2)){i0:Nat}(hc:bP H0 H)(k:List Fra):∀ (n i:Nat),i+n=(c.slots.l).length →
  M.go co H0 (.c fT :: .lp ⟨(some [1,3,4,5]),[],true⟩ fT H :: .blk 3 :: .c (.lv [1,3])::k) (kv [(1,.ptr p 0),(3,.int .i64 i0),(4,.ptr q 0),(5,.int .i64 i)]) H =
   orE (bE (pL fun _ s=>Cq l s) i (c.slots.l.drop i)) (H.take H0.length) (M.go co H0 k (kv [(1,.ptr p 0),(3,.int .i64 i0)]) H)
 |0,i,h=>by
  have e:i=(c.slots.l).length:=by omega
  subst e
  rw [ao M fT.eq_1]
  simp (maxSteps:=3000000) (maxDischargeDepth:=6) +contextual -implicitDefEqProofs only [amA M,amB,↓ae,↓aa,↓aj,↓ah,Nat.reduceBEq,Nat.reduceAdd,env,am,ij,Nat.lt_irrefl,List.drop_length,gL,hq]
 |n+1,i,h=>by
  have hi:i<(c.slots.l).length:=by omega
  have hx:(c.slots.l)[i]?=some (c.slots.l)[i]:=List.getElem?_eq_getElem hi
  have hd:((c.slots.l).drop i)=(c.slots.l)[i]::(c.slots.l).drop (i+1):=List.drop_eq_getElem_cons hi
  have hm:(c.slots.l)[i]∈(c.slots.l):=List.getElem_mem hi
  have ih:=rcs (H:=H) (H0:=H0) (hN:=hN) (hR:=hR) (l:=l) (c:=c) (n0:=n0) (hl:=hl) (hco:=hco) (p:=p) (q:=q) (T:=T) (T2:=T2) (hp:=hp) (hq:=hq) (i0:=i0) hc k n (i+1)  (by omega)
  simp only [kv_cons,kv_nil] at ih
  have hp':=fun L=>bS (L:=L) hp
  have hq':=fun L=>bS (L:=L) hq
  have w1:Wk H.length (.ptr p 0) (.ptr p 0):=wk_ptr (List.getElem?_eq_some_iff.1 hp).1
  have w2:Wk H.length (.ptr q 0) (.ptr q 0):=wk_ptr (List.getElem?_eq_some_iff.1 hq).1
  have hs:=hco.slots.all _ hm
  have e1:Cq l c.slots.l[i]=sel (decide (c.slots.l[i].cut<0)||(decide (24<c.slots.l[i].cut)||(!ofF [] c.slots.l[i].pre||(decide (6<(c.slots.l[i].pre.length:Int))||(!ofF [] c.slots.l[i].add||decide (6<(c.slots.l[i].add.length:Int))))))) 1 (kN l c.slots.l[i].feats.l):=by
   rw [Cq,Gt,Gt];simp only [Bool.or_assoc]
  rw [ao M fT.eq_1]
  simp (maxSteps:=3000000) (maxDischargeDepth:=6) +contextual -implicitDefEqProofs only [amA M,amB,↓ae,↓aa,↓aj,↓ah,Nat.reduceBEq,Nat.reduceAdd,env,am,ij,hx,hd,hi,ih,amG,AV.cell,hp,hq,hp',hq',w1,w2,bn hi hco.slots.len,aA hi,br,gL,gO,AG M hN hs.pre (more:=[]) (by simp),AG M hN hs.add (more:=[]) (by simp),pN M hR hl hs.feats.len,lr,e1,Bool.or_assoc,qE,LO,hc]
theorem UN{H H0:List ag}(hN:bp E)(hR:tm E){l:Lex}{n0:Nat}(hl:l.ok n0){p:Nat}{T:TypeId}(hp:H[p]?=some (.cells l.row T))(hc:bP H0 H)(k:List Fra):∀ (n i:Nat),i+n=(l.classes.l).length →
  M.go co H0 (.c fU :: .lp ⟨(some [1,3]),[],true⟩ fU H :: .blk 0 :: .c (.lv [])::k) (kv [(1,.ptr p 0),(3,.int .i64 i)]) H =
   orE (bE (pL (AM l)) i (l.classes.l.drop i)) (H.take H0.length) (M.go co H0 k .leaf H)
 |0,i,h=>by
  have e:i=(l.classes.l).length:=by omega
  subst e
  rw [ao M fU.eq_1]
  simp (maxSteps:=3000000) (maxDischargeDepth:=6) +contextual -implicitDefEqProofs only [amA M,amB,↓ae,↓aa,↓aj,↓ah,Nat.reduceBEq,Nat.reduceAdd,env,am,ij,Nat.lt_irrefl,List.drop_length,br,hp]
 |n+1,i,h=>by
  have hi:i<(l.classes.l).length:=by omega
  have hx:(l.classes.l)[i]?=some (l.classes.l)[i]:=List.getElem?_eq_getElem hi
  have hd:((l.classes.l).drop i)=(l.classes.l)[i]::(l.classes.l).drop (i+1):=List.drop_eq_getElem_cons hi
  have hm:(l.classes.l)[i]∈(l.classes.l):=List.getElem_mem hi
  have ih:=UN (H:=H) (H0:=H0) (hN:=hN) (hR:=hR) (l:=l) (n0:=n0) (hl:=hl) (p:=p) (T:=T) (hp:=hp) hc k n (i+1)  (by omega)
  simp only [kv_cons,kv_nil] at ih
  have hp':=fun L=>bS (L:=L) hp
  have w1:Wk H.length (.ptr p 0) (.ptr p 0):=wk_ptr (List.getElem?_eq_some_iff.1 hp).1
  have ht:=hl.classes.all _ hm
  have h0:=fun k=>rcs M (H:=H++[.cells l.classes.l[i].row b6]) (H0:=H0) hN hR hl ht (p:=p) (q:=H.length) (T:=T) (T2:=b6) (hp' _) (by rw [cf];rfl) (i0:=i) (sb hc _) k l.classes.l[i].slots.l.length 0 (by omega)
  simp only [kv_cons,kv_nil,Int.ofNat_zero,List.drop_zero] at h0
  rw [ao M fU.eq_1]
  simp (maxSteps:=3000000) (maxDischargeDepth:=6) +contextual -implicitDefEqProofs only [amA M,amB,↓ae,↓aa,↓aj,↓ah,Nat.reduceBEq,Nat.reduceAdd,env,am,ij,hx,hd,hi,ih,amG,AV.cell,hp,hp',w1,h0,bn hi hl.classes.len,aA hi,br,gL,Gr M hN ht.name,wC M hR hl,Ps (p:=fun t:aW=>t.name == l.classes.l[i].name) hx (by simp),lr,AM,qE,Fw,lS,hc]
theorem Fy(hN:bp E)(hR:tm E){l:Lex}{n:Nat}(hl:l.ok n)(H:List ag):M.run lY [.agg l.row] H=some (.ret (.int .u8 (tO l)),H):=by
 rw [aL M hR.truchmanref02_classes rfl (c:=md) rfl,md]
 have h1:=fun k=>UN M hN hR (H:=H++[.cells l.row aq]) hl (p:=H.length) (T:=aq) (by rw [cf];rfl) (cut_app H _) k l.classes.l.length 0 (by omega)
 simp only [kv_cons,kv_nil,Int.ofNat_zero,List.drop_zero] at h1
 simp (maxSteps:=3000000) (maxDischargeDepth:=6) +contextual -implicitDefEqProofs only [amA M,amB,↓ae,↓aa,↓aj,↓ah,Nat.reduceBEq,Nat.reduceAdd,env,am,ij,h1,br,cut_app,rr,pi,tO,lS]
end
section
attribute [local congr] aP dR bF aQ bq aZ aR aE aF a6 a7
variable{E:bL}(M:dK dW E)
def qO(p:au):List au→Bool
 |[]=>true
 |x::l=>Op.bytesLess p.name x.name&&qO x l
def uW:List au→Bool
 |[]=>true
 |x::l=>qO x l
def noU:AV:=.tuple [.slice .any 2 [],.bool false]
def Ol(b:List au):Nat→au→Option AV:=fun i x=>sel (Eg b (fun g => !Op.bytesLess g.name x.name) i) (some noU) none
theorem KM(b:List au):∀ (l:List au) (i:Nat) (f:au),b[i]?=some f→b.drop (i+1)=l→bE (Ol b) (i+1) l=sel (qO f l) none (some noU)
 |[],i,f,_,_=>rfl
 |x::l,i,f,h,hd=>by
  have h2:b[i+1]?=some x:=by
   have:=List.getElem?_drop (xs:=b) (i:=i+1) (j:=0)
   rw [hd] at this;simpa using this.symm
  have hd2:b.drop (i+1+1)=l:=by
   have:(b.drop (i+1)).drop 1=l:=by rw [hd];rfl
   rwa [List.drop_drop] at this
  rw [iV,KM b l (i+1) x h2 hd2,Ol,pM h,qO]
  cases Op.bytesLess f.name x.name<;>cases qO x l<;>rfl
theorem Om(b:List au)(H:List ag)(x:Option Out):orE (bE (Ol b) 1 (b.drop 1)) H x=sel (uW b) x (some (.ret noU,H)):=by
 cases b with
 |nil=>rfl
 |cons f l=>
  rw [show List.drop 1 (f::l)=l from rfl,KM (f::l) l 0 f rfl rfl,uW]
  cases qO f l<;>rfl
theorem UO{H H0:List ag}{a b:Sl au}(ha:a.l.length≤aY)(hb:b.l.length≤aY)(hc:bP H0 H)(k:List Fra):∀ (n i:Nat) (h1:1≤i) (He:List ag),(a.l).length-i=n →
  M.go b4 H0 (.c ip :: .lp ⟨(some [0,1,6]),[],false⟩ ip He :: .blk 0 :: .c (.lv [0,1])::k) (kv [(0,.slice a.tag 2 (a.l.map au.row)),(1,.slice b.tag 2 (b.l.map au.row)),(6,.int .i64 i)]) H =
   orE (bE (Ol a.l) i (a.l.drop i)) (H.take H0.length) (M.go b4 H0 k (kv [(0,.slice a.tag 2 (a.l.map au.row)),(1,.slice b.tag 2 (b.l.map au.row))]) H)
 |0,i,h1,He,h=>by
  have e:¬ i<(a.l).length:=by omega
  have e2:(a.l).drop i=[]:=List.drop_of_length_le (by omega)
  rw [ao M ip.eq_1]
  simp (maxSteps:=3000000) (maxDischargeDepth:=6) +contextual -implicitDefEqProofs only [amA M,amB,↓ae,↓aa,↓aj,↓ah,Nat.reduceBEq,Nat.reduceAdd,env,am,bK,e,e2]
 |n+1,i,h1,He,h=>by
  have hi:i<(a.l).length:=by omega
  have hx:(a.l)[i]?=some (a.l)[i]:=List.getElem?_eq_getElem hi
  have hd:((a.l).drop i)=(a.l)[i]::(a.l).drop (i+1):=List.drop_eq_getElem_cons hi
  have hm:(a.l)[i]∈(a.l):=List.getElem_mem hi
  have ih:=fun h1 He=>UO (H:=H) (H0:=H0) (a:=a) (b:=b) (ha:=ha) (hb:=hb) hc k n (i+1) h1 He (by omega)
  simp only [kv_cons,kv_nil] at ih
  have ih:=ih (by omega)
  cases i with
  |zero=>omega
  |succ i=>
   have hx1:a.l[i]?=some a.l[i]:=List.getElem?_eq_getElem (by omega)
   rw [ao M ip.eq_1]
   simp (maxSteps:=3000000) (maxDischargeDepth:=6) +contextual -implicitDefEqProofs only [amA M,amB,↓ae,↓aa,↓aj,↓ah,Nat.reduceBEq,Nat.reduceAdd,env,am,bK,hx,hd,hi,ih,mL,hx1,aA hi,aA (show i<a.l.length by omega),F4 (show i+1≤aY by omega),bn hi ha,Ol,pM hx1,hc,noU,ed]
theorem UP{H H0:List ag}{a b:Sl au}(ha:a.l.length≤aY)(hb:b.l.length≤aY)(hc:bP H0 H)(k:List Fra):∀ (n i:Nat) (h1:1≤i) (He:List ag),(b.l).length-i=n →
  M.go b4 H0 (.c iq :: .lp ⟨(some [0,1,7]),[],false⟩ iq He :: .blk 2 :: .c (.lv [0,1])::k) (kv [(0,.slice a.tag 2 (a.l.map au.row)),(1,.slice b.tag 2 (b.l.map au.row)),(7,.int .i64 i)]) H =
   orE (bE (Ol b.l) i (b.l.drop i)) (H.take H0.length) (M.go b4 H0 k (kv [(0,.slice a.tag 2 (a.l.map au.row)),(1,.slice b.tag 2 (b.l.map au.row))]) H)
 |0,i,h1,He,h=>by
  have e:¬ i<(b.l).length:=by omega
  have e2:(b.l).drop i=[]:=List.drop_of_length_le (by omega)
  rw [ao M iq.eq_1]
  simp (maxSteps:=3000000) (maxDischargeDepth:=6) +contextual -implicitDefEqProofs only [amA M,amB,↓ae,↓aa,↓aj,↓ah,Nat.reduceBEq,Nat.reduceAdd,env,am,bK,e,e2]
 |n+1,i,h1,He,h=>by
  have hi:i<(b.l).length:=by omega
  have hx:(b.l)[i]?=some (b.l)[i]:=List.getElem?_eq_getElem hi
  have hd:((b.l).drop i)=(b.l)[i]::(b.l).drop (i+1):=List.drop_eq_getElem_cons hi
  have hm:(b.l)[i]∈(b.l):=List.getElem_mem hi
  have ih:=fun h1 He=>UP (H:=H) (H0:=H0) (a:=a) (b:=b) (ha:=ha) (hb:=hb) hc k n (i+1) h1 He (by omega)
  simp only [kv_cons,kv_nil] at ih
  have ih:=ih (by omega)
  cases i with
  |zero=>omega
  |succ i=>
   have hx1:b.l[i]?=some b.l[i]:=List.getElem?_eq_getElem (by omega)
   rw [ao M iq.eq_1]
   simp (maxSteps:=3000000) (maxDischargeDepth:=6) +contextual -implicitDefEqProofs only [amA M,amB,↓ae,↓aa,↓aj,↓ah,Nat.reduceBEq,Nat.reduceAdd,env,am,bK,hx,hd,hi,ih,mL,hx1,aA hi,aA (show i<b.l.length by omega),F4 (show i+1≤aY by omega),bn hi hb,Ol,pM hx1,hc,noU,ed]
end
section
attribute [local congr] aP dR bF aQ bq aZ aR aE aF a6 a7
variable{E:bL}(M:dK dW E)
def gd:List au→List au→Option (List au)
 |[],b=>some b
 |x::a,[]=>some (x::a)
 |x::a,y::b=>
  match Op.bytesLess x.name y.name with
  |true=>(gd a (y::b)).map (x :: ·)
  |false=>match Op.bytesLess y.name x.name with
   |true=>(gd (x::a) b).map (y :: ·)
   |false=>match x.name == y.name&&x.value == y.value with
    |true=>(gd a b).map (x :: ·)
    |false=>none
termination_by a b=>a.length+b.length
theorem S9(y:au)(b:List au):gd [] (y::b)=(gd [] b).map (y :: ·):=by simp [gd]
theorem Ta(x:au)(a:List au):gd (x::a) []=(gd a []).map (x :: ·):=by
 cases a<;>simp [gd]
theorem Qu:gd [] []=some []:=by simp [gd]
def mgO(M:dK dW E)(H0:List ag)(k:List Fra)(o:List au)(r:Option (List au))(H:List ag):Option Out:=
 match r with
 |none=>some (.ret noU,H.take H0.length)
 |some r=>M.go b4 H0 k (kv [(8,.slice (.own H.length) 2 ((o++r).map au.row))]) (H++[.tok ((o++r).length*2) aU])
theorem Cr(H0:List ag)(k:List Fra)(o:List au)(x:au)(r:Option (List au))(H:List ag):mgO M H0 k o (r.map (x :: ·)) H=mgO M H0 k (o++[x]) r H:=by
 cases r with
 |none=>rfl
 |some r=>simp only [Option.map_some,mgO,List.append_assoc,List.cons_append,List.nil_append]
theorem uw(x y:au):req (.st [(0,.str),(1,.str)]) (.agg x.row) (.agg y.row)=some (x.name == y.name&&x.value == y.value):=by
 simp only [req,yU,au.row,List.getElem?_cons_zero,List.getElem?_cons_succ,ET]
 cases x.name == y.name<;>simp
 cases x.value == y.value<;>rfl
theorem LQ(n:Nat)(x:au):WkL n (au.row x) (au.row x):=⟨wk_str _ _,wk_str _ _,trivial⟩
theorem rum{a b:Sl au}{H H0:List ag}(hc:bP H0 H)(k:List Fra):∀ (n i j:Nat) (o:List au) (He:List ag),i≤a.l.length→j≤b.l.length→(a.l.length-i)+(b.l.length-j)=n→o.length+n≤4000000000000→a.l.length+b.l.length≤4000000000000 →
  M.go b4 H0 (.c cr :: .lp ⟨(some [0,1,8,9,10]),[(8,2,aU)],false⟩ cr He :: .blk 4 :: .c (.lv [8])::k) (kv [(0,.slice a.tag 2 (a.l.map au.row)),(1,.slice b.tag 2 (b.l.map au.row)),(8,.slice (.own H.length) 2 (o.map au.row)),(9,.int .i64 i),(10,.int .i64 j)]) (H++[.tok (o.length*2) aU]) =
   mgO M H0 k o (gd (a.l.drop i) (b.l.drop j)) H
 |n,i,j,o,He,hi,hj,hn,ho,hab=>by
  have bi:i<a.l.length→IntKind.i64.wrap ((i:Int)+1)=((i+1:Nat):Int):=fun h=>bn h (by simp only [aY];omega)
  have bj:j<b.l.length→IntKind.i64.wrap ((j:Int)+1)=((j+1:Nat):Int):=fun h=>bn h (by simp only [aY];omega)
  have ap:=fun (x:au) (h:o.length+1≤4000000000000)=>Rz (row:=au.row) (l:=o) (x:=x) (r:=x.row) (sz:=2) (bytes:=32) (e:=aU) H rfl rfl rfl (by omega) (by omega)
  by_cases h1:i<a.l.length
  ·have hx:a.l[i]?=some a.l[i]:=List.getElem?_eq_getElem h1
   have hd:a.l.drop i=a.l[i]::a.l.drop (i+1):=List.drop_eq_getElem_cons h1
   have hol:o.length+1≤4000000000000:=by omega
   have i1:=fun He=>rum hc k (n-1) (i+1) j (o++[a.l[i]]) He (by omega) hj (by omega) (by simp;omega) hab
   have hne:(i == a.l.length)=false:=by simp;omega
   by_cases h2:j<b.l.length
   ·have hy:b.l[j]?=some b.l[j]:=List.getElem?_eq_getElem h2
    have hdy:b.l.drop j=b.l[j]::b.l.drop (j+1):=List.drop_eq_getElem_cons h2
    have i2:=fun He=>rum hc k (n-1) i (j+1) (o++[b.l[j]]) He hi (by omega) (by omega) (by simp;omega) hab
    have i3:=fun He=>rum hc k (n-2) (i+1) (j+1) (o++[a.l[i]]) He (by omega) (by omega) (by omega) (by simp;omega) hab
    have hne2:(j == b.l.length)=false:=by simp;omega
    simp only [kv_cons,kv_nil] at i1 i2 i3
    rw [hd,hdy,gd,← hd,← hdy]
    cases c1:Op.bytesLess a.l[i].name b.l[j].name with
    |true=>
     simp only [Cr]
     rw [ao M cr.eq_1]
     simp (maxSteps:=3000000) (maxDischargeDepth:=6) +contextual -implicitDefEqProofs only [amA M,amB,↓ae,↓aa,↓aj,↓ah,Nat.reduceBEq,Nat.reduceAdd,env,am,bK,amG,AV.cell,Nat.reduceMul,Nat.reduceLeDiff,hx,hy,h1,h2,bi h1,bj h2,mL,aA h1,aA h2,hne,hne2,c1,ap a.l[i] hol,i1]
    |false=>
     simp only
     cases c2:Op.bytesLess b.l[j].name a.l[i].name with
     |true=>
      simp only [Cr]
      rw [ao M cr.eq_1]
      simp (maxSteps:=3000000) (maxDischargeDepth:=6) +contextual -implicitDefEqProofs only [amA M,amB,↓ae,↓aa,↓aj,↓ah,Nat.reduceBEq,Nat.reduceAdd,env,am,bK,amG,AV.cell,Nat.reduceMul,Nat.reduceLeDiff,hx,hy,h1,h2,bi h1,bj h2,mL,aA h1,aA h2,hne,hne2,c1,c2,ap b.l[j] hol,i2]
     |false=>
      simp only
      cases c3:(a.l[i].name == b.l[j].name&&a.l[i].value == b.l[j].value) with
      |true=>
       simp only [Cr]
       rw [ao M cr.eq_1]
       simp (maxSteps:=3000000) (maxDischargeDepth:=6) +contextual -implicitDefEqProofs only [amA M,amB,↓ae,↓aa,↓aj,↓ah,Nat.reduceBEq,Nat.reduceAdd,env,am,bK,amG,AV.cell,Nat.reduceMul,Nat.reduceLeDiff,hx,hy,h1,h2,bi h1,bj h2,mL,aA h1,aA h2,hne,hne2,c1,c2,c3,uw,ap a.l[i] hol,i3]
      |false=>
       simp only [mgO]
       rw [ao M cr.eq_1]
       simp (maxSteps:=3000000) (maxDischargeDepth:=6) +contextual -implicitDefEqProofs only [amA M,amB,↓ae,↓aa,↓aj,↓ah,Nat.reduceBEq,Nat.reduceAdd,env,am,bK,amG,AV.cell,Nat.reduceMul,Nat.reduceLeDiff,hx,hy,h1,h2,bi h1,bj h2,mL,aA h1,aA h2,hne,hne2,c1,c2,c3,uw,hc,noU,ed]
   ·obtain rfl:j=b.l.length:=by omega
    have hdy:b.l.drop b.l.length=[]:=List.drop_length
    simp only [kv_cons,kv_nil] at i1
    rw [hd,hdy,Ta,Cr]
    rw [hdy] at i1
    rw [ao M cr.eq_1]
    simp (maxSteps:=3000000) (maxDischargeDepth:=6) +contextual -implicitDefEqProofs only [amA M,amB,↓ae,↓aa,↓aj,↓ah,Nat.reduceBEq,Nat.reduceAdd,env,am,bK,amG,AV.cell,Nat.reduceMul,Nat.reduceLeDiff,hx,h1,Nat.lt_irrefl,bi h1,mL,aA h1,hne,beq_self_eq_true,ap a.l[i] hol,i1]
  ·obtain rfl:i=a.l.length:=by omega
   have hdx:a.l.drop a.l.length=[]:=List.drop_length
   by_cases h2:j<b.l.length
   ·have hy:b.l[j]?=some b.l[j]:=List.getElem?_eq_getElem h2
    have hdy:b.l.drop j=b.l[j]::b.l.drop (j+1):=List.drop_eq_getElem_cons h2
    have hol:o.length+1≤4000000000000:=by omega
    have i2:=fun He=>rum hc k (n-1) a.l.length (j+1) (o++[b.l[j]]) He hi (by omega) (by omega) (by simp;omega) hab
    have hne2:(j == b.l.length)=false:=by simp;omega
    simp only [kv_cons,kv_nil] at i2
    rw [hdx,hdy,S9,Cr]
    rw [hdx] at i2
    rw [ao M cr.eq_1]
    simp (maxSteps:=3000000) (maxDischargeDepth:=6) +contextual -implicitDefEqProofs only [amA M,amB,↓ae,↓aa,↓aj,↓ah,Nat.reduceBEq,Nat.reduceAdd,env,am,bK,amG,AV.cell,Nat.reduceMul,Nat.reduceLeDiff,hy,h2,Nat.lt_irrefl,bj h2,mL,aA h2,hne2,beq_self_eq_true,ap b.l[j] hol,i2]
   ·obtain rfl:j=b.l.length:=by omega
    rw [hdx,List.drop_length,Qu,mgO,List.append_nil]
    rw [ao M cr.eq_1]
    simp (maxSteps:=3000000) (maxDischargeDepth:=6) +contextual -implicitDefEqProofs only [amA M,amB,↓ae,↓aa,↓aj,↓ah,Nat.reduceBEq,Nat.reduceAdd,env,am,bK,Nat.lt_irrefl]
termination_by n=>n
decreasing_by all_goals omega
def uX(a b:List au):Option (List au):=sel (uW a) (sel (uW b) (gd a b) none) none
def RQ(r:Option (List au)):AV:=
 match r with
 |none=>noU
 |some r=>.tuple [.slice .any 2 (r.map au.row),.bool true]
theorem I6(hR:tm E){a b:Sl au}(hab:a.l.length+b.l.length≤4000000000000)(H:List ag) :
  M.run i5 [.slice a.tag 2 (a.l.map au.row),.slice b.tag 2 (b.l.map au.row)] H=some (.ret (RQ (uX a.l b.l)),H):=by
 rw [aL M hR.truchmanref02_Unify rfl (c:=oX) rfl,oX]
 have ha:a.l.length≤aY:=by simp only [aY];omega
 have hb:b.l.length≤aY:=by simp only [aY];omega
 have h1:=fun k He=>UO M ha hb (cut_refl H) k (a.l.length-1) 1 (by omega) He rfl
 have h2:=fun k He=>UP M ha hb (cut_refl H) k (b.l.length-1) 1 (by omega) He rfl
 have h3:=fun k He=>rum M (a:=a) (b:=b) (cut_refl H) k (a.l.length+b.l.length) 0 0 [] He (by omega) (by omega) (by omega) (by simp;omega) hab
 simp only [kv_cons,kv_nil,Int.ofNat_zero,(show ((1:Nat):Int)=1 from rfl),List.drop_zero,Om,List.length_nil,Nat.zero_mul,List.map_nil] at h1 h2 h3
 simp (maxSteps:=3000000) (maxDischargeDepth:=6) +contextual -implicitDefEqProofs only [amA M,amB,↓ae,↓aa,↓aj,↓ah,Nat.reduceBEq,Nat.reduceAdd,env,am,bK,h1,h2,h3]
 unfold uX
 cases uW a.l with
 |false=>rfl
 |true=>
  cases uW b.l with
  |false=>rfl
  |true=>
   simp only [Bool.and_true,ae,sel]
   cases gd a.l b.l with
   |none=>simp only [mgO,hp_self,RQ]
   |some r=>
    simp only [mgO,List.nil_append,RQ]
    simp (maxSteps:=3000000) (maxDischargeDepth:=6) +contextual -implicitDefEqProofs only [amA M,amB,↓ae,↓aa,↓aj,↓ah,Nat.reduceBEq,Nat.reduceAdd,env,am,bK,LQ,implies_true]
end
theorem Cs:∀ x:Str,Op.bytesLess x x=false
 |[]=>rfl
 |a::x=>by
  have h:¬ a<a:=by simp
  simp only [Op.bytesLess,Cs x,Bool.and_false,Bool.or_false,decide_eq_false h]
theorem I7:∀ {x y:Str},Op.bytesLess x y=false→Op.bytesLess y x=false→x=y
 |[],[],_,_=>rfl
 |[],_::_,h,_=>by simp [Op.bytesLess] at h
 |_::_,[],_,h=>by simp [Op.bytesLess] at h
 |a::x,b::y,h1,h2=>by
  simp only [Op.bytesLess,Bool.or_eq_false_iff,decide_eq_false_iff_not] at h1 h2
  have hab:a=b:=UInt8.le_antisymm (UInt8.not_lt.1 h2.1) (UInt8.not_lt.1 h1.1)
  subst hab
  simp only [beq_self_eq_true,Bool.true_and] at h1 h2
  rw [I7 h1.2 h2.2]
theorem qP:∀ {x y z:Str},Op.bytesLess x y=true→Op.bytesLess y z=true→Op.bytesLess x z=true
 |_,[],_,h,_=>by cases ‹List UInt8› <;> simp [Op.bytesLess] at h
 |_,_::_,[],_,h=>by simp [Op.bytesLess] at h
 |[],_::_,_::_,_,_=>rfl
 |a::x,b::y,c::z,h1,h2=>by
  simp only [Op.bytesLess,Bool.or_eq_true,decide_eq_true_eq,Bool.and_eq_true,beq_iff_eq] at h1 h2 ⊢
  rcases h1 with h1 | ⟨rfl,h1⟩
  ·rcases h2 with h2 | ⟨rfl,h2⟩
   ·exact .inl (UInt8.lt_trans h1 h2)
   ·exact .inl h1
  ·rcases h2 with h2 | ⟨rfl,h2⟩
   ·exact .inl h2
   ·exact .inr ⟨rfl,qP h1 h2⟩
theorem RR{x y:Str}(h:Op.bytesLess x y=true):Op.bytesLess y x=false:=by
 cases h2:Op.bytesLess y x with
 |false=>rfl
 |true=>have:=qP h h2;rw [Cs] at this;cases this
theorem KN{x y:Str}(h:Op.bytesLess x y=true):(x == y)=false:=by
 cases h2:x == y with
 |false=>rfl
 |true=>rw [eq_of_beq h2,Cs] at h;cases h
theorem vr:∀ {l:List au}{p:au},qO p l=true→∀ x∈l,Op.bytesLess p.name x.name=true
 |[],_,_,_,h=>by cases h
 |y::l,p,h,x,hx=>by
  simp only [qO,Bool.and_eq_true] at h
  rcases List.mem_cons.1 hx with rfl | hx
  ·exact h.1
  ·exact qP h.1 (vr h.2 x hx)
theorem zO{x:au}{l:List au}(h:uW (x::l)=true):uW l=true:=by
 cases l with
 |nil=>rfl
 |cons y l=>simp only [uW,qO,Bool.and_eq_true] at h ⊢;exact h.2
theorem I8{x:au}{b:List au}(h:∀ y∈b,(x.name == y.name)=false):(b.any fun g=>km x g)=false:=by
 rw [List.any_eq_false]
 intro y hy
 simp [km,h y hy]
theorem wD(x:au)(a b:List au):kX (x::a) b=((b.any fun g=>km x g)||kX a b):=rfl
theorem Ct(y:au):∀ (a b:List au),kX a (y::b)=((a.any fun f=>km f y)||kX a b)
 |[],_=>rfl
 |x::a,b=>by
  rw [wD,wD,Ct y a b,List.any_cons,List.any_cons]
  cases km x y<;>cases (b.any fun g=>km x g)<;>cases (a.any fun f=>km f y)<;>simp
theorem G3{y:au}{a:List au}(h:∀ x∈a,(x.name == y.name)=false):(a.any fun f=>km f y)=false:=by
 rw [List.any_eq_false]
 intro x hx
 simp [km,h x hx]
theorem ux:∀ (n:Nat) (a b:List au),a.length+b.length≤n→uW a=true→uW b=true→(gd a b).isSome = !kX a b
 |_,[],b,_,_,_=>by cases b<;>simp [gd,kX]
 |_,x::a,[],_,_,_=>by
  have:kX (x::a) []=false:=by simp [kX]
  rw [this];simp [gd]
 |0,x::a,y::b,h,_,_=>by simp at h
 |n+1,x::a,y::b,h,ha,hb=>by
  have hxa:∀ z∈a,Op.bytesLess x.name z.name=true:=vr ha
  have hyb:∀ z∈b,Op.bytesLess y.name z.name=true:=vr hb
  simp only [List.length_cons] at h
  rw [gd]
  cases c1:Op.bytesLess x.name y.name with
  |true=>
   simp only [Option.isSome_map]
   rw [ux n a (y::b) (by simp only [List.length_cons];omega) (zO ha) hb,wD,I8 (x:=x) (b:=y::b) (fun z hz=>by
    rcases List.mem_cons.1 hz with rfl | hz
    ·exact KN c1
    ·exact KN (qP c1 (hyb z hz))),Bool.false_or]
  |false=>
   simp only
   cases c2:Op.bytesLess y.name x.name with
   |true=>
    simp only [Option.isSome_map]
    rw [ux n (x::a) b (by simp only [List.length_cons];omega) ha (zO hb),Ct,G3 (y:=y) (a:=x::a) (fun z hz=>by
     rw [AO]
     rcases List.mem_cons.1 hz with rfl | hz
     ·exact KN c2
     ·exact KN (qP c2 (hxa z hz))),Bool.false_or]
   |false=>
    have hn:=I7 c1 c2
    simp only [hn,beq_self_eq_true,Bool.true_and]
    cases c3:x.value == y.value with
    |true=>
     simp only [Option.isSome_map]
     rw [ux n a b (by omega) (zO ha) (zO hb),wD,Ct,List.any_cons,I8 (x:=x) (b:=b) (fun z hz=>by rw [hn];exact KN (hyb z hz)),
      G3 (y:=y) (a:=a) (fun z hz=>by rw [AO,← hn];exact KN (hxa z hz))]
     simp [km,c3]
    |false=>
     simp only [Option.isSome_none]
     rw [wD,List.any_cons]
     simp [km,hn,c3]
theorem G4{a b:List au}(ha:uW a=true)(hb:uW b=true):(uX a b).isSome = !kX a b:=by
 rw [uX,ha,hb]
 exact ux _ a b (Nat.le_refl _) ha hb
theorem vB{α:Type}{F:Nat→α→Int}:∀ {l:List α}{s:Nat},uv F s l=0→∀ (k:Nat) (x:α),l[k]?=some x→F (s+k) x=0
 |[],_,_,k,x,h=>by simp at h
 |y::l,s,h,k,x,hx=>by
  rw [uv] at h
  cases hy:F s y == 0 with
  |false=>
   rw [hy] at h
   simp only [Bool.not_false,sel] at h
   rw [h] at hy;simp at hy
  |true=>
   rw [hy] at h
   simp only [Bool.not_true,sel] at h
   cases k with
   |zero=>obtain rfl:y=x:=by simpa using hx
          exact eq_of_beq hy
   |succ k=>
    have:=vB h k x (by simpa using hx)
    rwa [show s+1+k=s+(k+1) by omega] at this
theorem oh{α:Type}{F:Nat→α→Int}{most:Int}{l:List α}(h:lS most F l=0):(l.length:Int)≤most∧∀ (k:Nat) (x:α),l[k]?=some x→F k x=0:=by
 unfold lS at h
 cases hd:decide (most<(l.length:Int)) with
 |true=>rw [hd] at h;simp [sel] at h
 |false=>
  rw [hd] at h
  simp only [sel] at h
  refine ⟨by simpa using hd,fun k x hx => ?_⟩
  have:=vB h k x hx
  rwa [Nat.zero_add] at this
theorem Pt:∀ {l:List au},(∀ (i:Nat) (g f:au),l[i]?=some g→l[i+1]?=some f→Op.bytesLess g.name f.name=true)→uW l=true
 |[],_=>rfl
 |[x],_=>rfl
 |x::y::l,h=>by
  have h0:=h 0 x y rfl rfl
  have h1:uW (y::l)=true:=Pt (fun i g f hg hf=>h (i+1) g f (by simpa using hg) (by simpa using hf))
  simp only [uW,qO,Bool.and_eq_true] at h1 ⊢
  exact ⟨h0,h1⟩
theorem bundle_ok{l:Lex}{b:List au}(h:kN l b=0):b.length≤8∧uW b=true:=by
 obtain ⟨h1,h2⟩:=oh h
 refine ⟨by omega,Pt fun i g f hg hf => ?_⟩
 have:=h2 (i+1) f hf
 unfold I4 at this
 split at this
 ·exact absurd this (by decide)
 ·rw [pM hg,pM hg] at this
  revert this
  cases (!List.any _ _) with
  |true=>intro h;simp [sel] at h
  |false=>
   cases c:g.name == f.name with
   |true=>intro h;simp [sel] at h
   |false=>
    cases c2:Op.bytesLess g.name f.name with
    |true=>intro _;rfl
    |false=>intro h;simp [sel] at h
section
attribute [local congr] aP dR bF aQ bq aZ aR aE aF a6 a7
variable{E:bL}(M:dK dW E)
theorem CP{α:Type}(p:α→Bool)(v:AV)(H:List ag)(x:Option Out):∀ (l:List α) (i:Nat),orE (bE (fun _ o=>sel (p o) (some v) none) i l) H x=sel (l.any p) (some (.ret v,H)) x
 |[],_=>rfl
 |o::l,i=>by
  rw [iV,HL,xJ,ue,IC,CP p v H x l,List.any_cons]
  cases p o<;>rfl
theorem Tb(r:Option (List au)):RQ r = .tuple [.slice .any 2 ((r.getD []).map au.row),.bool r.isSome]:=by cases r<;>rfl
theorem re0{H H0:List ag}{l:Lex}{x:az}{n0:Nat}(hl:l.ok n0){p q:Nat}{T T2:TypeId}(hp:H[p]?=some (.cells l.row T))(hq:H[q]?=some (.cells x.row T2)){c:Int}{L:List az}(hL:∀ k,k<L.length→l.entries.l[k]?=L[k]?)(hLl:L.length≤l.entries.l.length)(hc:bP H0 H)(k:List Fra):∀ (n i:Nat) (He:List ag),i+n=L.length →
  M.go a8 H0 (.c fV :: .lp ⟨(some [1,3,4,5,6]),[],false⟩ fV He :: .blk 2 :: .c (.lv [1,3,4,5])::k) (kv [(1,.ptr p 0),(3,.int .i64 L.length),(4,.ptr q 0),(5,.int .i64 c),(6,.int .i64 i)]) H =
   orE (bE (fun _ o=>sel (o.lem == x.lem&&o.cls == x.cls) (some (.int .u8 6)) none) i (L.drop i)) (H.take H0.length) (M.go a8 H0 k (kv [(1,.ptr p 0),(3,.int .i64 L.length),(4,.ptr q 0),(5,.int .i64 c)]) H)
 |0,i,He,h=>by
  have e:i=L.length:=by omega
  subst e
  rw [ao M fV.eq_1]
  simp (maxSteps:=3000000) (maxDischargeDepth:=6) +contextual -implicitDefEqProofs only [amA M,amB,↓ae,↓aa,↓aj,↓ah,Nat.reduceBEq,Nat.reduceAdd,env,am,bw,Nat.lt_irrefl,List.drop_length]
 |n+1,i,He,h=>by
  have hi:i<L.length:=by omega
  have hx:L[i]?=some L[i]:=List.getElem?_eq_getElem hi
  have hd:(L.drop i)=L[i]::L.drop (i+1):=List.drop_eq_getElem_cons hi
  have hm:L[i]∈L:=List.getElem_mem hi
  have ih:=fun He=>re0 (H:=H) (H0:=H0) (l:=l) (x:=x) (n0:=n0) (hl:=hl) (p:=p) (q:=q) (T:=T) (T2:=T2) (hp:=hp) (hq:=hq) (c:=c) (L:=L) (hL:=hL) (hLl:=hLl) hc k n (i+1)  He (by omega)
  simp only [kv_cons,kv_nil] at ih
  have hx2:l.entries.l[i]?=some L[i]:=(hL i hi).trans hx
  rw [ao M fV.eq_1]
  simp (maxSteps:=3000000) (maxDischargeDepth:=6) +contextual -implicitDefEqProofs only [amA M,amB,↓ae,↓aa,↓aj,↓ah,Nat.reduceBEq,Nat.reduceAdd,env,am,bw,hx,hd,hi,ih,bn hi (Nat.le_trans hLl hl.entries.len),aA (show i<l.entries.l.length by omega),hx2,br,cD,hp,hq,hc]
theorem re1{H H0:List ag}(hR:tm E){x:az}{p q:Nat}{T2:TypeId}(hq:H[q]?=some (.cells x.row T2)){i0:Nat}{sl:Sl bz}(hs:sl.l.length≤aY)(hab:∀ s∈sl.l,x.feats.l.length+s.feats.l.length≤4000000000000)(hc:bP H0 H)(k:List Fra):∀ (n i:Nat) (He:List ag),i+n=(sl.l).length →
  M.go a8 H0 (.c fW :: .lp ⟨(some [1,3,4,8,9]),[],false⟩ fW He :: .blk 4 :: .c (.lv [1,3,4,8])::k) (kv [(1,.ptr p 0),(3,.int .i64 i0),(4,.ptr q 0),(8,.slice sl.tag 4 (sl.l.map bz.row)),(9,.int .i64 i)]) H =
   orE (bE (fun _ s=>sel (!(uX x.feats.l s.feats.l).isSome) (some (.int .u8 10)) none) i (sl.l.drop i)) (H.take H0.length) (M.go a8 H0 k (kv [(1,.ptr p 0),(3,.int .i64 i0),(4,.ptr q 0),(8,.slice sl.tag 4 (sl.l.map bz.row))]) H)
 |0,i,He,h=>by
  have e:i=(sl.l).length:=by omega
  subst e
  rw [ao M fW.eq_1]
  simp (maxSteps:=3000000) (maxDischargeDepth:=6) +contextual -implicitDefEqProofs only [amA M,amB,↓ae,↓aa,↓aj,↓ah,Nat.reduceBEq,Nat.reduceAdd,env,am,bw,Nat.lt_irrefl,List.drop_length]
 |n+1,i,He,h=>by
  have hi:i<(sl.l).length:=by omega
  have hx:(sl.l)[i]?=some (sl.l)[i]:=List.getElem?_eq_getElem hi
  have hd:((sl.l).drop i)=(sl.l)[i]::(sl.l).drop (i+1):=List.drop_eq_getElem_cons hi
  have hm:(sl.l)[i]∈(sl.l):=List.getElem_mem hi
  have ih:=fun He=>re1 (H:=H) (H0:=H0) (hR:=hR) (x:=x) (p:=p) (q:=q) (T2:=T2) (hq:=hq) (i0:=i0) (sl:=sl) (hs:=hs) (hab:=hab) hc k n (i+1)  He (by omega)
  simp only [kv_cons,kv_nil] at ih
  rw [ao M fW.eq_1]
  simp (maxSteps:=3000000) (maxDischargeDepth:=6) +contextual -implicitDefEqProofs only [amA M,amB,↓ae,↓aa,↓aj,↓ah,Nat.reduceBEq,Nat.reduceAdd,env,am,bw,hx,hd,hi,ih,bn hi hs,aA hi,gO,cD,hq,hc,I6 M hR (hab _ hm),Tb]
theorem re2{H H0:List ag}{x:az}{f:bT}{p q r:Nat}{T2 T3:TypeId}(hq:H[q]?=some (.cells x.row T2))(hr:H[r]?=some (.cells f.row T3)){i0:Nat}{sv:AV}{L:List bT}(hL:∀ k,k<L.length→x.forms.l[k]?=L[k]?)(hLl:L.length≤x.forms.l.length)(hxl:x.forms.l.length≤aY)(hc:bP H0 H)(k:List Fra):∀ (n i:Nat) (He:List ag),i+n=L.length →
  M.go a8 H0 (.c fX :: .lp ⟨(some [1,3,4,8,12,13,14]),[],false⟩ fX He :: .blk 8 :: .c (.lv [1,3,4,8,12,13])::k) (kv [(1,.ptr p 0),(3,.int .i64 i0),(4,.ptr q 0),(8,sv),(12,.int .i64 L.length),(13,.ptr r 0),(14,.int .i64 i)]) H =
   orE (bE (fun _ o=>sel (o.slot == f.slot) (some (.int .u8 6)) none) i (L.drop i)) (H.take H0.length) (M.go a8 H0 k (kv [(1,.ptr p 0),(3,.int .i64 i0),(4,.ptr q 0),(8,sv),(12,.int .i64 L.length),(13,.ptr r 0)]) H)
 |0,i,He,h=>by
  have e:i=L.length:=by omega
  subst e
  rw [ao M fX.eq_1]
  simp (maxSteps:=3000000) (maxDischargeDepth:=6) +contextual -implicitDefEqProofs only [amA M,amB,↓ae,↓aa,↓aj,↓ah,Nat.reduceBEq,Nat.reduceAdd,env,am,bw,Nat.lt_irrefl,List.drop_length]
 |n+1,i,He,h=>by
  have hi:i<L.length:=by omega
  have hx:L[i]?=some L[i]:=List.getElem?_eq_getElem hi
  have hd:(L.drop i)=L[i]::L.drop (i+1):=List.drop_eq_getElem_cons hi
  have hm:L[i]∈L:=List.getElem_mem hi
  have ih:=fun He=>re2 (H:=H) (H0:=H0) (x:=x) (f:=f) (p:=p) (q:=q) (r:=r) (T2:=T2) (T3:=T3) (hq:=hq) (hr:=hr) (i0:=i0) (sv:=sv) (L:=L) (hL:=hL) (hLl:=hLl) (hxl:=hxl) hc k n (i+1)  He (by omega)
  simp only [kv_cons,kv_nil] at ih
  have hx2:x.forms.l[i]?=some L[i]:=(hL i hi).trans hx
  rw [ao M fX.eq_1]
  simp (maxSteps:=3000000) (maxDischargeDepth:=6) +contextual -implicitDefEqProofs only [amA M,amB,↓ae,↓aa,↓aj,↓ah,Nat.reduceBEq,Nat.reduceAdd,env,am,bw,hx,hd,hi,ih,bn hi (Nat.le_trans hLl hxl),aA (show i<x.forms.l.length by omega),hx2,cD,Aj,hq,hr,hc]
theorem Cu{α:Type}(l:List α)(i:Nat):∀ k,k<(l.take i).length→l[k]?=(l.take i)[k]? := fun k hk=>by
 rw [List.getElem?_take_of_lt];simp at hk;omega
theorem KO{α:Type}{l:List α}{i:Nat}(h:i≤l.length):(l.take i).length=i:=by simp;omega
theorem re3{H H0:List ag}(hN:bp E){x:az}{n0:Nat}(hx0:x.ok n0)(hn:n0≤H.length){p q:Nat}(hpl:p<H.length){T2:TypeId}(hq:H[q]?=some (.cells x.row T2)){i0:Nat}{sl:Sl bz}(hsw:Wk H.length (.slice sl.tag 4 (sl.l.map bz.row)) (.slice sl.tag 4 (sl.l.map bz.row)))(hc:bP H0 H)(k:List Fra):∀ (n i:Nat),i+n=(x.forms.l).length →
  M.go a8 H0 (.c fY :: .lp ⟨(some [1,3,4,8,12]),[],true⟩ fY H :: .blk 6 :: .c (.lv [1,3])::k) (kv [(1,.ptr p 0),(3,.int .i64 i0),(4,.ptr q 0),(8,.slice sl.tag 4 (sl.l.map bz.row)),(12,.int .i64 i)]) H =
   orE (bE (pL (KL sl.l.length x.forms.l)) i (x.forms.l.drop i)) (H.take H0.length) (M.go a8 H0 k (kv [(1,.ptr p 0),(3,.int .i64 i0)]) H)
 |0,i,h=>by
  have e:i=(x.forms.l).length:=by omega
  subst e
  rw [ao M fY.eq_1]
  simp (maxSteps:=3000000) (maxDischargeDepth:=6) +contextual -implicitDefEqProofs only [amA M,amB,↓ae,↓aa,↓aj,↓ah,Nat.reduceBEq,Nat.reduceAdd,env,am,bw,Nat.lt_irrefl,List.drop_length,cD,hq]
 |n+1,i,h=>by
  have hi:i<(x.forms.l).length:=by omega
  have hx:(x.forms.l)[i]?=some (x.forms.l)[i]:=List.getElem?_eq_getElem hi
  have hd:((x.forms.l).drop i)=(x.forms.l)[i]::(x.forms.l).drop (i+1):=List.drop_eq_getElem_cons hi
  have hm:(x.forms.l)[i]∈(x.forms.l):=List.getElem_mem hi
  have ih:=re3 (H:=H) (H0:=H0) (hN:=hN) (x:=x) (n0:=n0) (hx0:=hx0) (hn:=hn) (p:=p) (q:=q) (hpl:=hpl) (T2:=T2) (hq:=hq) (i0:=i0) (sl:=sl) (hsw:=hsw) hc k n (i+1)  (by omega)
  simp only [kv_cons,kv_nil] at ih
  have hq':=fun L=>bS (L:=L) hq
  have w1:Wk H.length (.ptr p 0) (.ptr p 0):=wk_ptr hpl
  have w2:Wk H.length (.ptr q 0) (.ptr q 0):=wk_ptr (List.getElem?_eq_some_iff.1 hq).1
  have h0:=fun k He=>re2 M (H:=H++[.cells x.forms.l[i].row dQ]) (H0:=H0) (x:=x) (f:=x.forms.l[i]) (p:=p) (q:=q) (r:=H.length) (T2:=T2) (T3:=dQ) (hq' _) (by rw [cf];rfl) (i0:=i0) (sv:=.slice sl.tag 4 (sl.l.map bz.row)) (L:=x.forms.l.take i) (Cu _ _) (by simp;omega) hx0.forms.len (sb hc _) k (x.forms.l.take i).length 0 He (by omega)
  simp only [kv_cons,kv_nil,Int.ofNat_zero,List.drop_zero,KO (Nat.le_of_lt hi),CP] at h0
  rw [ao M fY.eq_1]
  simp (maxSteps:=3000000) (maxDischargeDepth:=6) +contextual -implicitDefEqProofs only [amA M,amB,↓ae,↓aa,↓aj,↓ah,Nat.reduceBEq,Nat.reduceAdd,env,am,bw,hx,hd,hi,ih,amG,AV.cell,hq,hq',w1,w2,hsw,h0,bn hi hx0.forms.len,aA hi,Aj,cD,xN M hN (hx0.forms.all _ hm).word,hc,lr,KL,qE]
end
section
attribute [local congr] aP dR bF aQ bq aZ aR aE aF a6 a7
variable{E:bL}(M:dK dW E)
def Pu(l:Lex):Prop:=∀ c∈l.classes.l,∀ s∈c.slots.l,s.feats.l.length≤8∧uW s.feats.l=true
theorem Nc{l:Lex}(h:tO l=0):Pu l:=fun c hc s hs=>by
 obtain ⟨k,hk⟩:=List.getElem?_of_mem hc
 have h1:=(oh h).2 k c hk
 unfold AM at h1
 revert h1
 cases (!DI c.name) with
 |true=>intro h;simp [sel] at h
 |false=>
  cases (List.any _ _) with
  |true=>intro h;simp [sel] at h
  |false=>
   cases (decide ((24:Int)<(c.slots.l.length:Int))) with
   |true=>intro h;simp [sel] at h
   |false=>
    cases ((c.slots.l.length:Int) == 0) with
    |true=>intro h;simp [sel] at h
    |false=>
     intro h1
     obtain ⟨j,hj⟩:=List.getElem?_of_mem hs
     have h2:=(oh h1).2 j s hj
     unfold Cq at h2
     revert h2
     cases (decide (s.cut<0)||decide (24<s.cut) || !qp jd s.pre || !qp jd s.add) with
     |true=>intro h;simp [sel] at h
     |false=>intro h;exact bundle_ok h
theorem KP{α:Type}{p q:α→Bool}:∀ {l:List α},(∀ x∈l,p x=q x)→l.any p=l.any q
 |[],_=>rfl
 |x::l,h=>by rw [List.any_cons,List.any_cons,h x (by simp),KP (fun y hy=>h y (by simp [hy]))]
theorem re4{H H0:List ag}(hN:bp E)(hR:tm E){l:Lex}{n0:Nat}(hl:l.ok n0)(hn:n0≤H.length)(hsh:Pu l){p:Nat}{T:TypeId}(hp:H[p]?=some (.cells l.row T))(hc:bP H0 H)(k:List Fra):∀ (n i:Nat),i+n=(l.entries.l).length →
  M.go a8 H0 (.c dO :: .lp ⟨(some [1,3]),[],true⟩ dO H :: .blk 0 :: .c (.lv [])::k) (kv [(1,.ptr p 0),(3,.int .i64 i)]) H =
   orE (bE (pL (yj l)) i (l.entries.l.drop i)) (H.take H0.length) (M.go a8 H0 k .leaf H)
 |0,i,h=>by
  have e:i=(l.entries.l).length:=by omega
  subst e
  rw [ao M dO.eq_1]
  simp (maxSteps:=3000000) (maxDischargeDepth:=6) +contextual -implicitDefEqProofs only [amA M,amB,↓ae,↓aa,↓aj,↓ah,Nat.reduceBEq,Nat.reduceAdd,env,am,bw,Nat.lt_irrefl,List.drop_length,br,hp]
 |n+1,i,h=>by
  have hi:i<(l.entries.l).length:=by omega
  have hx:(l.entries.l)[i]?=some (l.entries.l)[i]:=List.getElem?_eq_getElem hi
  have hd:((l.entries.l).drop i)=(l.entries.l)[i]::(l.entries.l).drop (i+1):=List.drop_eq_getElem_cons hi
  have hm:(l.entries.l)[i]∈(l.entries.l):=List.getElem_mem hi
  have ih:=re4 (H:=H) (H0:=H0) (hN:=hN) (hR:=hR) (l:=l) (n0:=n0) (hl:=hl) (hn:=hn) (hsh:=hsh) (p:=p) (T:=T) (hp:=hp) hc k n (i+1)  (by omega)
  simp only [kv_cons,kv_nil] at ih
  have hp':=fun L=>bS (L:=L) hp
  have w1:Wk H.length (.ptr p 0) (.ptr p 0):=wk_ptr (List.getElem?_eq_some_iff.1 hp).1
  have hx0:=hl.entries.all _ hm
  have hcf:=fun H=>wC M hR hl l.entries.l[i].cls H
  rcases nL (fun c:aW=>c.name == l.entries.l[i].cls) l.classes.l 0 with ⟨h1,h2⟩ | ⟨j,c,h1,h2,h3⟩
  ·rw [h1] at hcf
   have hc2:xO l l.entries.l[i].cls=none:=h2
   rw [ao M dO.eq_1]
   simp (maxSteps:=3000000) (maxDischargeDepth:=6) +contextual -implicitDefEqProofs only [amA M,amB,↓ae,↓aa,↓aj,↓ah,Nat.reduceBEq,Nat.reduceAdd,env,am,bw,amG,AV.cell,Nat.reduceMul,Nat.reduceLeDiff,hx,hd,hi,ih,hp,hp',w1,hcf,S7,br,cD,aA hi,xN M hN hx0.lem,lr,yj,hc2,qE,hc]
  ·rw [h1,Nat.zero_add] at hcf
   have hc2:xO l l.entries.l[i].cls=some c:=h3
   have hj:j<l.classes.l.length:=(List.getElem?_eq_some_iff.1 h2).1
   have hcm:c∈l.classes.l:=List.mem_of_getElem? h2
   have hco:=hl.classes.all c hcm
   have hq:∀ L,(H++(.cells l.entries.l[i].row bG::L))[H.length]?=some (.cells l.entries.l[i].row bG):=fun L=>by rw [cf];rfl
   have h4:=fun k He=>re0 M (H:=H++[.cells l.entries.l[i].row bG]) (H0:=H0) hl (p:=p) (q:=H.length) (T:=T) (T2:=bG) (hp' _) (hq []) (c:=(j:Int)) (L:=l.entries.l.take i) (Cu _ _) (by simp;omega) (sb hc _) k (l.entries.l.take i).length 0 He (by omega)
   simp only [kv_cons,kv_nil,Int.ofNat_zero,List.drop_zero,KO (Nat.le_of_lt hi),CP] at h4
   cases hb:(kN l l.entries.l[i].feats.l == 0) with
   |false=>
    rw [ao M dO.eq_1]
    simp (maxSteps:=3000000) (maxDischargeDepth:=6) +contextual -implicitDefEqProofs only [amA M,amB,↓ae,↓aa,↓aj,↓ah,Nat.reduceBEq,Nat.reduceAdd,env,am,bw,amG,AV.cell,Nat.reduceMul,Nat.reduceLeDiff,hx,hd,hi,ih,hp,hp',w1,hcf,HA,h4,hb,br,cD,aA hi,xN M hN hx0.lem,pN M hR hl hx0.feats.len,lr,yj,hc2,qE,LO,hc]
   |true=>
    obtain ⟨hb1,hb2⟩:=bundle_ok (eq_of_beq hb)
    have h5:=fun k He=>re1 M (H:=H++[.cells l.entries.l[i].row bG]) (H0:=H0) hR (x:=l.entries.l[i]) (p:=p) (q:=H.length) (T2:=bG) (hq []) (i0:=i) (sl:=c.slots) hco.slots.len (fun s hs=>by have:=(hsh c hcm s hs).1;omega) (sb hc _) k c.slots.l.length 0 He (by omega)
    have h6:=fun k=>re3 M (H:=H++[.cells l.entries.l[i].row bG]) (H0:=H0) hN hx0 (by simp;omega) (p:=p) (q:=H.length) (by have:=(List.getElem?_eq_some_iff.1 hp).1;simp;omega) (T2:=bG) (hq []) (i0:=i) (sl:=c.slots) ((hco.slots.mono (show n0≤_ by simp;omega) (fun _ h=>h.mono (show n0≤(H++[ag.cells l.entries.l[i].row bG]).length by simp;omega))).wk (fun _ h=>h.wk)) (sb hc _) k l.entries.l[i].forms.l.length 0 (by omega)
    have e5:(c.slots.l.any fun s => !(uX l.entries.l[i].feats.l s.feats.l).isSome)=c.slots.l.any fun s=>kX l.entries.l[i].feats.l s.feats.l:=KP fun s hs=>by rw [G4 hb2 (hsh c hcm s hs).2,Bool.not_not]
    simp only [kv_cons,kv_nil,Int.ofNat_zero,List.drop_zero,CP,e5] at h5 h6
    rw [ao M dO.eq_1]
    simp (maxSteps:=3000000) (maxDischargeDepth:=6) +contextual -implicitDefEqProofs only [amA M,amB,↓ae,↓aa,↓aj,↓ah,Nat.reduceBEq,Nat.reduceAdd,env,am,bw,amG,AV.cell,Nat.reduceMul,Nat.reduceLeDiff,hx,hd,hi,ih,hp,hp',w1,hcf,HA,h4,h5,h6,hb,h2,aA hj,br,cD,gL,aA hi,bn hi hl.entries.len,xN M hN hx0.lem,pN M hR hl hx0.feats.len,lr,yj,hc2,qE,Fw,hc]
end
section
attribute [local congr] aP dR bF aQ bq aZ aR aE aF a6 a7
variable{E:bL}(M:dK dW E)
theorem LR(hN:bp E)(hR:tm E){l:Lex}{n:Nat}(hl:l.ok n)(hsh:Pu l){H:List ag}(hn:n≤H.length):M.run lZ [.agg l.row] H=some (.ret (.int .u8 (wB l)),H):=by
 rw [aL M hR.truchmanref02_entries rfl (c:=mg) rfl,mg]
 have h1:=fun k=>re4 M hN hR (H:=H++[.cells l.row aq]) hl (by simp;omega) hsh (p:=H.length) (T:=aq) (by rw [cf];rfl) (cut_app H _) k l.entries.l.length 0 (by omega)
 simp only [kv_cons,kv_nil,Int.ofNat_zero,List.drop_zero] at h1
 simp (maxSteps:=3000000) (maxDischargeDepth:=6) +contextual -implicitDefEqProofs only [amA M,amB,↓ae,↓aa,↓aj,↓ah,Nat.reduceBEq,Nat.reduceAdd,env,am,bw,h1,br,cut_app,rr,pi,wB,lS]
def DL(p:UInt8):Str→Bool
 |[]=>true
 |c::t => !decide ((c.toNat:Int)≤(p.toNat:Int))&&DL c t
def On:Str→Bool
 |[]=>true
 |c::t=>DL c t
def geV(v:Str):Nat→UInt8→Option AV
 |0,_=>none
 |i+1,c=>match v[i]? with
  |some d=>sel (decide ((c.toNat:Int)≤(d.toNat:Int))) (some (.int .u8 1)) none
  |none=>none
theorem Nd{v:Str}{i:Nat}{d:UInt8}(h:v[i]?=some d)(c:UInt8):geV v (i+1) c=sel (decide ((c.toNat:Int)≤(d.toNat:Int))) (some (.int .u8 1)) none:=by simp only [geV,h]
theorem KQ{α:Type}{b l:List α}{i:Nat}{x:α}(hd:b.drop (i+1)=x::l):b[i+1]?=some x∧b.drop (i+1+1)=l:=by
 constructor
 ·have:=List.getElem?_drop (xs:=b) (i:=i+1) (j:=0)
  rw [hd] at this;simpa using this.symm
 ·have:(b.drop (i+1)).drop 1=l:=by rw [hd];rfl
  rwa [List.drop_drop] at this
theorem KR(v:Str):∀ (t:Str) (i:Nat) (p:UInt8),v[i]?=some p→v.drop (i+1)=t→bE (geV v) (i+1) t=sel (DL p t) none (some (.int .u8 1))
 |[],_,_,_,_=>rfl
 |c::t,i,p,h,hd=>by
  obtain ⟨h2,hd2⟩:=KQ hd
  rw [iV,Nd h,KR v t (i+1) c h2 hd2,DL]
  cases decide ((c.toNat:Int)≤(p.toNat:Int))<;>cases DL c t<;>rfl
theorem Oo(v:Str)(H:List ag)(x:Option Out):orE (bE (geV v) 1 (v.drop 1)) H x=sel (On v) x (some (.ret (.int .u8 1),H)):=by
 cases v with
 |nil=>rfl
 |cons c t=>
  rw [show List.drop 1 (c::t)=t from rfl,KR (c::t) t 0 c rfl rfl,On]
  cases DL c t<;>rfl
theorem Nf(v:Str):∀ (t:Str) (i:Nat) (p:UInt8),v[i]?=some p→v.drop (i+1)=t→uv (fun i c=>sel (Qn v i c) 1 0) (i+1) t=sel (t.all jd&&DL p t) 0 1
 |[],_,_,_,_=>rfl
 |c::t,i,p,h,hd=>by
  obtain ⟨h2,hd2⟩:=KQ hd
  rw [uv,Nf v t (i+1) c h2 hd2,KK h,List.all_cons,DL]
  cases jd c<;>cases decide ((c.toNat:Int)≤(p.toNat:Int))<;>cases t.all jd<;>cases DL c t<;>rfl
theorem Pv(l:Lex):Qo l=sel (ofF [] l.vowels) (sel (On l.vowels) 0 1) 1:=by
 rw [Qo,HO]
 cases hv:l.vowels with
 |nil=>rfl
 |cons c t=>
  rw [uv,Nf (c::t) t 0 c rfl rfl,KJ,List.all_cons,On]
  cases jd c<;>cases t.all jd<;>cases DL c t<;>rfl
theorem UQ{H H0:List ag}{l:Lex}{n0:Nat}(hl:l.ok n0){p:Nat}{T:TypeId}(hp:H[p]?=some (.cells l.row T))(hc:bP H0 H)(k:List Fra):∀ (n i:Nat) (h1:1≤i) (He:List ag),(l.vowels).length-i=n →
  M.go bZ H0 (.c hT :: .lp ⟨(some [1,3]),[],false⟩ hT He :: .blk 0 :: .c (.lv [1])::k) (kv [(1,.ptr p 0),(3,.int .i64 i)]) H =
   orE (bE (geV l.vowels) i (l.vowels.drop i)) (H.take H0.length) (M.go bZ H0 k (kv [(1,.ptr p 0)]) H)
 |0,i,h1,He,h=>by
  have e:¬ i<(l.vowels).length:=by omega
  have e2:(l.vowels).drop i=[]:=List.drop_of_length_le (by omega)
  rw [ao M hT.eq_1]
  simp (maxSteps:=3000000) (maxDischargeDepth:=6) +contextual -implicitDefEqProofs only [amA M,amB,↓ae,↓aa,↓aj,↓ah,Nat.reduceBEq,Nat.reduceAdd,env,am,ea,e,e2,br,hp]
 |n+1,i,h1,He,h=>by
  have hi:i<(l.vowels).length:=by omega
  have hx:(l.vowels)[i]?=some (l.vowels)[i]:=List.getElem?_eq_getElem hi
  have hd:((l.vowels).drop i)=(l.vowels)[i]::(l.vowels).drop (i+1):=List.drop_eq_getElem_cons hi
  have hm:(l.vowels)[i]∈(l.vowels):=List.getElem_mem hi
  have ih:=fun h1 He=>UQ (H:=H) (H0:=H0) (l:=l) (n0:=n0) (hl:=hl) (p:=p) (T:=T) (hp:=hp) hc k n (i+1) h1 He (by omega)
  simp only [kv_cons,kv_nil] at ih
  have ih:=ih (by omega)
  cases i with
  |zero=>omega
  |succ i=>
   have hx1:l.vowels[i]?=some l.vowels[i]:=List.getElem?_eq_getElem (by omega)
   have hlv:=hl.vowels
   rw [ao M hT.eq_1]
   simp (maxSteps:=3000000) (maxDischargeDepth:=6) +contextual -implicitDefEqProofs only [amA M,amB,↓ae,↓aa,↓aj,↓ah,Nat.reduceBEq,Nat.reduceAdd,env,am,ea,hx,hd,hi,ih,hp,br,hx1,F4 (show i+1≤aY by omega),bn hi hlv,Nd hx1,hc]
theorem RT(s:Str):ofF [43] s=s.all DJ:=by
 unfold ofF
 congr 1;funext c
 simp only [List.any_cons,List.any_nil,Bool.or_false,DJ]
 congr 1
 rw [Bool.eq_iff_iff];simp;omega
theorem RU(s:Str):ofF [43,35,86,67] s=s.all G1:=by
 unfold ofF
 congr 1;funext c
 simp only [List.any_cons,List.any_nil,Bool.or_false,G1,DJ,Bool.or_assoc]
 congr 1
 rw [Bool.eq_iff_iff];simp;omega
theorem CQ(p:UInt8→Bool)(s:Str):qp p s=(!decide ((6:Int)<(s.length:Int))&&s.all p):=by
 unfold qp;congr 1;rw [Bool.eq_iff_iff];simp
theorem Ng(x:bt):tN x=sel (x.frm == []||(!ofF [43] x.frm||(!ofF [43] x.to||(!ofF [43,35,86,67] x.left || !ofF [43,35,86,67] x.right)))) 1
  (sel (decide ((6:Int)<(x.frm.length:Int))||(decide ((6:Int)<(x.to.length:Int))||(decide ((6:Int)<(x.left.length:Int))||decide ((6:Int)<(x.right.length:Int))))) 1 0):=by
 rw [tN,RT,RT,RU,RU,CQ,CQ,CQ,CQ]
 cases x.frm == []<;>cases x.frm.all DJ<;>cases x.to.all DJ<;>cases x.left.all G1<;>cases x.right.all G1<;>cases decide ((6:Int)<(x.frm.length:Int))<;>cases decide ((6:Int)<(x.to.length:Int))<;>cases decide ((6:Int)<(x.left.length:Int))<;>cases decide ((6:Int)<(x.right.length:Int))<;>rfl
theorem UR{H H0:List ag}(hN:bp E){l:Lex}{n0:Nat}(hl:l.ok n0){p:Nat}{T:TypeId}(hp:H[p]?=some (.cells l.row T))(hc:bP H0 H)(k:List Fra):∀ (n i:Nat),i+n=(l.spells.l).length →
  M.go bZ H0 (.c hZ :: .lp ⟨(some [1,7]),[],true⟩ hZ H :: .blk 2 :: .c (.lv [1])::k) (kv [(1,.ptr p 0),(7,.int .i64 i)]) H =
   orE (bE (pL fun _ x=>tN x) i (l.spells.l.drop i)) (H.take H0.length) (M.go bZ H0 k (kv [(1,.ptr p 0)]) H)
 |0,i,h=>by
  have e:i=(l.spells.l).length:=by omega
  subst e
  rw [ao M hZ.eq_1]
  simp (maxSteps:=3000000) (maxDischargeDepth:=6) +contextual -implicitDefEqProofs only [amA M,amB,↓ae,↓aa,↓aj,↓ah,Nat.reduceBEq,Nat.reduceAdd,env,am,ea,Nat.lt_irrefl,List.drop_length,br,hp]
 |n+1,i,h=>by
  have hi:i<(l.spells.l).length:=by omega
  have hx:(l.spells.l)[i]?=some (l.spells.l)[i]:=List.getElem?_eq_getElem hi
  have hd:((l.spells.l).drop i)=(l.spells.l)[i]::(l.spells.l).drop (i+1):=List.drop_eq_getElem_cons hi
  have hm:(l.spells.l)[i]∈(l.spells.l):=List.getElem_mem hi
  have ih:=UR (H:=H) (H0:=H0) (hN:=hN) (l:=l) (n0:=n0) (hl:=hl) (p:=p) (T:=T) (hp:=hp) hc k n (i+1)  (by omega)
  simp only [kv_cons,kv_nil] at ih
  have hp':=fun L=>bS (L:=L) hp
  have w1:Wk H.length (.ptr p 0) (.ptr p 0):=wk_ptr (List.getElem?_eq_some_iff.1 hp).1
  have hx0:=hl.spells.all _ hm
  have e1:=Ng l.spells.l[i]
  rw [ao M hZ.eq_1]
  simp (maxSteps:=3000000) (maxDischargeDepth:=6) +contextual -implicitDefEqProofs only [amA M,amB,↓ae,↓aa,↓aj,↓ah,Nat.reduceBEq,Nat.reduceAdd,env,am,ea,hx,hd,hi,ih,amG,AV.cell,hp,hp',w1,bn hi hl.spells.len,aA hi,br,lC,AG M hN hx0.frm (more:=[43]) (by simp [aY]),AG M hN hx0.to (more:=[43]) (by simp [aY]),AG M hN hx0.left (more:=[43,35,86,67]) (by simp [aY]),AG M hN hx0.right (more:=[43,35,86,67]) (by simp [aY]),lr,e1,Bool.or_assoc,qE,hc]
theorem Tc(l:Lex)(x:ez):Fx l x=sel (decide (qn (fun t=>t.name == x.cls) 0 l.classes.l<0)) 5 (sel (!ofF [] x.glue||decide ((6:Int)<(x.glue.length:Int))) 1 (kN l x.feats.l)):=by
 rw [← Gt]
 unfold Fx xO
 rcases nL (fun t:aW=>t.name == x.cls) l.classes.l 0 with ⟨h1,h2⟩ | ⟨j,c,h1,h2,h3⟩
 ·rw [h1,h2];rfl
 ·rw [h1,h3,HA];rfl
theorem US{H H0:List ag}(hN:bp E)(hR:tm E){l:Lex}{n0:Nat}(hl:l.ok n0){p:Nat}{T:TypeId}(hp:H[p]?=some (.cells l.row T))(hc:bP H0 H)(k:List Fra):∀ (n i:Nat),i+n=(l.links.l).length →
  M.go bZ H0 (.c ib :: .lp ⟨(some [1,9]),[],true⟩ ib H :: .blk 4 :: .c (.lv [])::k) (kv [(1,.ptr p 0),(9,.int .i64 i)]) H =
   orE (bE (pL fun _ x=>Fx l x) i (l.links.l.drop i)) (H.take H0.length) (M.go bZ H0 k .leaf H)
 |0,i,h=>by
  have e:i=(l.links.l).length:=by omega
  subst e
  rw [ao M ib.eq_1]
  simp (maxSteps:=3000000) (maxDischargeDepth:=6) +contextual -implicitDefEqProofs only [amA M,amB,↓ae,↓aa,↓aj,↓ah,Nat.reduceBEq,Nat.reduceAdd,env,am,ea,Nat.lt_irrefl,List.drop_length,br,hp]
 |n+1,i,h=>by
  have hi:i<(l.links.l).length:=by omega
  have hx:(l.links.l)[i]?=some (l.links.l)[i]:=List.getElem?_eq_getElem hi
  have hd:((l.links.l).drop i)=(l.links.l)[i]::(l.links.l).drop (i+1):=List.drop_eq_getElem_cons hi
  have hm:(l.links.l)[i]∈(l.links.l):=List.getElem_mem hi
  have ih:=US (H:=H) (H0:=H0) (hN:=hN) (hR:=hR) (l:=l) (n0:=n0) (hl:=hl) (p:=p) (T:=T) (hp:=hp) hc k n (i+1)  (by omega)
  simp only [kv_cons,kv_nil] at ih
  have hp':=fun L=>bS (L:=L) hp
  have w1:Wk H.length (.ptr p 0) (.ptr p 0):=wk_ptr (List.getElem?_eq_some_iff.1 hp).1
  have hx0:=hl.links.all _ hm
  have e1:=Tc l l.links.l[i]
  rw [ao M ib.eq_1]
  simp (maxSteps:=3000000) (maxDischargeDepth:=6) +contextual -implicitDefEqProofs only [amA M,amB,↓ae,↓aa,↓aj,↓ah,Nat.reduceBEq,Nat.reduceAdd,env,am,ea,hx,hd,hi,ih,amG,AV.cell,hp,hp',w1,bn hi hl.links.len,aA hi,br,KA,wC M hR hl,AG M hN hx0.glue (more:=[]) (by simp),pN M hR hl hx0.feats.len,lr,e1,qE,LO,hc]
end
section
attribute [local congr] aP dR bF aQ bq aZ aR aE aF a6 a7
variable{E:bL}(M:dK dW E)
theorem TE(e:Int)(i:Nat)(l:List Int):uv (fun _ e=>e) i (e::l)=sel (!(e == 0)) e (uv (fun _ e=>e) (i+1) l):=rfl
theorem TF(i:Nat):uv (fun _ (e:Int)=>e) i []=0:=rfl
theorem lP(hN:bp E)(hR:tm E){l:Lex}{n:Nat}(hl:l.ok n){H:List ag}(hn:n≤H.length):M.run gh [.agg l.row] H=some (.ret (.int .u8 (dI l)),H):=by
 rw [aL M hR.truchmanref02_Check rfl (c:=oC) rfl,oC]
 have hp:(H++[ag.cells l.row aq])[H.length]?=some (.cells l.row aq):=by rw [cf];rfl
 have h0:=fun k He=>UQ M hl hp (cut_app H _) k (l.vowels.length-1) 1 (by omega) He rfl
 have h1:=fun k=>UR M hN hl hp (cut_app H _) k l.spells.l.length 0 (by omega)
 have h2:=fun k=>US M hN hR hl hp (cut_app H _) k l.links.l.length 0 (by omega)
 simp only [kv_cons,kv_nil,Int.ofNat_zero,(show ((1:Nat):Int)=1 from rfl),List.drop_zero,Oo] at h0 h1 h2
 have ho:=AG M hN hl.vowels (more:=[]) (by simp)
 have e1:uv (fun _ e=>e) 0 [Qo l,yk l,tO l,wB l,yl l,AN l]=sel (ofF [] l.vowels) (sel (On l.vowels) (sel (!(yk l == 0)) (yk l) (sel (!(tO l == 0)) (tO l) (sel (!(wB l == 0)) (wB l) (sel (!(yl l == 0)) (yl l) (AN l))))) 1) 1:=by
  simp only [TE,TF,Pv]
  cases ofF [] l.vowels with
  |false=>rfl
  |true=>
   cases On l.vowels with
   |false=>rfl
   |true=>
    simp only [sel]
    cases h5:AN l == 0 with
    |false=>rfl
    |true=>rw [eq_of_beq h5];rfl
 rw [dI,e1]
 cases hb:tO l == 0 with
 |false=>
  simp (maxSteps:=3000000) (maxDischargeDepth:=6) +contextual -implicitDefEqProofs only [amA M,amB,↓ae,↓aa,↓aj,↓ah,Nat.reduceBEq,Nat.reduceAdd,env,am,ea,h0,br,ho,G2 M hN hR hl,Fy M hN hR hl,hb]
 |true=>
  have hsh:=Nc (eq_of_beq hb)
  have e4:yl l=sel (decide ((16:Int)<(l.spells.l.length:Int))) 3 (uv (fun _ x=>tN x) 0 l.spells.l):=rfl
  have e5:AN l=sel (decide ((8:Int)<(l.links.l.length:Int))) 3 (uv (fun _ x=>Fx l x) 0 l.links.l):=rfl
  have h1':∀ (x:Option Out),orE (bE (pL fun _ x=>tN x) 0 l.spells.l) H x=sel (uv (fun _ x=>tN x) 0 l.spells.l == 0) x (some (.ret (.int .u8 (uv (fun _ x=>tN x) 0 l.spells.l)),H)):=fun x=>by
   rw [← Fw,LO]
  simp (maxSteps:=3000000) (maxDischargeDepth:=6) +contextual -implicitDefEqProofs only [amA M,amB,↓ae,↓aa,↓aj,↓ah,Nat.reduceBEq,Nat.reduceAdd,env,am,ea,h0,h1,h2,h1',br,ho,G2 M hN hR hl,Fy M hN hR hl,LR M hN hR hl hsh,hn,hb,rr]
  rw [e4,e5]
  cases decide ((16:Int)<(l.spells.l.length:Int))<;>cases decide ((8:Int)<(l.links.l.length:Int))<;>simp only [sel,slc]<;>rfl
end
section
attribute [local congr] aP dR bF aQ bq aZ aR aE aF a6 a7
variable{E:bL}(M:dK dW E)
abbrev w64(n:Int):Int:=IntKind.i64.wrap n
theorem Nh{H L:List ag}{k k':IntKind}{a b:Int}{T T':TypeId}(L2:List ag):bP (H++(.cells [.int k a] T::L)) (H++(.cells [.int k' b] T'::(L++L2))):=
 ⟨by simp,fun i x hi hx=>by
  rcases Nat.lt_trichotomy i H.length with h | h | h
  ·left;rw [List.getElem?_append_left h] at hx ⊢;exact hx
  ·subst h;rw [cf] at hx;right
   obtain rfl:_=x:=by simpa using hx
   intro c hc
   simp only [List.mem_singleton] at hc
   subst hc;exact wk_int _ _ _
  ·left
   obtain ⟨j,rfl⟩:∃ j,i=H.length+(j+1):=⟨i-H.length-1,by omega⟩
   rw [hp_getk] at hx ⊢
   simp only [List.getElem?_cons_succ] at hx ⊢
   have:j<L.length:=by simp at hi;omega
   rwa [List.getElem?_append_left this] at hx⟩
theorem Gu{H:List ag}{k k':IntKind}{a b:Int}{T T':TypeId}(L2:List ag):bP (H++[.cells [.int k a] T]) (H++(.cells [.int k' b] T'::L2)):=Nh (L:=[]) L2
theorem Qv{H L:List ag}{k k':IntKind}{a b:Int}{T T':TypeId}:bP (H++(.cells [.int k a] T::L)) (H++(.cells [.int k' b] T'::L)):=by
 have:=Nh (H:=H) (L:=L) (k:=k) (k':=k') (a:=a) (b:=b) (T:=T) (T':=T') []
 rwa [List.append_nil] at this
theorem Uh(H L:List ag)(y:ag):(H++(y::L)).take (H.length+(L.length+1))=H++(y::L):=List.take_of_length_le (by simp)
theorem Oq(H L:List ag)(y:ag):(H++(y::L)).take (H.length+1)=H++[y]:=by
 rw [List.take_append];simp
 exact List.take_of_length_le (by omega)
def RV(m:Int)(f:au):Int:=w64 (m+w64 (w64 (1+(f.name.length:Int))+(f.value.length:Int)))
def I9(m:Int)(b:List au):Int:=w64 ((b.take 100).foldl RV m+(b.length:Int))
theorem LS{n m:Nat}(h:m=min 100 n):(decide (m<n)&&decide ((m:Int)<100))=false:=by
 rw [Bool.eq_false_iff];simp;omega
theorem Ot{i m n:Nat}(h:m=min 100 n)(hi:i<m):decide ((i:Int)<100)=true:=decide_eq_true (by omega)
theorem gr1{H H0:List ag}{L:List ag}{T:TypeId}{b Lf:List au}(hM:Lf.length=min 100 b.length)(hL:∀ k,k<Lf.length→b[k]?=Lf[k]?){tg:Tag}(k:List Fra):∀ (n i:Nat) (m:Int) (He:List ag),i+n=Lf.length →
  M.go cS H0 (.c fR :: .lp ⟨(some [0,1,3]),[],false⟩ fR He :: .blk 0 :: .c (.lv [0,1])::k) (kv [(0,.slice tg 2 (b.map au.row)),(1,.ptr H.length 0),(3,.int .i64 i)]) (H++(.cells [.int .i64 m] T::L)) =
   (M.go cS H0 k (kv [(0,.slice tg 2 (b.map au.row)),(1,.ptr H.length 0)]) (H++(.cells [.int .i64 ((Lf.drop i).foldl RV m)] T::L)))
 |0,i,m,He,h=>by
  have e:i=Lf.length:=by omega
  subst e
  rw [ao M fR.eq_1]
  simp (maxSteps:=3000000) (maxDischargeDepth:=6) +contextual -implicitDefEqProofs only [amA M,amB,↓ae,↓aa,↓aj,↓ah,Nat.reduceBEq,Nat.reduceAdd,env,am,l9,Nat.lt_irrefl,List.drop_length,LS hM,List.foldl_nil]
 |n+1,i,m,He,h=>by
  have hi:i<Lf.length:=by omega
  have hx:Lf[i]?=some Lf[i]:=List.getElem?_eq_getElem hi
  have hd:(Lf.drop i)=Lf[i]::Lf.drop (i+1):=List.drop_eq_getElem_cons hi
  have hm:Lf[i]∈Lf:=List.getElem_mem hi
  have ih:=fun m He=>gr1 (H:=H) (H0:=H0) (L:=L) (T:=T) (b:=b) (Lf:=Lf) (hM:=hM) (hL:=hL) (tg:=tg) k n (i+1) m He (by omega)
  simp only [kv_cons,kv_nil] at ih
  have hib:i<b.length:=by omega
  have hxb:=(hL i hi).trans hx
  rw [ao M fR.eq_1]
  simp (maxSteps:=3000000) (maxDischargeDepth:=6) +contextual -implicitDefEqProofs only [amA M,amB,↓ae,↓aa,↓aj,↓ah,Nat.reduceBEq,Nat.reduceAdd,env,am,l9,hx,hd,hi,ih,amG,AV.cell,hib,hxb,Ot hM hi,aA hib,mL,bn (n:=100) (show i<100 by omega) (by simp [aY]),List.foldl_cons,RV]
theorem Eh(hg:E.fn gP=some cS){b:List au}{tg:Tag}(H L:List ag)(m:Int)(T:TypeId) :
  M.run gP [.slice tg 2 (b.map au.row),.ptr H.length 0] (H++(.cells [.int .i64 m] T::L))=some (.ret (.tuple []),H++(.cells [.int .i64 (I9 m b)] T::L)):=by
 rw [aL M hg rfl (c:=l8) rfl,l8]
 have h1:=fun k He=>gr1 M (H:=H) (H0:=H++(.cells [.int .i64 m] T::L)) (L:=L) (T:=T) (b:=b) (Lf:=b.take 100) (by simp) (Cu b 100) (tg:=tg) k (b.take 100).length 0 m He (by omega)
 simp only [kv_cons,kv_nil,Int.ofNat_zero,List.drop_zero] at h1
 simp (maxSteps:=3000000) (maxDischargeDepth:=6) +contextual -implicitDefEqProofs only [amA M,amB,↓ae,↓aa,↓aj,↓ah,Nat.reduceBEq,Nat.reduceAdd,env,am,l9,amG,AV.cell,Nat.reduceMul,Nat.reduceLeDiff,h1,Qv,Uh,wk_tuple,I9,lr_row1,List.set_cons_zero]
end
section
attribute [local congr] aP dR bF aQ bq aZ aR aE aF a6 a7
variable{E:bL}(M:dK dW E)
structure Ei (E:bL):Prop where
 truchmanlaw02_Great_1:E.fn gP=some cS
 truchmanlaw02_Great:E.fn kD=some aG
abbrev s4(m:Int):ag:=.cells [.int .i64 m] zd
abbrev ym(n:Nat):AV:=.fn (.func gP) [] [.ptr n 0]
def Ui(m:Int)(s:Str):Int:=w64 (m+w64 (1+(s.length:Int)))
def Ou(m:Int)(t:bA):Int:=w64 ((t.values.l.take 100).foldl Ui (w64 (m+w64 (1+(t.name.length:Int))))+(t.values.l.length:Int))
theorem gl0{H H0:List ag}{l:Lex}{p:Nat}{T:TypeId}(hp:H[p]?=some (.cells l.row T)){i0:Nat}{t:bA}(ht:l.traits.l[i0]?=some t){Lf:List Str}(hM:Lf.length=min 100 t.values.l.length)(hL:∀ k,k<Lf.length→t.values.l[k]?=Lf[k]?)(k:List Fra):∀ (n i:Nat) (m:Int) (He:List ag),i+n=Lf.length →
  M.go aG H0 (.c gS :: .lp ⟨(some [1,3,4,5,6]),[],false⟩ gS He :: .blk 2 :: .c (.lv [1,3,4,5])::k) (kv [(1,.ptr p 0),(3,.ptr H.length 0),(4,ym H.length),(5,.int .i64 i0),(6,.int .i64 i)]) (H++[s4 m]) =
   (M.go aG H0 k (kv [(1,.ptr p 0),(3,.ptr H.length 0),(4,ym H.length),(5,.int .i64 i0)]) (H++[s4 ((Lf.drop i).foldl Ui m)]))
 |0,i,m,He,h=>by
  have e:i=Lf.length:=by omega
  subst e
  rw [ao M gS.eq_1]
  simp (maxSteps:=3000000) (maxDischargeDepth:=6) +contextual -implicitDefEqProofs only [amA M,amB,↓ae,↓aa,↓aj,↓ah,Nat.reduceBEq,Nat.reduceAdd,env,am,bf,Nat.lt_irrefl,List.drop_length,LS hM,List.foldl_nil,bS hp,br,aA (List.getElem?_eq_some_iff.1 ht).1,ht,oo]
 |n+1,i,m,He,h=>by
  have hi:i<Lf.length:=by omega
  have hx:Lf[i]?=some Lf[i]:=List.getElem?_eq_getElem hi
  have hd:(Lf.drop i)=Lf[i]::Lf.drop (i+1):=List.drop_eq_getElem_cons hi
  have hm:Lf[i]∈Lf:=List.getElem_mem hi
  have ih:=fun m He=>gl0 (H:=H) (H0:=H0) (l:=l) (p:=p) (T:=T) (hp:=hp) (i0:=i0) (t:=t) (ht:=ht) (Lf:=Lf) (hM:=hM) (hL:=hL) k n (i+1) m He (by omega)
  simp only [kv_cons,kv_nil] at ih
  have hib:i<t.values.l.length:=by omega
  have hxb:=(hL i hi).trans hx
  rw [ao M gS.eq_1]
  simp (maxSteps:=3000000) (maxDischargeDepth:=6) +contextual -implicitDefEqProofs only [amA M,amB,↓ae,↓aa,↓aj,↓ah,Nat.reduceBEq,Nat.reduceAdd,env,am,bf,hx,hd,hi,ih,amG,AV.cell,Nat.reduceMul,Nat.reduceLeDiff,bS hp,br,aA (List.getElem?_eq_some_iff.1 ht).1,ht,oo,JK,hib,hxb,Ot hM hi,aA hib,bn (n:=100) (show i<100 by omega) (by simp [aY]),List.foldl_cons,Ui]
theorem gl1{H H0:List ag}{l:Lex}{n0:Nat}(hl:l.ok n0){p:Nat}{T:TypeId}(hp:H[p]?=some (.cells l.row T))(k:List Fra):∀ (n i:Nat) (m:Int) (He:List ag),i+n=(l.traits.l).length →
  M.go aG H0 (.c gT :: .lp ⟨(some [1,3,4,5]),[],false⟩ gT He :: .blk 0 :: .c (.lv [1,3,4])::k) (kv [(1,.ptr p 0),(3,.ptr H.length 0),(4,ym H.length),(5,.int .i64 i)]) (H++[s4 m]) =
   (M.go aG H0 k (kv [(1,.ptr p 0),(3,.ptr H.length 0),(4,ym H.length)]) (H++[s4 ((l.traits.l.drop i).foldl Ou m)]))
 |0,i,m,He,h=>by
  have e:i=(l.traits.l).length:=by omega
  subst e
  rw [ao M gT.eq_1]
  simp (maxSteps:=3000000) (maxDischargeDepth:=6) +contextual -implicitDefEqProofs only [amA M,amB,↓ae,↓aa,↓aj,↓ah,Nat.reduceBEq,Nat.reduceAdd,env,am,bf,Nat.lt_irrefl,List.drop_length,List.foldl_nil,bS hp,br]
 |n+1,i,m,He,h=>by
  have hi:i<(l.traits.l).length:=by omega
  have hx:(l.traits.l)[i]?=some (l.traits.l)[i]:=List.getElem?_eq_getElem hi
  have hd:((l.traits.l).drop i)=(l.traits.l)[i]::(l.traits.l).drop (i+1):=List.drop_eq_getElem_cons hi
  have hm:(l.traits.l)[i]∈(l.traits.l):=List.getElem_mem hi
  have ih:=fun m He=>gl1 (H:=H) (H0:=H0) (l:=l) (n0:=n0) (hl:=hl) (p:=p) (T:=T) (hp:=hp) k n (i+1) m He (by omega)
  simp only [kv_cons,kv_nil] at ih
  have h0:=fun m k He=>gl0 M (H0:=H0) hp (i0:=i) hx (Lf:=l.traits.l[i].values.l.take 100) (by simp) (Cu _ 100) k (l.traits.l[i].values.l.take 100).length 0 m He (by omega)
  simp only [kv_cons,kv_nil,Int.ofNat_zero,List.drop_zero] at h0
  rw [ao M gT.eq_1]
  simp (maxSteps:=3000000) (maxDischargeDepth:=6) +contextual -implicitDefEqProofs only [amA M,amB,↓ae,↓aa,↓aj,↓ah,Nat.reduceBEq,Nat.reduceAdd,env,am,bf,hx,hd,hi,ih,amG,AV.cell,Nat.reduceMul,Nat.reduceLeDiff,bS hp,br,aA hi,oo,h0,bn hi hl.traits.len,List.foldl_cons,Ou]
def RW(m:Int)(s:bz):Int:=I9 (w64 (m+w64 (w64 (1+(s.pre.length:Int))+(s.add.length:Int)))) s.feats.l
def RY(c:aW):Bool:=decide ((12:Int)<(c.slots.l.length:Int))&&decide ((c.slots.l.length:Int)≤24)||decide ((60:Int)<(c.slots.l.length:Int))
def Ov(m:Int)(c:aW):Int:=c.slots.l.foldl RW (w64 (m+w64 (1+(c.name.length:Int))))
theorem gl2{H H0:List ag}(hg:Ei E){l:Lex}{n0:Nat}(hl:l.ok n0){p:Nat}{T:TypeId}(hp:H[p]?=some (.cells l.row T)){i0:Nat}{c:aW}(hci:l.classes.l[i0]?=some c)(k:List Fra):∀ (n i:Nat) (m:Int),i+n=(c.slots.l).length →
  M.go aG H0 (.c gV :: .lp ⟨(some [1,3,4,7,8]),[],true⟩ gV (H++[s4 m]) :: .blk 6 :: .c (.lv [1,3,4,7])::k) (kv [(1,.ptr p 0),(3,.ptr H.length 0),(4,ym H.length),(7,.int .i64 i0),(8,.int .i64 i)]) (H++[s4 m]) =
   (M.go aG H0 k (kv [(1,.ptr p 0),(3,.ptr H.length 0),(4,ym H.length),(7,.int .i64 i0)]) (H++[s4 ((c.slots.l.drop i).foldl RW m)]))
 |0,i,m,h=>by
  have e:i=(c.slots.l).length:=by omega
  subst e
  rw [ao M gV.eq_1]
  simp (maxSteps:=3000000) (maxDischargeDepth:=6) +contextual -implicitDefEqProofs only [amA M,amB,↓ae,↓aa,↓aj,↓ah,Nat.reduceBEq,Nat.reduceAdd,env,am,bf,Nat.lt_irrefl,List.drop_length,List.foldl_nil,bS hp,br,aA (List.getElem?_eq_some_iff.1 hci).1,hci,gL]
 |n+1,i,m,h=>by
  have hi:i<(c.slots.l).length:=by omega
  have hx:(c.slots.l)[i]?=some (c.slots.l)[i]:=List.getElem?_eq_getElem hi
  have hd:((c.slots.l).drop i)=(c.slots.l)[i]::(c.slots.l).drop (i+1):=List.drop_eq_getElem_cons hi
  have hm:(c.slots.l)[i]∈(c.slots.l):=List.getElem_mem hi
  have ih:=fun m=>gl2 (H:=H) (H0:=H0) (hg:=hg) (l:=l) (n0:=n0) (hl:=hl) (p:=p) (T:=T) (hp:=hp) (i0:=i0) (c:=c) (hci:=hci) k n (i+1) m (by omega)
  simp only [kv_cons,kv_nil] at ih
  have hco:=hl.classes.all c (List.mem_of_getElem? hci)
  have hpl:=(List.getElem?_eq_some_iff.1 hp).1
  have w1:Wk (H.length+1) (.ptr p 0) (.ptr p 0):=wk_ptr (by omega)
  have w2:Wk (H.length+1) (.ptr H.length 0) (.ptr H.length 0):=wk_ptr (by omega)
  have w3:Wk (H.length+1) (ym H.length) (ym H.length):=wk_fn trivial ⟨wk_ptr (by omega),trivial⟩
  rw [ao M gV.eq_1]
  simp (maxSteps:=3000000) (maxDischargeDepth:=6) +contextual -implicitDefEqProofs only [amA M,amB,↓ae,↓aa,↓aj,↓ah,Nat.reduceBEq,Nat.reduceAdd,env,am,bf,hx,hd,hi,ih,amG,AV.cell,Nat.reduceMul,Nat.reduceLeDiff,bS hp,w1,w2,w3,Gu,Oq,br,aA (List.getElem?_eq_some_iff.1 hci).1,hci,gL,aA hi,gO,Eh M hg.truchmanlaw02_Great_1,bn hi hco.slots.len,List.foldl_cons,RW]
theorem gl3{H H0:List ag}(hg:Ei E){l:Lex}{n0:Nat}(hl:l.ok n0){p:Nat}{T:TypeId}(hp:H[p]?=some (.cells l.row T))(hc:bP H0 H)(k:List Fra):∀ (n i:Nat) (m:Int),i+n=(l.classes.l).length →
  M.go aG H0 (.c gW :: .lp ⟨(some [1,3,4,7]),[],true⟩ gW (H++[s4 m]) :: .blk 4 :: .c (.lv [1,3,4])::k) (kv [(1,.ptr p 0),(3,.ptr H.length 0),(4,ym H.length),(7,.int .i64 i)]) (H++[s4 m]) =
   sel ((l.classes.l.drop i).any RY) (some (.ret (.bool true),H.take H0.length)) (M.go aG H0 k (kv [(1,.ptr p 0),(3,.ptr H.length 0),(4,ym H.length)]) (H++[s4 ((l.classes.l.drop i).foldl Ov m)]))
 |0,i,m,h=>by
  have e:i=(l.classes.l).length:=by omega
  subst e
  rw [ao M gW.eq_1]
  simp (maxSteps:=3000000) (maxDischargeDepth:=6) +contextual -implicitDefEqProofs only [amA M,amB,↓ae,↓aa,↓aj,↓ah,Nat.reduceBEq,Nat.reduceAdd,env,am,bf,Nat.lt_irrefl,List.drop_length,List.foldl_nil,List.any_nil,bS hp,br]
 |n+1,i,m,h=>by
  have hi:i<(l.classes.l).length:=by omega
  have hx:(l.classes.l)[i]?=some (l.classes.l)[i]:=List.getElem?_eq_getElem hi
  have hd:((l.classes.l).drop i)=(l.classes.l)[i]::(l.classes.l).drop (i+1):=List.drop_eq_getElem_cons hi
  have hm:(l.classes.l)[i]∈(l.classes.l):=List.getElem_mem hi
  have ih:=fun m=>gl3 (H:=H) (H0:=H0) (hg:=hg) (l:=l) (n0:=n0) (hl:=hl) (p:=p) (T:=T) (hp:=hp) hc k n (i+1) m (by omega)
  simp only [kv_cons,kv_nil] at ih
  have hco:=hl.classes.all _ hm
  have hpl:=(List.getElem?_eq_some_iff.1 hp).1
  have w1:Wk (H.length+1) (.ptr p 0) (.ptr p 0):=wk_ptr (by omega)
  have w2:Wk (H.length+1) (.ptr H.length 0) (.ptr H.length 0):=wk_ptr (by omega)
  have w3:Wk (H.length+1) (ym H.length) (ym H.length):=wk_fn trivial ⟨wk_ptr (by omega),trivial⟩
  have h0:=fun m k=>gl2 M (H0:=H0) hg hl hp (i0:=i) hx k l.classes.l[i].slots.l.length 0 m (by omega)
  simp only [kv_cons,kv_nil,Int.ofNat_zero,List.drop_zero] at h0
  rw [ao M gW.eq_1]
  simp (maxSteps:=3000000) (maxDischargeDepth:=6) +contextual -implicitDefEqProofs only [amA M,amB,↓ae,↓aa,↓aj,↓ah,Nat.reduceBEq,Nat.reduceAdd,env,am,bf,hx,hd,hi,ih,amG,AV.cell,Nat.reduceMul,Nat.reduceLeDiff,bS hp,w1,w2,w3,Gu,Oq,br,aA hi,gL,h0,bn hi hl.classes.len,List.foldl_cons,List.any_cons,Ov,RY,hc]
  generalize (decide ((12:Int)<(l.classes.l[i].slots.l.length:Int))&&decide ((l.classes.l[i].slots.l.length:Int)≤24)||decide ((60:Int)<(l.classes.l[i].slots.l.length:Int)))=b
  cases b<;>simp only [slc,Bool.true_or,Bool.false_or]
end
section
attribute [local congr] aP dR bF aQ bq aZ aR aE aF a6 a7
variable{E:bL}(M:dK dW E)
def irN(m:Int)(f:bT):Int:=w64 (m+(f.word.length:Int))
def Ow(m:Int)(x:az):Int:=(x.forms.l.take 100).foldl irN (I9 (w64 (m+w64 (w64 (w64 (1+(x.lem.length:Int))+(x.cls.length:Int))+(x.forms.l.length:Int)))) x.feats.l)
theorem gl4{H H0:List ag}{x:az}{T2:TypeId}{p i0:Nat}{Lf:List bT}(hM:Lf.length=min 100 x.forms.l.length)(hL:∀ k,k<Lf.length→x.forms.l[k]?=Lf[k]?)(k:List Fra):∀ (n i:Nat) (m:Int) (He:List ag),i+n=Lf.length →
  M.go aG H0 (.c gX :: .lp ⟨(some [1,3,4,10,11,12]),[],false⟩ gX He :: .blk 10 :: .c (.lv [1,3,4,10])::k) (kv [(1,.ptr p 0),(3,.ptr H.length 0),(4,ym H.length),(10,.int .i64 i0),(11,.ptr (H.length+1) 0),(12,.int .i64 i)]) (H++[s4 m,.cells x.row T2]) =
   (M.go aG H0 k (kv [(1,.ptr p 0),(3,.ptr H.length 0),(4,ym H.length),(10,.int .i64 i0)]) (H++[s4 ((Lf.drop i).foldl irN m),.cells x.row T2]))
 |0,i,m,He,h=>by
  have e:i=Lf.length:=by omega
  subst e
  rw [ao M gX.eq_1]
  simp (maxSteps:=3000000) (maxDischargeDepth:=6) +contextual -implicitDefEqProofs only [amA M,amB,↓ae,↓aa,↓aj,↓ah,Nat.reduceBEq,Nat.reduceAdd,env,am,bf,Nat.lt_irrefl,List.drop_length,LS hM,List.foldl_nil,cD]
 |n+1,i,m,He,h=>by
  have hi:i<Lf.length:=by omega
  have hx:Lf[i]?=some Lf[i]:=List.getElem?_eq_getElem hi
  have hd:(Lf.drop i)=Lf[i]::Lf.drop (i+1):=List.drop_eq_getElem_cons hi
  have hm:Lf[i]∈Lf:=List.getElem_mem hi
  have ih:=fun m He=>gl4 (H:=H) (H0:=H0) (x:=x) (T2:=T2) (p:=p) (i0:=i0) (Lf:=Lf) (hM:=hM) (hL:=hL) k n (i+1) m He (by omega)
  simp only [kv_cons,kv_nil] at ih
  have hib:i<x.forms.l.length:=by omega
  have hxb:=(hL i hi).trans hx
  rw [ao M gX.eq_1]
  simp (maxSteps:=3000000) (maxDischargeDepth:=6) +contextual -implicitDefEqProofs only [amA M,amB,↓ae,↓aa,↓aj,↓ah,Nat.reduceBEq,Nat.reduceAdd,env,am,bf,hx,hd,hi,ih,amG,AV.cell,Nat.reduceMul,Nat.reduceLeDiff,cD,Aj,hib,hxb,Ot hM hi,aA hib,bn (n:=100) (show i<100 by omega) (by simp [aY]),List.foldl_cons,irN]
theorem gl5{H H0:List ag}(hg:Ei E){l:Lex}{n0:Nat}(hl:l.ok n0){p:Nat}{T:TypeId}(hp:H[p]?=some (.cells l.row T))(k:List Fra):∀ (n i:Nat) (m:Int),i+n=(l.entries.l).length →
  M.go aG H0 (.c gY :: .lp ⟨(some [1,3,4,10]),[],true⟩ gY (H++[s4 m]) :: .blk 8 :: .c (.lv [1,3,4])::k) (kv [(1,.ptr p 0),(3,.ptr H.length 0),(4,ym H.length),(10,.int .i64 i)]) (H++[s4 m]) =
   (M.go aG H0 k (kv [(1,.ptr p 0),(3,.ptr H.length 0),(4,ym H.length)]) (H++[s4 ((l.entries.l.drop i).foldl Ow m)]))
 |0,i,m,h=>by
  have e:i=(l.entries.l).length:=by omega
  subst e
  rw [ao M gY.eq_1]
  simp (maxSteps:=3000000) (maxDischargeDepth:=6) +contextual -implicitDefEqProofs only [amA M,amB,↓ae,↓aa,↓aj,↓ah,Nat.reduceBEq,Nat.reduceAdd,env,am,bf,Nat.lt_irrefl,List.drop_length,List.foldl_nil,bS hp,br]
 |n+1,i,m,h=>by
  have hi:i<(l.entries.l).length:=by omega
  have hx:(l.entries.l)[i]?=some (l.entries.l)[i]:=List.getElem?_eq_getElem hi
  have hd:((l.entries.l).drop i)=(l.entries.l)[i]::(l.entries.l).drop (i+1):=List.drop_eq_getElem_cons hi
  have hm:(l.entries.l)[i]∈(l.entries.l):=List.getElem_mem hi
  have ih:=fun m=>gl5 (H:=H) (H0:=H0) (hg:=hg) (l:=l) (n0:=n0) (hl:=hl) (p:=p) (T:=T) (hp:=hp) k n (i+1) m (by omega)
  simp only [kv_cons,kv_nil] at ih
  have hpl:=(List.getElem?_eq_some_iff.1 hp).1
  have w1:Wk (H.length+1) (.ptr p 0) (.ptr p 0):=wk_ptr (by omega)
  have w2:Wk (H.length+1) (.ptr H.length 0) (.ptr H.length 0):=wk_ptr (by omega)
  have w3:Wk (H.length+1) (ym H.length) (ym H.length):=wk_fn trivial ⟨wk_ptr (by omega),trivial⟩
  have h0:=fun m k He=>gl4 M (H:=H) (H0:=H0) (x:=l.entries.l[i]) (T2:=bG) (p:=p) (i0:=i) (Lf:=l.entries.l[i].forms.l.take 100) (by simp) (Cu _ 100) k (l.entries.l[i].forms.l.take 100).length 0 m He (by omega)
  simp only [kv_cons,kv_nil,Int.ofNat_zero,List.drop_zero] at h0
  rw [ao M gY.eq_1]
  simp (maxSteps:=3000000) (maxDischargeDepth:=6) +contextual -implicitDefEqProofs only [amA M,amB,↓ae,↓aa,↓aj,↓ah,Nat.reduceBEq,Nat.reduceAdd,env,am,bf,hx,hd,hi,ih,amG,AV.cell,Nat.reduceMul,Nat.reduceLeDiff,bS hp,w1,w2,w3,Gu,Oq,br,aA hi,cD,h0,Eh M hg.truchmanlaw02_Great_1,bn hi hl.entries.len,List.foldl_cons,Ow]
def Ox(m:Int)(x:bt):Int:=w64 (m+w64 (w64 (w64 ((x.frm.length:Int)+(x.to.length:Int))+(x.left.length:Int))+(x.right.length:Int)))
def RZ(m:Int)(x:ez):Int:=I9 (w64 (m+w64 ((x.cls.length:Int)+(x.glue.length:Int)))) x.feats.l
theorem gl6{H H0:List ag}{l:Lex}{n0:Nat}(hl:l.ok n0){p:Nat}{T:TypeId}(hp:H[p]?=some (.cells l.row T))(k:List Fra):∀ (n i:Nat) (m:Int) (He:List ag),i+n=(l.spells.l).length →
  M.go aG H0 (.c gZ :: .lp ⟨(some [1,3,4,13]),[],false⟩ gZ He :: .blk 12 :: .c (.lv [1,3,4])::k) (kv [(1,.ptr p 0),(3,.ptr H.length 0),(4,ym H.length),(13,.int .i64 i)]) (H++[s4 m]) =
   (M.go aG H0 k (kv [(1,.ptr p 0),(3,.ptr H.length 0),(4,ym H.length)]) (H++[s4 ((l.spells.l.drop i).foldl Ox m)]))
 |0,i,m,He,h=>by
  have e:i=(l.spells.l).length:=by omega
  subst e
  rw [ao M gZ.eq_1]
  simp (maxSteps:=3000000) (maxDischargeDepth:=6) +contextual -implicitDefEqProofs only [amA M,amB,↓ae,↓aa,↓aj,↓ah,Nat.reduceBEq,Nat.reduceAdd,env,am,bf,Nat.lt_irrefl,List.drop_length,List.foldl_nil,bS hp,br]
 |n+1,i,m,He,h=>by
  have hi:i<(l.spells.l).length:=by omega
  have hx:(l.spells.l)[i]?=some (l.spells.l)[i]:=List.getElem?_eq_getElem hi
  have hd:((l.spells.l).drop i)=(l.spells.l)[i]::(l.spells.l).drop (i+1):=List.drop_eq_getElem_cons hi
  have hm:(l.spells.l)[i]∈(l.spells.l):=List.getElem_mem hi
  have ih:=fun m He=>gl6 (H:=H) (H0:=H0) (l:=l) (n0:=n0) (hl:=hl) (p:=p) (T:=T) (hp:=hp) k n (i+1) m He (by omega)
  simp only [kv_cons,kv_nil] at ih
  rw [ao M gZ.eq_1]
  simp (maxSteps:=3000000) (maxDischargeDepth:=6) +contextual -implicitDefEqProofs only [amA M,amB,↓ae,↓aa,↓aj,↓ah,Nat.reduceBEq,Nat.reduceAdd,env,am,bf,hx,hd,hi,ih,amG,AV.cell,Nat.reduceMul,Nat.reduceLeDiff,bS hp,br,aA hi,lC,bn hi hl.spells.len,List.foldl_cons,Ox]
theorem gl7{H H0:List ag}(hg:Ei E){l:Lex}{n0:Nat}(hl:l.ok n0){p:Nat}{T:TypeId}(hp:H[p]?=some (.cells l.row T))(k:List Fra):∀ (n i:Nat) (m:Int) (He:List ag),i+n=(l.links.l).length →
  M.go aG H0 (.c hJ :: .lp ⟨(some [1,3,4,14]),[],false⟩ hJ He :: .blk 14 :: .c (.lv [3])::k) (kv [(1,.ptr p 0),(3,.ptr H.length 0),(4,ym H.length),(14,.int .i64 i)]) (H++[s4 m]) =
   (M.go aG H0 k (kv [(3,.ptr H.length 0)]) (H++[s4 ((l.links.l.drop i).foldl RZ m)]))
 |0,i,m,He,h=>by
  have e:i=(l.links.l).length:=by omega
  subst e
  rw [ao M hJ.eq_1]
  simp (maxSteps:=3000000) (maxDischargeDepth:=6) +contextual -implicitDefEqProofs only [amA M,amB,↓ae,↓aa,↓aj,↓ah,Nat.reduceBEq,Nat.reduceAdd,env,am,bf,Nat.lt_irrefl,List.drop_length,List.foldl_nil,bS hp,br]
 |n+1,i,m,He,h=>by
  have hi:i<(l.links.l).length:=by omega
  have hx:(l.links.l)[i]?=some (l.links.l)[i]:=List.getElem?_eq_getElem hi
  have hd:((l.links.l).drop i)=(l.links.l)[i]::(l.links.l).drop (i+1):=List.drop_eq_getElem_cons hi
  have hm:(l.links.l)[i]∈(l.links.l):=List.getElem_mem hi
  have ih:=fun m He=>gl7 (H:=H) (H0:=H0) (hg:=hg) (l:=l) (n0:=n0) (hl:=hl) (p:=p) (T:=T) (hp:=hp) k n (i+1) m He (by omega)
  simp only [kv_cons,kv_nil] at ih
  rw [ao M hJ.eq_1]
  simp (maxSteps:=3000000) (maxDischargeDepth:=6) +contextual -implicitDefEqProofs only [amA M,amB,↓ae,↓aa,↓aj,↓ah,Nat.reduceBEq,Nat.reduceAdd,env,am,bf,hx,hd,hi,ih,amG,AV.cell,Nat.reduceMul,Nat.reduceLeDiff,bS hp,br,aA hi,KA,Eh M hg.truchmanlaw02_Great_1,bn hi hl.links.len,List.foldl_cons,RZ]
def R0(l:Lex):Bool:=
 decide ((60:Int)<(l.entries.l.length:Int))&&decide ((l.entries.l.length:Int)≤128)||decide ((200:Int)<(l.entries.l.length:Int))||decide ((40:Int)<(l.traits.l.length:Int))||decide ((40:Int)<(l.classes.l.length:Int))||decide ((40:Int)<(l.spells.l.length:Int))||decide ((40:Int)<(l.links.l.length:Int)) ||
  (l.classes.l.any RY||decide (6000<l.links.l.foldl RZ (l.spells.l.foldl Ox (l.entries.l.foldl Ow (l.classes.l.foldl Ov (l.traits.l.foldl Ou (l.vowels.length:Int)))))))
theorem Qw(hg:Ei E){l:Lex}{n:Nat}(hl:l.ok n)(H:List ag):M.run kD [.agg l.row] H=some (.ret (.bool (R0 l)),H):=by
 rw [aL M hg.truchmanlaw02_Great rfl (c:=oA) rfl,oA]
 have hp:(H++[ag.cells l.row aq])[H.length]?=some (.cells l.row aq):=by rw [cf];rfl
 have h1:=fun m k He=>gl1 M (H0:=H) hl hp k l.traits.l.length 0 m He (by omega)
 have h3:=fun m k=>gl3 M (H0:=H) hg hl hp (cut_app H _) k l.classes.l.length 0 m (by omega)
 have h5:=fun m k=>gl5 M (H0:=H) hg hl hp k l.entries.l.length 0 m (by omega)
 have h6:=fun m k He=>gl6 M (H0:=H) hl hp k l.spells.l.length 0 m He (by omega)
 have h7:=fun m k He=>gl7 M (H0:=H) hg hl hp k l.links.l.length 0 m He (by omega)
 simp only [kv_cons,kv_nil,Int.ofNat_zero,List.drop_zero,lo_app3,LI,lo_app0,lo_len,lo_len1,lo_len0,Nat.zero_add,hp_take] at h1 h3 h5 h6 h7
 simp (maxSteps:=3000000) (maxDischargeDepth:=6) +contextual -implicitDefEqProofs only [amA M,amB,↓ae,↓aa,↓aj,↓ah,Nat.reduceBEq,Nat.reduceAdd,env,am,bf,amG,AV.cell,Nat.reduceMul,Nat.reduceLeDiff,h1,h3,h5,h6,h7,br,R0,Bool.or_assoc]
end
section
attribute [local congr] aP dR bF aQ bq aZ aR aE aF a6 a7
variable{E:bL}(M:dK dW E)
structure rU (M:dK dW E):Prop where
 index:∀ (s:Str) (c:UInt8) (H:List ag),M.run dt [.str s,.int .u8 c.toNat] H=some (.ret (.int .i64 (Lib.indexByte s c)),H)
 same:∀ (i o:Nat) (H:List ag),M.run gR [.ptr i o] H=some (.ret (.ptr i o),H)
structure s5 (E:bL):Prop where
 strings_Builder_WriteString:E.fn aH=some cO
 strings_Builder_WriteByte:E.fn fg=some da
 strings_Builder_String:E.fn di=some dX
 strings_Builder_Len:E.fn oq=some eX
 strings_Builder_copyCheck:E.fn cB=some dc
abbrev gG(s:Str):List (List AV):=s.map fun b=>[.int .u8 (b.toNat:Int)]
abbrev bTok(w:Str):ag:=.tok w.length dN
abbrev kB(a:AV)(n:Nat)(w:Str)(T:TypeId):ag:=.cells [a,.slice (.own n) 1 (gG w)] T
theorem Oy(s:Str):ri 1 (gG s)=true:=by simp [ri,gG,AV.cell]
theorem Fz:∀ s:Str,qX (gG s)=some s
 |[]=>rfl
 |c::s=>by
  have:=Fz s
  simp only [gG] at this ⊢
  simp only [List.map_cons,qX,this,Option.map_some]
  congr 2
  simp
theorem Ni:∀ s:Str,CL (gG s)=true
 |[]=>rfl
 |c::s=>by
  have:=Ni s
  simp only [gG] at this ⊢
  simp only [List.map_cons,CL,this,Bool.and_true,Bool.and_eq_true,decide_eq_true_eq]
  have:=c.toNat_lt
  omega
theorem KS(w s:Str):gG (w++s)=gG w++(gG s).map (·.map AV.strip):=by
 simp only [gG,List.map_append,List.map_map]
 congr 1
theorem R1(H L:List ag){w s:Str}(h:w.length+s.length≤140737488355328)(x:AV)(hx:∀ H,DT H 1 true x=some (gG s)) :
  rap false (H++(bTok w::L)) dN 1 1 true (.slice (.own H.length) 1 (gG w)) x=some (.slice (.own H.length) 1 (gG (w++s)),H++(bTok (w++s)::L)):=by
 have h1:(gG w).length=w.length:=by simp [gG]
 have h2:(gG s).length=s.length:=by simp [gG]
 have hc:(w.length+s.length)*1≤140737488355328∧w.length+s.length≤4611686018427387904∧ri 1 (gG s)=true:=⟨by omega,by omega,Oy s⟩
 rw [KS]
 cases s with
 |nil=>simp [rap,EU,hx,h1,gG,ri];simp at h;omega
 |cons c s=>
  simp only [rap,EU,hx,h1,h2,or_true,true_and,hc,if_true,and_self]
  simp only [gG,List.map_cons,cf,List.getElem?_cons_zero,hp_set0,List.set_cons_zero,Nat.mul_one,List.length_cons,List.length_map,and_self,if_true,List.length_append,bTok]
theorem Td(s:Str)(H:List ag):DT H 1 true (.str s)=some (gG s):=by simp [DT]
theorem Oz(H L:List ag){w s:Str}(h:w.length+s.length≤140737488355328) :
  rap false (H++(bTok w::L)) dN 1 1 true (.slice (.own H.length) 1 (gG w)) (.str s)=some (.slice (.own H.length) 1 (gG (w++s)),H++(bTok (w++s)::L)):=R1 H L h _ (Td s)
theorem Pw(H L:List ag){w:Str}{c:UInt8}(h:w.length+1≤140737488355328) :
  rap false (H++(bTok w::L)) dN 1 1 false (.slice (.own H.length) 1 (gG w)) (.slice .full 1 [[.int .u8 (c.toNat:Int)]])=some (.slice (.own H.length) 1 (gG (w++[c])),H++(bTok (w++[c])::L)):=by
 have h1:(gG w).length=w.length:=by simp [gG]
 have hc:(w.length+1)*1≤140737488355328∧w.length+1≤4611686018427387904:=⟨by omega,by omega⟩
 simp only [rap,EU,DT,h1,or_true,if_true,List.length_cons,List.length_nil,Nat.zero_add,true_and,hc,and_self]
 simp [ri,AV.cell,cf,hp_set0,KS,gG,AV.strip,h1,List.map_append]
theorem TG(H L:List ag)(w:Str)(hw:w.length≤9223372036854775807):Lq (H++(bTok w::L)) dN (.sdp H.length (gG w)) (.int .i64 (w.length:Int))=some (.str w):=by
 cases w with
 |nil=>simp [gG,Lq]
 |cons c w=>
  have h1:=Fz (c::w)
  have h2:=Ni (c::w)
  simp only [gG,List.map_cons] at h1 h2 ⊢
  simp only [Lq,cf,List.getElem?_cons_zero,h1,h2]
  rw [if_pos]
  exact ⟨trivial,trivial,Nat.le_refl _,hw,trivial⟩
theorem TH(n:Nat)(w:Str):PO (.slice (.own n) 1 (gG w))=some (.sdp n (gG w)):=by cases w<;>rfl
theorem FA{H L:List ag}{n n':Nat}{T T' T1 T2:TypeId}{cs cs':List AV}(h:WkL (H.length+(L.length+1+1)) cs' cs'):bP (H++(.tok n T :: .cells cs T1::L)) (H++(.tok n' T' :: .cells cs' T2::L)):=
 ⟨by simp,fun i x hi hx=>by
  rcases Nat.lt_trichotomy i H.length with hl | hl | hl
  ·left;rw [List.getElem?_append_left hl] at hx ⊢;exact hx
  ·subst hl;rw [cf] at hx;right
   obtain rfl:_=x:=by simpa using hx
   trivial
  ·obtain ⟨j,rfl⟩:∃ j,i=H.length+(j+1):=⟨i-H.length-1,by omega⟩
   rw [hp_getk] at hx ⊢
   cases j with
   |zero=>
    right
    obtain rfl:_=x:=by simpa using hx
    intro c hc
    obtain ⟨k,hk⟩:=List.getElem?_of_mem hc
    obtain ⟨y,h1,h2⟩:=h.get k c hk
    rw [hk] at h1;cases h1
    simpa [Nat.add_assoc] using h2
   |succ j=>left;simpa using hx⟩
theorem uy(H L:List ag)(x y:ag):(H++(x::y::L)).take (H.length+(L.length+1+1))=H++(x::y::L):=List.take_of_length_le (by simp)
theorem Nj(n:Nat)(w:Str):pr n (gG w):=by
 rw [rowsWk_map];exact fun _ _=>⟨wk_int _ _ _,trivial⟩
theorem R2(H L:List ag)(w:Str):WkL (H.length+(L.length+1+1)) [.ptr (H.length+1) 0,.slice (.own H.length) 1 (gG w)] [.ptr (H.length+1) 0,.slice (.own H.length) 1 (gG w)]:=
 ⟨wk_ptr (by omega),wk_slice (show H.length<_ by omega) (Nj _ _),trivial⟩
theorem qU:(∀ (a:Env) (H:List ag) (x:RX),rop a H (.usl x)=cJ H (PO (rx a x)))∧(∀ (a:Env) (H:List ag) (e:TypeId) (x n:RX),rop a H (.ust e x n)=cJ H (Lq H e (rx a x) (rx a n)))∧(∀ (a:Env) (H:List ag) (x:RX),rop a H (.cvu x)=cJ H (NN H (rx a x)))∧(∀ (a:Env) (H:List ag) (u:TypeId) (sz:Nat) (x:RX),rop a H (.cvf u sz x)=cJ H (NO H u sz (rx a x))) ∧
 (∀ (a:Env) (H:List ag) (cs:List AV) (e:TypeId) (j:Nat) (T:TypeId),rop a H (.nwb cs e j T)=some (.ptr (H.length+1) 0,H++[.tok 0 T,.cells (cs.set j (.slice (.own H.length) 1 [])) e])):=
 ⟨fun _ _ _=>rfl,fun _ _ _ _ _=>rfl,fun _ _ _=>rfl,fun _ _ _ _ _=>rfl,fun _ _ _ _ _ _=>rfl⟩
theorem Nk:req .ptr .nilp .nilp=some true:=rfl
theorem Ja(i o:Nat):req .ptr (.ptr i o) .nilp=some false:=rfl
theorem Nl(i o:Nat):req .ptr (.ptr i o) (.ptr i o)=some true:=by simp [req]
theorem UT(H L:List ag)(x:ag)(a b:AV)(T:TypeId):NN (H++(x :: .cells [a,b] T::L)) (.ptr (H.length+1) 0)=some (.ptr (H.length+1) 0):=by
 simp [NN,hp_getk]
theorem UU(H L:List ag)(x:ag)(a b:AV)(T:TypeId):NO (H++(x :: .cells [a,b] T::L)) T 2 (.ptr (H.length+1) 0)=some (.ptr (H.length+1) 0):=by
 simp [NO,hp_getk]
theorem Cv(hB:s5 E)(hX:rU M)(H L:List ag)(w:Str) :
  M.run cB [.ptr (H.length+1) 0] (H++(bTok w::kB .nilp H.length w bu::L))=some (.ret (.tuple []),H++(bTok w::kB (.ptr (H.length+1) 0) H.length w bu::L)):=by
 rw [aL M hB.strings_Builder_copyCheck rfl (c:=bX) rfl,bX]
 have h1:=hX.same (H.length+1) 0
 have hw:=R2 H L w
 simp (maxSteps:=3000000) (maxDischargeDepth:=6) +contextual -implicitDefEqProofs only [amA M,amB,↓ae,↓aa,↓aj,↓ah,Nat.reduceBEq,Nat.reduceAdd,env,am,iw,amG,AV.cell,Nat.reduceMul,Nat.reduceLeDiff,h1,qU,Nk,rnc,UT,UU,FA hw,uy,wk_tuple]
theorem Cw(hB:s5 E)(H L:List ag)(w:Str)(T:TypeId) :
  M.run cB [.ptr (H.length+1) 0] (H++(bTok w::kB (.ptr (H.length+1) 0) H.length w T::L))=some (.ret (.tuple []),H++(bTok w::kB (.ptr (H.length+1) 0) H.length w T::L)):=by
 rw [aL M hB.strings_Builder_copyCheck rfl (c:=bX) rfl,bX]
 simp (maxSteps:=3000000) (maxDischargeDepth:=6) +contextual -implicitDefEqProofs only [amA M,amB,↓ae,↓aa,↓aj,↓ah,Nat.reduceBEq,Nat.reduceAdd,env,am,iw,Ja,Nl,rnc,uy,wk_tuple]
theorem Gv(hB:s5 E)(hX:rU M)(H L:List ag){w s:Str}{T:TypeId}(h:w.length+s.length≤140737488355328) :
  M.run aH [.ptr (H.length+1) 0,.str s] (H++(bTok w::kB .nilp H.length w bu::L))=some (.ret (.tuple [.int .i64 s.length,.nilif]),H++(bTok (w++s)::kB (.ptr (H.length+1) 0) H.length (w++s) bu::L)):=by
 rw [aL M hB.strings_Builder_WriteString rfl (c:=cN) rfl,cN]
 have hw:=R2 H L (w++s)
 simp (maxSteps:=3000000) (maxDischargeDepth:=6) +contextual -implicitDefEqProofs only [amA M,amB,↓ae,↓aa,↓aj,↓ah,Nat.reduceBEq,Nat.reduceAdd,env,am,eC,amG,AV.cell,Nat.reduceMul,Nat.reduceLeDiff,(Cv M hB hX),rnc,Oz _ _ h,FA hw,uy,wk_tuple]
theorem Jb(hB:s5 E)(hX:rU M)(H L:List ag){w:Str}{c:UInt8}{T:TypeId}(h:w.length+1≤140737488355328) :
  M.run fg [.ptr (H.length+1) 0,.int .u8 c.toNat] (H++(bTok w::kB .nilp H.length w bu::L))=some (.ret .nilif,H++(bTok (w++[c])::kB (.ptr (H.length+1) 0) H.length (w++[c]) bu::L)):=by
 rw [aL M hB.strings_Builder_WriteByte rfl (c:=fh) rfl,fh]
 have hw:=R2 H L (w++[c])
 simp (maxSteps:=3000000) (maxDischargeDepth:=6) +contextual -implicitDefEqProofs only [amA M,amB,↓ae,↓aa,↓aj,↓ah,Nat.reduceBEq,Nat.reduceAdd,env,am,pe,amG,AV.cell,Nat.reduceMul,Nat.reduceLeDiff,(Cv M hB hX),rnc,Pw _ _ h,FA hw,uy,wk_tuple]
theorem Gw(hB:s5 E)(hX:rU M)(H L:List ag){w s:Str}{T:TypeId}(h:w.length+s.length≤140737488355328) :
  M.run aH [.ptr (H.length+1) 0,.str s] (H++(bTok w::kB (.ptr (H.length+1) 0) H.length w T::L))=some (.ret (.tuple [.int .i64 s.length,.nilif]),H++(bTok (w++s)::kB (.ptr (H.length+1) 0) H.length (w++s) T::L)):=by
 rw [aL M hB.strings_Builder_WriteString rfl (c:=cN) rfl,cN]
 have hw:=R2 H L (w++s)
 simp (maxSteps:=3000000) (maxDischargeDepth:=6) +contextual -implicitDefEqProofs only [amA M,amB,↓ae,↓aa,↓aj,↓ah,Nat.reduceBEq,Nat.reduceAdd,env,am,eC,amG,AV.cell,Nat.reduceMul,Nat.reduceLeDiff,(Cw M hB),rnc,Oz _ _ h,FA hw,uy,wk_tuple]
theorem Jc(hB:s5 E)(hX:rU M)(H L:List ag){w:Str}{c:UInt8}{T:TypeId}(h:w.length+1≤140737488355328) :
  M.run fg [.ptr (H.length+1) 0,.int .u8 c.toNat] (H++(bTok w::kB (.ptr (H.length+1) 0) H.length w T::L))=some (.ret .nilif,H++(bTok (w++[c])::kB (.ptr (H.length+1) 0) H.length (w++[c]) T::L)):=by
 rw [aL M hB.strings_Builder_WriteByte rfl (c:=fh) rfl,fh]
 have hw:=R2 H L (w++[c])
 simp (maxSteps:=3000000) (maxDischargeDepth:=6) +contextual -implicitDefEqProofs only [amA M,amB,↓ae,↓aa,↓aj,↓ah,Nat.reduceBEq,Nat.reduceAdd,env,am,pe,amG,AV.cell,Nat.reduceMul,Nat.reduceLeDiff,(Cw M hB),rnc,Pw _ _ h,FA hw,uy,wk_tuple]
theorem Nm(hB:s5 E)(H L:List ag){w:Str}{a:AV}{T:TypeId}(hw:w.length≤9223372036854775807) :
  M.run di [.ptr (H.length+1) 0] (H++(bTok w::kB a H.length w T::L))=some (.ret (.str w),H++(bTok w::kB a H.length w T::L)):=by
 rw [aL M hB.strings_Builder_String rfl (c:=gq) rfl,gq]
 simp (maxSteps:=3000000) (maxDischargeDepth:=6) +contextual -implicitDefEqProofs only [amA M,amB,↓ae,↓aa,↓aj,↓ah,Nat.reduceBEq,Nat.reduceAdd,env,am,lI,qU,rnc,TH,TG H _ w hw,uy]
theorem R3(hB:s5 E)(H L:List ag){w:Str}{a:AV}{T:TypeId} :
  M.run oq [.ptr (H.length+1) 0] (H++(bTok w::kB a H.length w T::L))=some (.ret (.int .i64 w.length),H++(bTok w::kB a H.length w T::L)):=by
 rw [aL M hB.strings_Builder_Len rfl (c:=oD) rfl,oD]
 simp (maxSteps:=3000000) (maxDischargeDepth:=6) +contextual -implicitDefEqProofs only [amA M,amB,↓ae,↓aa,↓aj,↓ah,Nat.reduceBEq,Nat.reduceAdd,env,am,Bi,rnc,uy]
end
section
attribute [local congr] aP dR bF aQ bq aZ aR aE aF a6 a7
variable{E:bL}(M:dK dW E)
structure SpE (E:bL):Prop where
 internal_stringslite_HasPrefix:E.fn iC=some ca
 internal_stringslite_IndexByte:E.fn cR=some b9
 morph_language_left:E.fn ow=some dC
 morph_language_match:E.fn kf=some eJ
 morph_language_right:E.fn m5=some dh
 morph_language_spell:E.fn m1=some dg
 strings_HasPrefix:E.fn qf=some gb
 strings_IndexByte:E.fn qg=some gc
theorem zP{s:Str}{k:IntKind}{i:Nat}(h:i≤s.length):Lp (.str s) (some (.int k (i:Int))) none=some (.str (s.drop i)):=by
 simp [Lp,fH,h]
 exact List.take_of_length_le (by simp)
theorem OA{s:Str}{k:IntKind}{i:Nat}(h:i≤s.length):Lp (.str s) none (some (.int k (i:Int)))=some (.str (s.take i)):=by
 simp [Lp,fH,h]
theorem FB{s:Str}{k k':IntKind}{i j:Nat}(h:i≤j)(hj:j≤s.length):Lp (.str s) (some (.int k (i:Int))) (some (.int k' (j:Int)))=some (.str ((s.drop i).take (j-i))):=by
 simp [Lp,fH,h,hj]
def AP(s p:Str):Bool:=decide (p.length≤s.length)&&(s.take p.length == p)
theorem tZ(hS:SpE E)(s p:Str)(H:List ag):M.run qf [.str s,.str p] H=some (.ret (.bool (AP s p)),H):=by
 have h1:M.run iC [.str s,.str p] H=some (.ret (.bool (AP s p)),H):=by
  rw [aL M hS.internal_stringslite_HasPrefix rfl (c:=iQ) rfl,iQ]
  cases hd:decide (p.length≤s.length) with
  |true=>
   have hle:p.length≤s.length:=of_decide_eq_true hd
   simp (maxSteps:=3000000) (maxDischargeDepth:=6) +contextual -implicitDefEqProofs only [amA M,amB,↓ae,↓aa,↓aj,↓ah,Nat.reduceBEq,Nat.reduceAdd,env,am,lj,AP,hd,OA hle]
  |false=>
   simp (maxSteps:=3000000) (maxDischargeDepth:=6) +contextual -implicitDefEqProofs only [amA M,amB,↓ae,↓aa,↓aj,↓ah,Nat.reduceBEq,Nat.reduceAdd,env,am,lj,AP,hd]
 rw [aL M hS.strings_HasPrefix rfl (c:=qh) rfl,qh]
 simp (maxSteps:=3000000) (maxDischargeDepth:=6) +contextual -implicitDefEqProofs only [amA M,amB,↓ae,↓aa,↓aj,↓ah,Nat.reduceBEq,Nat.reduceAdd,env,am,C2,h1]
theorem KT:∀ (s:Str) (c:UInt8),decide ((0:Int)≤Lib.indexByte s c)=s.any fun d=>d == c
 |[],c=>rfl
 |d::s,c=>by
  rw [Lib.indexByte,List.any_cons,← KT s c]
  cases h:d == c with
  |true=>simp
  |false=>
   have hg:=Lib.indexByte_ge s c
   simp only [Bool.false_or]
   by_cases h2:Lib.indexByte s c = -1
   ·simp [h2]
   ·have:(Lib.indexByte s c == -1)=false:=by simpa using h2
    simp only [this]
    rw [Bool.eq_iff_iff];simp;omega
theorem J0(hS:SpE E)(hX:rU M)(s:Str)(c:UInt8)(H:List ag):M.run qg [.str s,.int .u8 c.toNat] H=some (.ret (.int .i64 (Lib.indexByte s c)),H):=by
 have h1:M.run cR [.str s,.int .u8 c.toNat] H=some (.ret (.int .i64 (Lib.indexByte s c)),H):=by
  rw [aL M hS.internal_stringslite_IndexByte rfl (c:=dV) rfl,dV]
  simp (maxSteps:=3000000) (maxDischargeDepth:=6) +contextual -implicitDefEqProofs only [amA M,amB,↓ae,↓aa,↓aj,↓ah,Nat.reduceBEq,Nat.reduceAdd,env,am,li,hX.index]
 rw [aL M hS.strings_IndexByte rfl (c:=qi) rfl,qi]
 simp (maxSteps:=3000000) (maxDischargeDepth:=6) +contextual -implicitDefEqProofs only [amA M,amB,↓ae,↓aa,↓aj,↓ah,Nat.reduceBEq,Nat.reduceAdd,env,am,C3,h1]
def Jd(s:Str)(at_:Int):Option UInt8:=if at_<0 then none else s[at_.toNat]?
def isV(v:Str)(c:UInt8):Bool:=v.any fun d=>d == c
def s6(v:Str)(p:UInt8)(s:Str)(at_:Int):Bool:=
 match Jd s at_ with
 |none=>((p.toNat:Int) == 35)&&((at_ == -1)||(at_ == (s.length:Int)))
 |some c=>sel ((p.toNat:Int) == 67) (jd c && !isV v c) (sel ((p.toNat:Int) == 86) (jd c&&isV v c) (p.toNat == c.toNat))
theorem KU(hN:bp E)(hS:SpE E)(hX:rU M){l:Lex}(p:UInt8)(s:Str)(at_:Int)(H:List ag) :
  M.run kf [.agg l.row,.int .u8 p.toNat,.str s,.int .i64 at_] H=some (.ret (.bool (s6 l.vowels p s at_)),H):=by
 rw [aL M hS.morph_language_match rfl (c:=nF) rfl,nF]
 by_cases h:at_<0
 ·have e:Jd s at_=none:=if_pos h
  have hd:decide (at_<0)=true:=decide_eq_true h
  simp (maxSteps:=3000000) (maxDischargeDepth:=6) +contextual -implicitDefEqProofs only [amA M,amB,↓ae,↓aa,↓aj,↓ah,Nat.reduceBEq,Nat.reduceAdd,env,am,nG,hd,s6,e,cut_app]
 ·obtain ⟨j,rfl⟩:∃ j:Nat,at_=(j:Int):=⟨at_.toNat,by omega⟩
  have e:Jd s (j:Int)=s[j]? := by simp [Jd,h]
  by_cases hj:j<s.length
  ·have hx:s[j]?=some s[j]:=List.getElem?_eq_getElem hj
   have hd:decide (s.length≤j)=false:=decide_eq_false (by omega)
   simp (maxSteps:=3000000) (maxDischargeDepth:=6) +contextual -implicitDefEqProofs only [amA M,amB,↓ae,↓aa,↓aj,↓ah,Nat.reduceBEq,Nat.reduceAdd,env,am,nG,HA,hd,hx,s6,e,br,cut_app,J0 M hS hX,KT,nK M hN.letter,isV]
  ·have hx:s[j]?=none:=List.getElem?_eq_none (by omega)
   have hd:decide (s.length≤j)=true:=decide_eq_true (by omega)
   simp (maxSteps:=3000000) (maxDischargeDepth:=6) +contextual -implicitDefEqProofs only [amA M,amB,↓ae,↓aa,↓aj,↓ah,Nat.reduceBEq,Nat.reduceAdd,env,am,nG,HA,hd,hx,s6,e,cut_app]
def R4{α:Type}(f:Nat→α→Bool):Nat→List α→Bool
 |_,[]=>true
 |i,x::l=>f i x&&R4 f (i+1) l
def J1{α:Type}(f:Nat→α→Bool):Nat→α→Option AV:=fun i x=>sel (f i x) none (some (.bool false))
theorem AQ{α:Type}(f:Nat→α→Bool)(H:List ag)(x:Option Out):∀ (l:List α) (i:Nat),orE (bE (J1 f) i l) H x=sel (R4 f i l) x (some (.ret (.bool false),H))
 |[],_=>rfl
 |y::l,i=>by
  rw [iV,HL,AQ f H x l,R4]
  unfold J1
  cases f i y<;>rfl
theorem spl{H H0:List ag}(hN:bp E)(hS:SpE E)(hX:rU M){l:Lex}{q:Str}{s:Str}{a:Nat}(ha:a≤aY){L:Str}(hLl:L.length=q.length)(hqs:q.length≤aY)(hL:∀ k,k<L.length→q[q.length-1-k]?=L[k]?){p:Nat}{T:TypeId}(hp:H[p]?=some (.cells l.row T))(hc:bP H0 H)(k:List Fra):∀ (n i:Nat) (He:List ag),i+n=L.length →
  M.go dC H0 (.c iu :: .lp ⟨(some [1,2,3,4,11,12]),[],false⟩ iu He :: .blk 0 :: .c (.lv [])::k) (kv [(1,.str q),(2,.str s),(3,.int .i64 a),(4,.ptr p 0),(11,.int .i64 L.length),(12,.int .i64 i)]) H =
   orE (bE (J1 fun k c=>s6 l.vowels c s ((a:Int)-1-(k:Int))) i (L.drop i)) (H.take H0.length) (M.go dC H0 k .leaf H)
 |0,i,He,h=>by
  have e:i=L.length:=by omega
  subst e
  rw [ao M iu.eq_1]
  simp (maxSteps:=3000000) (maxDischargeDepth:=6) +contextual -implicitDefEqProofs only [amA M,amB,↓ae,↓aa,↓aj,↓ah,Nat.reduceBEq,Nat.reduceAdd,env,am,o4,Nat.lt_irrefl,List.drop_length]
 |n+1,i,He,h=>by
  have hi:i<L.length:=by omega
  have hx:L[i]?=some L[i]:=List.getElem?_eq_getElem hi
  have hd:(L.drop i)=L[i]::L.drop (i+1):=List.drop_eq_getElem_cons hi
  have hm:L[i]∈L:=List.getElem_mem hi
  have ih:=fun He=>spl (H:=H) (H0:=H0) (hN:=hN) (hS:=hS) (hX:=hX) (l:=l) (q:=q) (s:=s) (a:=a) (ha:=ha) (L:=L) (hLl:=hLl) (hqs:=hqs) (hL:=hL) (p:=p) (T:=T) (hp:=hp) hc k n (i+1)  He (by omega)
  simp only [kv_cons,kv_nil] at ih
  have hq:=(hL i hi).trans hx
  have e1:IntKind.i64.wrap ((q.length:Int)-1)=((q.length-1:Nat):Int):=Ph (by omega) hqs
  have e2:IntKind.i64.wrap (((q.length-1:Nat):Int)-(i:Int))=((q.length-1-i:Nat):Int):=by
   simp only [aY] at hqs;rw [dq (by omega) (by omega)];omega
  have e3:IntKind.i64.wrap ((a:Int)-1)=(a:Int)-1:=by simp only [aY] at ha;exact dq (by omega) (by omega)
  have e4:IntKind.i64.wrap ((a:Int)-1-(i:Int))=(a:Int)-1-(i:Int):=by simp only [aY] at ha hqs;exact dq (by omega) (by omega)
  rw [ao M iu.eq_1]
  simp (maxSteps:=3000000) (maxDischargeDepth:=6) +contextual -implicitDefEqProofs only [amA M,amB,↓ae,↓aa,↓aj,↓ah,Nat.reduceBEq,Nat.reduceAdd,env,am,o4,hx,hd,hi,ih,hq,e1,e2,e3,e4,hp,br,KU M hN hS hX,bn hi (show L.length≤aY by omega),J1,hc]
def KV(v p s:Str)(a:Nat):Bool:=R4 (fun k c=>s6 v c s ((a:Int)-1-(k:Int))) 0 p.reverse
theorem Px(q:Str):∀ k,k<q.reverse.length→q[q.length-1-k]?=q.reverse[k]? := fun k hk=>by
 rw [List.getElem?_reverse (by simpa using hk)]
theorem R5(hN:bp E)(hS:SpE E)(hX:rU M){l:Lex}{q:Str}(hq:q.length≤aY)(s:Str){a:Nat}(ha:a≤aY)(H:List ag) :
  M.run ow [.agg l.row,.str q,.str s,.int .i64 a] H=some (.ret (.bool (KV l.vowels q s a)),H):=by
 rw [aL M hS.morph_language_left rfl (c:=o3) rfl,o3]
 have h1:=fun k He=>spl M hN hS hX (H:=H++[.cells l.row aN]) (H0:=H) (l:=l) (q:=q) (s:=s) ha (L:=q.reverse) (by simp) hq (Px q) (p:=H.length) (T:=aN) (by rw [cf];rfl) (cut_app H _) k q.reverse.length 0 He (by omega)
 simp only [kv_cons,kv_nil,Int.ofNat_zero,List.drop_zero,AQ,List.length_reverse] at h1
 simp (maxSteps:=3000000) (maxDischargeDepth:=6) +contextual -implicitDefEqProofs only [amA M,amB,↓ae,↓aa,↓aj,↓ah,Nat.reduceBEq,Nat.reduceAdd,env,am,o4,h1,KV,cut_app]
theorem spr{H H0:List ag}(hN:bp E)(hS:SpE E)(hX:rU M){l:Lex}{q:Str}{s:Str}{a:Nat}(ha:a+q.length≤aY){p:Nat}{T:TypeId}(hp:H[p]?=some (.cells l.row T))(hc:bP H0 H)(k:List Fra):∀ (n i:Nat) (He:List ag),i+n=q.length →
  M.go dh H0 (.c gF :: .lp ⟨(some [1,2,3,4,11,12]),[],false⟩ gF He :: .blk 0 :: .c (.lv [])::k) (kv [(1,.str q),(2,.str s),(3,.int .i64 a),(4,.ptr p 0),(11,.int .i64 q.length),(12,.int .i64 i)]) H =
   orE (bE (J1 fun k c=>s6 l.vowels c s ((a+k:Nat):Int)) i (q.drop i)) (H.take H0.length) (M.go dh H0 k .leaf H)
 |0,i,He,h=>by
  have e:i=q.length:=by omega
  subst e
  rw [ao M gF.eq_1]
  simp (maxSteps:=3000000) (maxDischargeDepth:=6) +contextual -implicitDefEqProofs only [amA M,amB,↓ae,↓aa,↓aj,↓ah,Nat.reduceBEq,Nat.reduceAdd,env,am,nC,Nat.lt_irrefl,List.drop_length]
 |n+1,i,He,h=>by
  have hi:i<q.length:=by omega
  have hx:q[i]?=some q[i]:=List.getElem?_eq_getElem hi
  have hd:(q.drop i)=q[i]::q.drop (i+1):=List.drop_eq_getElem_cons hi
  have hm:q[i]∈q:=List.getElem_mem hi
  have ih:=fun He=>spr (H:=H) (H0:=H0) (hN:=hN) (hS:=hS) (hX:=hX) (l:=l) (q:=q) (s:=s) (a:=a) (ha:=ha) (p:=p) (T:=T) (hp:=hp) hc k n (i+1)  He (by omega)
  simp only [kv_cons,kv_nil] at ih
  have e1:IntKind.i64.wrap ((a:Int)+(i:Int))=((a+i:Nat):Int):=by simp only [aY] at ha;rw [dq (by omega) (by omega)];omega
  rw [ao M gF.eq_1]
  simp (maxSteps:=3000000) (maxDischargeDepth:=6) +contextual -implicitDefEqProofs only [amA M,amB,↓ae,↓aa,↓aj,↓ah,Nat.reduceBEq,Nat.reduceAdd,env,am,nC,hx,hd,hi,ih,e1,hp,br,KU M hN hS hX,bn hi (show q.length≤aY by omega),J1,hc]
def Je(v p s:Str)(a:Nat):Bool:=R4 (fun k c=>s6 v c s ((a+k:Nat):Int)) 0 p
theorem Qx(hN:bp E)(hS:SpE E)(hX:rU M){l:Lex}{q:Str}(s:Str){a:Nat}(ha:a+q.length≤aY)(H:List ag) :
  M.run m5 [.agg l.row,.str q,.str s,.int .i64 a] H=some (.ret (.bool (Je l.vowels q s a)),H):=by
 rw [aL M hS.morph_language_right rfl (c:=nB) rfl,nB]
 have h1:=fun k He=>spr M hN hS hX (H:=H++[.cells l.row aN]) (H0:=H) (l:=l) (q:=q) (s:=s) ha (p:=H.length) (T:=aN) (by rw [cf];rfl) (cut_app H _) k q.length 0 He (by omega)
 simp only [kv_cons,kv_nil,Int.ofNat_zero,List.drop_zero,AQ] at h1
 simp (maxSteps:=3000000) (maxDischargeDepth:=6) +contextual -implicitDefEqProofs only [amA M,amB,↓ae,↓aa,↓aj,↓ah,Nat.reduceBEq,Nat.reduceAdd,env,am,nC,h1,Je,cut_app]
end
section
attribute [local congr] aP dR bF aQ bq aZ aR aE aF a6 a7
variable{E:bL}(M:dK dW E)
def OB(v:Str)(x:bt)(s:Str)(i:Nat):Bool:=AP (s.drop i) x.frm&&(KV v x.left s i&&Je v x.right s (i+x.frm.length))
def Cx(v:Str)(x:bt)(s:Str):Nat→Nat→Str→Str
 |0,_,w=>w
 |n+1,i,w=>match s[i]? with
  |none=>w
  |some c=>match OB v x s i with
   |true=>Cx v x s n (i+x.frm.length) (w++x.to)
   |false=>Cx v x s n (i+1) (w++[c])
def uz(v:Str)(x:bt)(s:Str):Str:=Cx v x s (s.length+1) 0 []
theorem Jf(v:Str)(x:bt)(s:Str)(ht:x.to.length≤6):∀ (n i:Nat) (w:Str),(Cx v x s n i w).length≤w.length+6*n
 |0,i,w=>by simp only [Cx];omega
 |n+1,i,w=>by
  unfold Cx
  split
  ·omega
  ·split
   ·have:=Jf v x s ht n (i+x.frm.length) (w++x.to)
    simp only [List.length_append] at this
    omega
   ·rename_i c _ _ _
    have:=Jf v x s ht n (i+1) (w++[c])
    simp only [List.length_append,List.length_singleton] at this
    omega
theorem Qy(v:Str)(x:bt)(s:Str)(ht:x.to.length≤6):(uz v x s).length≤6*(s.length+1):=by
 have:=Jf v x s ht (s.length+1) 0 []
 simpa [uz] using this
theorem Gx(hB:s5 E)(hX:rU M)(H L:List ag){w s:Str}{a:AV}(ha:a = .nilp∨a = .ptr (H.length+1) 0)(h:w.length+s.length≤140737488355328) :
  M.run aH [.ptr (H.length+1) 0,.str s] (H++(bTok w::kB a H.length w bu::L))=some (.ret (.tuple [.int .i64 s.length,.nilif]),H++(bTok (w++s)::kB (.ptr (H.length+1) 0) H.length (w++s) bu::L)):=by
 rcases ha with rfl | rfl
 ·exact Gv M (T:=0) hB hX H L h
 ·exact Gw M hB hX H L h
theorem Jg(hB:s5 E)(hX:rU M)(H L:List ag){w:Str}{c:UInt8}{a:AV}(ha:a = .nilp∨a = .ptr (H.length+1) 0)(h:w.length+1≤140737488355328) :
  M.run fg [.ptr (H.length+1) 0,.int .u8 c.toNat] (H++(bTok w::kB a H.length w bu::L))=some (.ret .nilif,H++(bTok (w++[c])::kB (.ptr (H.length+1) 0) H.length (w++[c]) bu::L)):=by
 rcases ha with rfl | rfl
 ·exact Jb M (T:=0) hB hX H L h
 ·exact Jc M hB hX H L h
theorem spw(hN:bp E)(hS:SpE E)(hX:rU M)(hB:s5 E){l:Lex}{x:bt}{n0:Nat}(hx0:x.ok n0)(h0:x.frm≠[])(ht:x.to.length≤6)(hfr:x.frm.length≤6)(hri:x.right.length≤6){s:Str}(hs:s.length≤1000000)
  {H H0:List ag}{p q:Nat}{T T2:TypeId} (hp:H[p]?=some (.cells l.row T)) (hq:H[q]?=some (.cells x.row T2)):∀ (n i:Nat) (w:Str) (a:AV),(a = .nilp∨a = .ptr (H.length+1) 0)→s.length<i+n→i≤s.length+6→w.length≤6*i →
  ∃ a',∀ (k:List Fra) (He:List ag),M.go dg H0 (.c d6 :: .lp ⟨(some [2,3,4,8,9]),[],false⟩ d6 He :: .blk 0 :: .c (.lv [8])::k) (kv [(2,.str s),(3,.ptr p 0),(4,.ptr q 0),(8,.ptr (H.length+1) 0),(9,.int .i64 i)]) (H++[bTok w,kB a H.length w bu]) =
   M.go dg H0 k (kv [(8,.ptr (H.length+1) 0)]) (H++[bTok (Cx l.vowels x s n i w),kB a' H.length (Cx l.vowels x s n i w) bu])
 |0,i,w,a,ha,hn,hi,hw=>by
  refine ⟨a,fun k He => ?_⟩
  have e:¬ i<s.length:=by omega
  rw [Cx]
  rw [ao M d6.eq_1]
  simp (maxSteps:=3000000) (maxDischargeDepth:=6) +contextual -implicitDefEqProofs only [amA M,amB,↓ae,↓aa,↓aj,↓ah,Nat.reduceBEq,Nat.reduceAdd,env,am,eH,e]
 |n+1,i,w,a,ha,hn,hi,hw=>by
  have hp':=fun L=>bS (L:=L) hp
  have hq':=fun L=>bS (L:=L) hq
  by_cases h:i<s.length
  ·have hx:s[i]?=some s[i]:=List.getElem?_eq_getElem h
   have hf:0<x.frm.length:=by cases hxf:x.frm with
    |nil=>exact absurd hxf h0
    |cons a b=>simp
   have l1:=fun H=>R5 M hN hS hX (l:=l) hx0.left s (show i≤aY by simp only [aY];omega) H
   have r1:=fun H=>Qx M hN hS hX (l:=l) (q:=x.right) s (show (i+x.frm.length)+x.right.length≤aY by simp only [aY];omega) H
   have e1:IntKind.i64.wrap ((i:Int)+(x.frm.length:Int))=((i+x.frm.length:Nat):Int):=by rw [dq (by omega) (by omega)];omega
   cases hA:OB l.vowels x s i with
   |true=>
    obtain ⟨a',ih⟩:=spw hN hS hX hB hx0 h0 ht hfr hri hs hp hq n (i+x.frm.length) (w++x.to) (.ptr (H.length+1) 0) (.inr rfl) (by omega) (by omega) (by simp;omega)
    refine ⟨a',fun k He => ?_⟩
    simp only [kv_cons,kv_nil] at ih
    rw [Cx,hx,hA]
    simp only [OB,Bool.and_eq_true] at hA
    have w1:=Gx M hB hX H [] (w:=w) (s:=x.to) ha (by omega)
    rw [ao M d6.eq_1]
    simp (maxSteps:=3000000) (maxDischargeDepth:=6) +contextual -implicitDefEqProofs only [amA M,amB,↓ae,↓aa,↓aj,↓ah,Nat.reduceBEq,Nat.reduceAdd,env,am,eH,h,hx,ih,hp',hq',br,lC,zP (Nat.le_of_lt h),tZ M hS,l1,r1,e1,hA.1,hA.2.1,hA.2.2,w1]
    all_goals exact ih _ _
   |false=>
    obtain ⟨a',ih⟩:=spw hN hS hX hB hx0 h0 ht hfr hri hs hp hq n (i+1) (w++[s[i]]) (.ptr (H.length+1) 0) (.inr rfl) (by omega) (by omega) (by simp;omega)
    refine ⟨a',fun k He => ?_⟩
    simp only [kv_cons,kv_nil] at ih
    rw [Cx,hx,hA]
    have w1:=Jg M hB hX H [] (w:=w) (c:=s[i]) ha (by omega)
    have hA2:(AP (s.drop i) x.frm&&KV l.vowels x.left s i&&Je l.vowels x.right s (i+x.frm.length))=false:=by rw [← hA,OB,Bool.and_assoc]
    rw [ao M d6.eq_1]
    cases c1:AP (s.drop i) x.frm with
    |false=>
     simp (maxSteps:=3000000) (maxDischargeDepth:=6) +contextual -implicitDefEqProofs only [amA M,amB,↓ae,↓aa,↓aj,↓ah,Nat.reduceBEq,Nat.reduceAdd,env,am,eH,h,hx,ih,hp',hq',br,lC,zP (Nat.le_of_lt h),tZ M hS,c1,w1,bn h (show s.length≤aY by simp only [aY];omega)]
     all_goals exact ih _ _
    |true=>
     cases c2:KV l.vowels x.left s i with
     |false=>
      simp (maxSteps:=3000000) (maxDischargeDepth:=6) +contextual -implicitDefEqProofs only [amA M,amB,↓ae,↓aa,↓aj,↓ah,Nat.reduceBEq,Nat.reduceAdd,env,am,eH,h,hx,ih,hp',hq',br,lC,zP (Nat.le_of_lt h),tZ M hS,l1,c1,c2,w1,bn h (show s.length≤aY by simp only [aY];omega)]
      all_goals exact ih _ _
     |true=>
      rw [c1,c2] at hA2
      simp only [Bool.true_and] at hA2
      simp (maxSteps:=3000000) (maxDischargeDepth:=6) +contextual -implicitDefEqProofs only [amA M,amB,↓ae,↓aa,↓aj,↓ah,Nat.reduceBEq,Nat.reduceAdd,env,am,eH,h,hx,ih,hp',hq',br,lC,zP (Nat.le_of_lt h),tZ M hS,l1,r1,e1,c1,c2,hA2,w1,bn h (show s.length≤aY by simp only [aY];omega)]
      all_goals exact ih _ _
  ·refine ⟨a,fun k He => ?_⟩
   have hx:s[i]?=none:=List.getElem?_eq_none (by omega)
   rw [Cx,hx]
   rw [ao M d6.eq_1]
   simp (maxSteps:=3000000) (maxDischargeDepth:=6) +contextual -implicitDefEqProofs only [amA M,amB,↓ae,↓aa,↓aj,↓ah,Nat.reduceBEq,Nat.reduceAdd,env,am,eH,h]
theorem Qz(hN:bp E)(hS:SpE E)(hX:rU M)(hB:s5 E){l:Lex}{x:bt}{n0:Nat}(hx0:x.ok n0)(h0:x.frm≠[])(ht:x.to.length≤6)(hfr:x.frm.length≤6)(hri:x.right.length≤6){s:Str}(hs:s.length≤1000000)(H:List ag) :
  M.run m1 [.agg l.row,.agg x.row,.str s] H=some (.ret (.tuple [.str (uz l.vowels x s),.bool (decide (((uz l.vowels x s).length:Int)≤512))]),H):=by
 rw [aL M hS.morph_language_spell rfl (c:=nz) rfl,nz]
 have hlen:(uz l.vowels x s).length≤9223372036854775807:=by have:=Qy l.vowels x s ht;omega
 obtain ⟨a',h1⟩:=spw M hN hS hX hB hx0 h0 ht hfr hri hs (l:=l) (H:=H++[.cells l.row aN,.cells x.row cY]) (H0:=H) (p:=H.length) (q:=H.length+1) (T:=aN) (T2:=cY) (by rw [cf];rfl) (by rw [hp_getk];rfl) (s.length+1) 0 [] .nilp (.inl rfl) (by omega) (by omega) (by simp)
 have h2:=Nm M hB (H++[.cells l.row aN,.cells x.row cY]) [] (a:=a') (T:=bu) hlen
 have h3:=R3 M hB (H++[.cells l.row aN,.cells x.row cY]) [] (w:=uz l.vowels x s) (a:=a') (T:=bu)
 rw [← uz] at h1
 simp only [kv_cons,kv_nil,Int.ofNat_zero,lo_app3,LI,lo_app0,lo_len,lo_len1,lo_len0,Nat.zero_add,Nat.reduceAdd,Nat.add_assoc,(show bTok [] = .tok 0 dN from rfl),(show ∀ a n T,kB a n [] T = .cells [a,.slice (.own n) 1 []] T from fun _ _ _=>rfl)] at h1 h2 h3
 simp (maxSteps:=3000000) (maxDischargeDepth:=6) +contextual -implicitDefEqProofs only [amA M,amB,↓ae,↓aa,↓aj,↓ah,Nat.reduceBEq,Nat.reduceAdd,env,am,eH,amG,AV.cell,Nat.reduceMul,Nat.reduceLeDiff,qU,Nat.add_assoc,h1,h2,h3,wk_tuple]
end
section
attribute [local congr] aP dR bF aQ bq aZ aR aE aF a6 a7
variable{E:bL}(M:dK dW E)
structure Ej (E:bL):Prop where
 truchmanref02_matches:E.fn jF=some dG
 truchmanref02_applies:E.fn l6=some ct
 truchmanref02_rewrite:E.fn l5=some dF
theorem rma{H H0:List ag}{l:Lex}{n0:Nat}(hl:l.ok n0){pc:UInt8}{s:Str}{j:Nat}(hj:j<s.length){p:Nat}{T:TypeId}(hp:H[p]?=some (.cells l.row T))(k:List Fra):∀ (n i:Nat) (b:Bool) (He:List ag),i+n=(l.vowels).length →
  M.go dG H0 (.c f5 :: .lp ⟨(some [1,2,3,4,9,10]),[],false⟩ f5 He :: .blk 0 :: .c (.lv [1,2,3,9])::k) (kv [(1,.int .u8 pc.toNat),(2,.str s),(3,.int .i64 j),(4,.ptr p 0),(9,.bool b),(10,.int .i64 i)]) H =
   (M.go dG H0 k (kv [(1,.int .u8 pc.toNat),(2,.str s),(3,.int .i64 j),(9,.bool (b||(l.vowels.drop i).any fun d=>d.toNat == s[j].toNat))]) H)
 |0,i,b,He,h=>by
  have e:i=(l.vowels).length:=by omega
  subst e
  rw [ao M f5.eq_1]
  simp (maxSteps:=3000000) (maxDischargeDepth:=6) +contextual -implicitDefEqProofs only [amA M,amB,↓ae,↓aa,↓aj,↓ah,Nat.reduceBEq,Nat.reduceAdd,env,am,iv,Nat.lt_irrefl,List.drop_length,br,hp,List.any_nil]
 |n+1,i,b,He,h=>by
  have hi:i<(l.vowels).length:=by omega
  have hx:(l.vowels)[i]?=some (l.vowels)[i]:=List.getElem?_eq_getElem hi
  have hd:((l.vowels).drop i)=(l.vowels)[i]::(l.vowels).drop (i+1):=List.drop_eq_getElem_cons hi
  have hm:(l.vowels)[i]∈(l.vowels):=List.getElem_mem hi
  have ih:=fun b He=>rma (H:=H) (H0:=H0) (l:=l) (n0:=n0) (hl:=hl) (pc:=pc) (s:=s) (j:=j) (hj:=hj) (p:=p) (T:=T) (hp:=hp) k n (i+1) b He (by omega)
  simp only [kv_cons,kv_nil] at ih
  have hxj:s[j]?=some s[j]:=List.getElem?_eq_getElem hj
  have hlv:=hl.vowels
  rw [ao M f5.eq_1]
  simp (maxSteps:=3000000) (maxDischargeDepth:=6) +contextual -implicitDefEqProofs only [amA M,amB,↓ae,↓aa,↓aj,↓ah,Nat.reduceBEq,Nat.reduceAdd,env,am,iv,hx,hd,hi,ih,hxj,br,hp,bn hi hlv,List.any_cons,Bool.or_assoc]
theorem QA(c d:UInt8):(c.toNat == d.toNat)=(c == d):=by
 rw [Bool.eq_iff_iff];simp [UInt8.toNat_inj]
theorem R6{v:Str}(hv:v.all jd=true)(p:UInt8)(s:Str)(c:UInt8):sel ((p.toNat:Int) == 67) (jd c && !isV v c) (sel ((p.toNat:Int) == 86) (jd c&&isV v c) (p.toNat == c.toNat))=sel ((p.toNat:Int) == 86) (isV v c) (sel ((p.toNat:Int) == 67) (jd c && !isV v c) (p.toNat == c.toNat)):=by
 have h:isV v c=true→jd c=true:=fun h=>by
  obtain ⟨d,hd,he⟩:=List.any_eq_true.1 h
  rw [← eq_of_beq he]
  exact List.all_eq_true.1 hv d hd
 by_cases h1:(p.toNat:Int)=67
 ·have h2:((p.toNat:Int) == 86)=false:=by rw [h1];rfl
  have h3:((p.toNat:Int) == 67)=true:=by simpa using h1
  rw [h2,h3];rfl
 ·have h3:((p.toNat:Int) == 67)=false:=by simpa using h1
  rw [h3]
  cases hV:isV v c with
  |true=>rw [h hV];rfl
  |false=>cases ((p.toNat:Int) == 86)<;>simp [sel]
theorem FC(hN:bp E)(hR:Ej E){l:Lex}{n0:Nat}(hl:l.ok n0)(hv:l.vowels.all jd=true)(p:UInt8)(s:Str)(at_:Int)(H:List ag) :
  M.run jF [.agg l.row,.int .u8 p.toNat,.str s,.int .i64 at_] H=some (.ret (.bool (s6 l.vowels p s at_)),H):=by
 rw [aL M hR.truchmanref02_matches rfl (c:=my) rfl,my]
 by_cases h:at_<0
 ·have e:Jd s at_=none:=if_pos h
  have hd:decide (at_<0)=true:=decide_eq_true h
  simp (maxSteps:=3000000) (maxDischargeDepth:=6) +contextual -implicitDefEqProofs only [amA M,amB,↓ae,↓aa,↓aj,↓ah,Nat.reduceBEq,Nat.reduceAdd,env,am,iv,hd,s6,e,cut_app]
 ·obtain ⟨j,rfl⟩:∃ j:Nat,at_=(j:Int):=⟨at_.toNat,by omega⟩
  have e:Jd s (j:Int)=s[j]? := by simp [Jd,h]
  by_cases hj:j<s.length
  ·have hx:s[j]?=some s[j]:=List.getElem?_eq_getElem hj
   have hd:decide (s.length≤j)=false:=decide_eq_false (by omega)
   have h1:=fun b k He=>rma M (H:=H++[.cells l.row aq]) (H0:=H) hl (pc:=p) (s:=s) (j:=j) hj (p:=H.length) (T:=aq) (by rw [cf];rfl) k l.vowels.length 0 b He (by omega)
   simp only [kv_cons,kv_nil,Int.ofNat_zero,List.drop_zero,QA] at h1
   have e2:=R6 hv p s s[j]
   simp (maxSteps:=3000000) (maxDischargeDepth:=6) +contextual -implicitDefEqProofs only [amA M,amB,↓ae,↓aa,↓aj,↓ah,Nat.reduceBEq,Nat.reduceAdd,env,am,iv,HA,hd,hx,s6,e,h1,cut_app,Ed M hN.Letter,isV]
   exact congrArg (fun b=>some (u4.ret (AV.bool b),H)) e2.symm
  ·have hx:s[j]?=none:=List.getElem?_eq_none (by omega)
   have hd:decide (s.length≤j)=true:=decide_eq_true (by omega)
   simp (maxSteps:=3000000) (maxDischargeDepth:=6) +contextual -implicitDefEqProofs only [amA M,amB,↓ae,↓aa,↓aj,↓ah,Nat.reduceBEq,Nat.reduceAdd,env,am,iv,HA,hd,hx,s6,e,cut_app]
theorem UV{H H0:List ag}(hN:bp E)(hR:Ej E){l:Lex}{n0:Nat}(hl:l.ok n0)(hv:l.vowels.all jd=true){x:bt}(hx0:x.ok n0){s:Str}{a:Nat}(ha:a≤aY){L:Str}(hLl:L.length=x.left.length)(hL:∀ k,k<L.length→x.left[x.left.length-1-k]?=L[k]?){p q:Nat}{T T2:TypeId}(hp:H[p]?=some (.cells l.row T))(hqq:H[q]?=some (.cells x.row T2))(hc:bP H0 H)(k:List Fra):∀ (n i:Nat) (He:List ag),i+n=L.length →
  M.go ct H0 (.c fZ :: .lp ⟨(some [2,3,4,5,9]),[],false⟩ fZ He :: .blk 0 :: .c (.lv [2,3,4,5])::k) (kv [(2,.str s),(3,.int .i64 a),(4,.ptr p 0),(5,.ptr q 0),(9,.int .i64 i)]) H =
   orE (bE (J1 fun k c=>s6 l.vowels c s ((a:Int)-1-(k:Int))) i (L.drop i)) (H.take H0.length) (M.go ct H0 k (kv [(2,.str s),(3,.int .i64 a),(4,.ptr p 0),(5,.ptr q 0)]) H)
 |0,i,He,h=>by
  have e:i=L.length:=by omega
  subst e
  rw [ao M fZ.eq_1]
  simp (maxSteps:=3000000) (maxDischargeDepth:=6) +contextual -implicitDefEqProofs only [amA M,amB,↓ae,↓aa,↓aj,↓ah,Nat.reduceBEq,Nat.reduceAdd,env,am,fm,Nat.lt_irrefl,List.drop_length,lC,hqq,(show decide (L.length<x.left.length)=false from decide_eq_false (by omega))]
 |n+1,i,He,h=>by
  have hi:i<L.length:=by omega
  have hx:L[i]?=some L[i]:=List.getElem?_eq_getElem hi
  have hd:(L.drop i)=L[i]::L.drop (i+1):=List.drop_eq_getElem_cons hi
  have hm:L[i]∈L:=List.getElem_mem hi
  have ih:=fun He=>UV (H:=H) (H0:=H0) (hN:=hN) (hR:=hR) (l:=l) (n0:=n0) (hl:=hl) (hv:=hv) (x:=x) (hx0:=hx0) (s:=s) (a:=a) (ha:=ha) (L:=L) (hLl:=hLl) (hL:=hL) (p:=p) (q:=q) (T:=T) (T2:=T2) (hp:=hp) (hqq:=hqq) hc k n (i+1)  He (by omega)
  simp only [kv_cons,kv_nil] at ih
  have hq:=(hL i hi).trans hx
  have hqs:=hx0.left
  have hil:decide (i<x.left.length)=true:=decide_eq_true (by omega)
  have e1:IntKind.i64.wrap ((x.left.length:Int)-1)=((x.left.length-1:Nat):Int):=Ph (by omega) hqs
  have e2:IntKind.i64.wrap (((x.left.length-1:Nat):Int)-(i:Int))=((x.left.length-1-i:Nat):Int):=by
   simp only [aY] at hqs;rw [dq (by omega) (by omega)];omega
  have e3:IntKind.i64.wrap ((a:Int)-1)=(a:Int)-1:=by simp only [aY] at ha;exact dq (by omega) (by omega)
  have e4:IntKind.i64.wrap ((a:Int)-1-(i:Int))=(a:Int)-1-(i:Int):=by simp only [aY] at ha hqs;exact dq (by omega) (by omega)
  rw [ao M fZ.eq_1]
  simp (maxSteps:=3000000) (maxDischargeDepth:=6) +contextual -implicitDefEqProofs only [amA M,amB,↓ae,↓aa,↓aj,↓ah,Nat.reduceBEq,Nat.reduceAdd,env,am,fm,hx,hd,hi,ih,hq,hil,e1,e2,e3,e4,hp,hqq,br,lC,FC M hN hR hl hv,bn hi (show L.length≤aY by omega),J1,hc]
theorem UW{H H0:List ag}(hN:bp E)(hR:Ej E){l:Lex}{n0:Nat}(hl:l.ok n0)(hv:l.vowels.all jd=true){x:bt}{s:Str}{a:Nat}(ha:a+x.frm.length+x.right.length≤aY){p q:Nat}{T T2:TypeId}(hp:H[p]?=some (.cells l.row T))(hqq:H[q]?=some (.cells x.row T2))(hc:bP H0 H)(k:List Fra):∀ (n i:Nat) (He:List ag),i+n=(x.right).length →
  M.go ct H0 (.c f4 :: .lp ⟨(some [2,3,4,5,10]),[],false⟩ f4 He :: .blk 2 :: .c (.lv [])::k) (kv [(2,.str s),(3,.int .i64 a),(4,.ptr p 0),(5,.ptr q 0),(10,.int .i64 i)]) H =
   orE (bE (J1 fun k c=>s6 l.vowels c s ((a+x.frm.length+k:Nat):Int)) i (x.right.drop i)) (H.take H0.length) (M.go ct H0 k .leaf H)
 |0,i,He,h=>by
  have e:i=(x.right).length:=by omega
  subst e
  rw [ao M f4.eq_1]
  simp (maxSteps:=3000000) (maxDischargeDepth:=6) +contextual -implicitDefEqProofs only [amA M,amB,↓ae,↓aa,↓aj,↓ah,Nat.reduceBEq,Nat.reduceAdd,env,am,fm,Nat.lt_irrefl,List.drop_length,lC,hqq]
 |n+1,i,He,h=>by
  have hi:i<(x.right).length:=by omega
  have hx:(x.right)[i]?=some (x.right)[i]:=List.getElem?_eq_getElem hi
  have hd:((x.right).drop i)=(x.right)[i]::(x.right).drop (i+1):=List.drop_eq_getElem_cons hi
  have hm:(x.right)[i]∈(x.right):=List.getElem_mem hi
  have ih:=fun He=>UW (H:=H) (H0:=H0) (hN:=hN) (hR:=hR) (l:=l) (n0:=n0) (hl:=hl) (hv:=hv) (x:=x) (s:=s) (a:=a) (ha:=ha) (p:=p) (q:=q) (T:=T) (T2:=T2) (hp:=hp) (hqq:=hqq) hc k n (i+1)  He (by omega)
  simp only [kv_cons,kv_nil] at ih
  have e1:IntKind.i64.wrap ((a:Int)+(x.frm.length:Int))=((a+x.frm.length:Nat):Int):=by simp only [aY] at ha;rw [dq (by omega) (by omega)];omega
  have e2:IntKind.i64.wrap (((a+x.frm.length:Nat):Int)+(i:Int))=((a+x.frm.length+i:Nat):Int):=by simp only [aY] at ha;rw [dq (by omega) (by omega)];omega
  rw [ao M f4.eq_1]
  simp (maxSteps:=3000000) (maxDischargeDepth:=6) +contextual -implicitDefEqProofs only [amA M,amB,↓ae,↓aa,↓aj,↓ah,Nat.reduceBEq,Nat.reduceAdd,env,am,fm,hx,hd,hi,ih,e1,e2,hp,hqq,br,lC,FC M hN hR hl hv,bn hi (show x.right.length≤aY by omega),J1,hc]
theorem Uj{s f:Str}{i:Nat}(h:i≤s.length):AP (s.drop i) f=(!decide (s.length<i+f.length)&&((s.drop i).take f.length == f)):=by
 unfold AP
 congr 1
 rw [List.length_drop,Bool.eq_iff_iff];simp;omega
theorem LT(hN:bp E)(hR:Ej E){l:Lex}{n0:Nat}(hl:l.ok n0)(hv:l.vowels.all jd=true){x:bt}(hx0:x.ok n0){s:Str}{a:Nat}(hs:a≤s.length)(ha:s.length+x.frm.length+x.right.length≤aY)(H:List ag) :
  M.run l6 [.agg l.row,.agg x.row,.str s,.int .i64 a] H=some (.ret (.bool (OB l.vowels x s a)),H):=by
 rw [aL M hR.truchmanref02_applies rfl (c:=mw) rfl,mw]
 have h0:=fun k He=>UV M hN hR hl hv hx0 (H:=H++[.cells l.row aq,.cells x.row cY]) (H0:=H) (s:=s) (a:=a) (by omega) (L:=x.left.reverse) (by simp) (Px x.left) (p:=H.length) (q:=H.length+1) (T:=aq) (T2:=cY) (by rw [cf];rfl) (by rw [hp_getk];rfl) (cut_app H _) k x.left.reverse.length 0 He (by omega)
 have h1:=fun k He=>UW M hN hR hl hv (x:=x) (H:=H++[.cells l.row aq,.cells x.row cY]) (H0:=H) (s:=s) (a:=a) (by omega) (p:=H.length) (q:=H.length+1) (T:=aq) (T2:=cY) (by rw [cf];rfl) (by rw [hp_getk];rfl) (cut_app H _) k x.right.length 0 He (by omega)
 simp only [kv_cons,kv_nil,Int.ofNat_zero,List.drop_zero,AQ,List.length_reverse,hp_take] at h0 h1
 have e1:IntKind.i64.wrap ((a:Int)+(x.frm.length:Int))=((a+x.frm.length:Nat):Int):=by simp only [aY] at ha;rw [dq (by omega) (by omega)];omega
 rw [OB,Uj hs]
 by_cases hc:s.length<a+x.frm.length
 ·have hd:decide (s.length<a+x.frm.length)=true:=decide_eq_true hc
  simp (maxSteps:=3000000) (maxDischargeDepth:=6) +contextual -implicitDefEqProofs only [amA M,amB,↓ae,↓aa,↓aj,↓ah,Nat.reduceBEq,Nat.reduceAdd,env,am,fm,e1,hd,lC,cut_app]
 ·have hd:decide (s.length<a+x.frm.length)=false:=decide_eq_false hc
  have e2:=FB (s:=s) (k:=.i64) (k':=.i64) (i:=a) (j:=a+x.frm.length) (by omega) (by omega)
  rw [Nat.add_sub_cancel_left] at e2
  simp (maxSteps:=3000000) (maxDischargeDepth:=6) +contextual -implicitDefEqProofs only [amA M,amB,↓ae,↓aa,↓aj,↓ah,Nat.reduceBEq,Nat.reduceAdd,env,am,fm,e1,e2,hd,lC,h0,h1,cut_app,KV,Je]
end
section
attribute [local congr] aP dR bF aQ bq aZ aR aE aF a6 a7
variable{E:bL}(M:dK dW E)
theorem kn{s t:Str}(h:s.length+t.length<9223372036854775808):rY .add s t=some (.str (s++t)):=T9 h
theorem rrw(hN:bp E)(hR:Ej E){l:Lex}{n0:Nat}(hl:l.ok n0)(hv:l.vowels.all jd=true){x:bt}(hx0:x.ok n0)(h0:x.frm≠[])(ht:x.to.length≤6)(hfr:x.frm.length≤6)(hri:x.right.length≤6){s:Str}(hs:s.length≤1000000)
  {H H0:List ag}{p q:Nat}{T T2:TypeId} (hp:H[p]?=some (.cells l.row T)) (hq:H[q]?=some (.cells x.row T2)) (k:List Fra):∀ (n i:Nat) (w:Str) (He:List ag),s.length<i+n→i≤s.length+6→w.length≤6*i →
  M.go dF H0 (.c dP :: .lp ⟨(some [2,3,4,8,9]),[],false⟩ dP He :: .blk 0 :: .c (.lv [8])::k) (kv [(2,.str s),(3,.ptr p 0),(4,.ptr q 0),(8,.str w),(9,.int .i64 i)]) H=M.go dF H0 k (kv [(8,.str (Cx l.vowels x s n i w))]) H
 |0,i,w,He,hn,hi,hw=>by
  have e:¬ i<s.length:=by omega
  rw [Cx]
  rw [ao M dP.eq_1]
  simp (maxSteps:=3000000) (maxDischargeDepth:=6) +contextual -implicitDefEqProofs only [amA M,amB,↓ae,↓aa,↓aj,↓ah,Nat.reduceBEq,Nat.reduceAdd,env,am,is,e]
 |n+1,i,w,He,hn,hi,hw=>by
  by_cases h:i<s.length
  ·have hx:s[i]?=some s[i]:=List.getElem?_eq_getElem h
   have hf:0<x.frm.length:=by cases hxf:x.frm with
    |nil=>exact absurd hxf h0
    |cons a b=>simp
   have e1:IntKind.i64.wrap ((i:Int)+(x.frm.length:Int))=((i+x.frm.length:Nat):Int):=by rw [dq (by omega) (by omega)];omega
   have a1:=fun H=>LT M hN hR hl hv hx0 (s:=s) (a:=i) (by omega) (by simp only [aY];omega) H
   cases hA:OB l.vowels x s i with
   |true=>
    have ih:=fun He=>rrw (H0:=H0) hN hR hl hv hx0 h0 ht hfr hri hs hp hq k n (i+x.frm.length) (w++x.to) He (by omega) (by omega) (by simp;omega)
    simp only [kv_cons,kv_nil] at ih
    rw [Cx,hx,hA]
    rw [hA] at a1
    rw [ao M dP.eq_1]
    simp (maxSteps:=3000000) (maxDischargeDepth:=6) +contextual -implicitDefEqProofs only [amA M,amB,↓ae,↓aa,↓aj,↓ah,Nat.reduceBEq,Nat.reduceAdd,env,am,is,h,hx,ih,hp,hq,br,lC,a1,e1,kn (s:=w) (t:=x.to) (by omega)]
   |false=>
    have ih:=fun He=>rrw (H0:=H0) hN hR hl hv hx0 h0 ht hfr hri hs hp hq k n (i+1) (w++[s[i]]) He (by omega) (by omega) (by simp;omega)
    simp only [kv_cons,kv_nil] at ih
    rw [Cx,hx,hA]
    rw [hA] at a1
    have e2:=FB (s:=s) (k:=.i64) (k':=.i64) (i:=i) (j:=i+1) (by omega) (by omega)
    rw [Nat.add_sub_cancel_left,List.drop_eq_getElem_cons h] at e2
    simp only [List.take_succ_cons,List.take_zero] at e2
    rw [ao M dP.eq_1]
    simp (maxSteps:=3000000) (maxDischargeDepth:=6) +contextual -implicitDefEqProofs only [amA M,amB,↓ae,↓aa,↓aj,↓ah,Nat.reduceBEq,Nat.reduceAdd,env,am,is,h,hx,ih,hp,hq,br,lC,a1,e2,bn h (show s.length≤aY by simp only [aY];omega),kn (s:=w) (t:=[s[i]]) (by simp;omega)]
  ·have hx:s[i]?=none:=List.getElem?_eq_none (by omega)
   rw [Cx,hx]
   rw [ao M dP.eq_1]
   simp (maxSteps:=3000000) (maxDischargeDepth:=6) +contextual -implicitDefEqProofs only [amA M,amB,↓ae,↓aa,↓aj,↓ah,Nat.reduceBEq,Nat.reduceAdd,env,am,is,h]
theorem LU(hN:bp E)(hR:Ej E){l:Lex}{n0:Nat}(hl:l.ok n0)(hv:l.vowels.all jd=true){x:bt}(hx0:x.ok n0)(h0:x.frm≠[])(ht:x.to.length≤6)(hfr:x.frm.length≤6)(hri:x.right.length≤6){s:Str}(hs:s.length≤1000000)(H:List ag) :
  M.run l5 [.agg l.row,.agg x.row,.str s] H=some (.ret (.tuple [.str (uz l.vowels x s),.bool (decide (((uz l.vowels x s).length:Int)≤512))]),H):=by
 rw [aL M hR.truchmanref02_rewrite rfl (c:=mt) rfl,mt]
 have h1:=fun k He=>rrw M hN hR hl hv hx0 h0 ht hfr hri hs (H:=H++[.cells l.row aq,.cells x.row cY]) (H0:=H) (p:=H.length) (q:=H.length+1) (T:=aq) (T2:=cY) (by rw [cf];rfl) (by rw [hp_getk];rfl) k (s.length+1) 0 [] He (by omega) (by omega) (by simp)
 rw [← uz] at h1
 simp only [kv_cons,kv_nil,Int.ofNat_zero] at h1
 simp (maxSteps:=3000000) (maxDischargeDepth:=6) +contextual -implicitDefEqProofs only [amA M,amB,↓ae,↓aa,↓aj,↓ah,Nat.reduceBEq,Nat.reduceAdd,env,am,is,h1,cut_app,wk_tuple]
structure Nn (l:Lex):Prop where
 vowels:l.vowels.all jd=true
 spells:∀ x∈l.spells.l,tN x=0
 short:Pu l
theorem No{l:Lex}(h:dI l=0):Nn l:=by
 unfold dI at h
 simp only [TE,TF] at h
 rw [Pv,HO] at h
 cases hv:l.vowels.all jd with
 |false=>rw [hv] at h;simp [sel] at h
 |true=>
  rw [hv] at h
  cases hi:On l.vowels with
  |false=>rw [hi] at h;simp [sel] at h
  |true=>
   rw [hi] at h
   simp only [sel,beq_self_eq_true,Bool.not_true] at h
   cases h1:yk l == 0 with
   |false=>rw [h1] at h;simp only [Bool.not_false] at h;rw [h] at h1;simp at h1
   |true=>
    rw [h1] at h;simp only [Bool.not_true] at h
    cases h2:tO l == 0 with
    |false=>rw [h2] at h;simp only [Bool.not_false] at h;rw [h] at h2;simp at h2
    |true=>
     rw [h2] at h;simp only [Bool.not_true] at h
     cases h3:wB l == 0 with
     |false=>rw [h3] at h;simp only [Bool.not_false] at h;rw [h] at h3;simp at h3
     |true=>
      rw [h3] at h;simp only [Bool.not_true] at h
      cases h4:yl l == 0 with
      |false=>rw [h4] at h;simp only [Bool.not_false] at h;rw [h] at h4;simp at h4
      |true=>
       refine ⟨hv,fun x hx => ?_,Nc (eq_of_beq h2)⟩
       obtain ⟨k,hk⟩:=List.getElem?_of_mem hx
       exact (oh (eq_of_beq h4)).2 k x hk
theorem Np{x:bt}(h:tN x=0):x.frm≠[]∧x.to.length≤6∧x.frm.length≤6∧x.right.length≤6∧x.left.length≤6:=by
 rw [Ng] at h
 cases c1:(x.frm == []||(!ofF [43] x.frm||(!ofF [43] x.to||(!ofF [43,35,86,67] x.left || !ofF [43,35,86,67] x.right)))) with
 |true=>rw [c1] at h;simp [sel] at h
 |false=>
  rw [c1] at h
  cases c2:(decide ((6:Int)<(x.frm.length:Int))||(decide ((6:Int)<(x.to.length:Int))||(decide ((6:Int)<(x.left.length:Int))||decide ((6:Int)<(x.right.length:Int))))) with
  |true=>rw [c2] at h;simp [sel] at h
  |false=>
   simp at c1 c2
   exact ⟨c1.1,by omega,by omega,by omega,by omega⟩
theorem eu{α:Type}{row:α→List AV}{l:List α}{tag:Tag}{sz:Nat}{k:IntKind}{r:Int}(h0:0≤r)(h:r.toNat<l.length):yV sz (.slice tag sz (l.map row)) (.int k r)=some (.vptr sz (l.map row) r.toNat 0):=by
 have:=aA (row:=row) (tag:=tag) (sz:=sz) (k:=k) h
 rwa [Int.toNat_of_nonneg h0] at this
end
section
attribute [local congr] aP dR bF aQ bq aZ aR aE aF a6 a7
variable{E:bL}(M:dK dW E)
structure yn (E:bL):Prop where
 slices_Grow_api_Feat_api_Feat:E.fn fo=some c7
 slices_Concat_api_Feat_api_Feat:E.fn eP=some cK
 slices_Compact_api_Feat_api_Feat:E.fn eD=some aO
 morph_union:E.fn xY=some og
 slices_Index_api_Feat_api_Feat:E.fn iB=some bI
 slices_Contains_api_Feat_api_Feat:E.fn gn=some cq
 morph_Subsumes_1:E.fn mZ=some jc
 morph_Subsumes:E.fn pU=some kp
 truchmanref02_Subsumes:E.fn ji=some b8
def b5(l:List au):List AV:=(l.map au.row).flatten
def nM(n:Nat):List AV:=(List.replicate n [AV.str [],AV.str []]).flatten
theorem p7(l:List au):(b5 l).length=l.length*2:=by
 unfold b5
 induction l with
 |nil=>rfl
 |cons x l ih=>simp only [List.map_cons,List.flatten_cons,List.length_append,ih,List.length_cons];simp [au.row];omega
theorem CR(a b:List au):b5 (a++b)=b5 a++b5 b:=by simp [b5]
theorem OC(n:Nat):(nM n).length=n*2:=by
 unfold nM;rw [List.length_flatten];simp
theorem G5(n:Nat):nM n=b5 (List.replicate n ⟨[],[]⟩):=by simp [nM,b5,au.row]
theorem QB(hU:yn E)(H:List ag):M.run fo [.slice .nil 2 [],.int .i64 0] H=some (.ret (.slice .nil 2 []),H):=by
 rw [aL M hU.slices_Grow_api_Feat_api_Feat rfl (c:=d8) rfl,d8]
 have w0:IntKind.i64.wrap 0=0:=by decide
 simp (maxSteps:=3000000) (maxDischargeDepth:=6) +contextual -implicitDefEqProofs only [amA M,amB,↓ae,↓aa,↓aj,↓ah,Nat.reduceBEq,Nat.reduceAdd,env,am,lR,Mq,List.length_nil,Int.ofNat_zero,Int.sub_self,w0,(show decide ((0:Int)<0)=false from rfl)]
theorem R7(hU:yn E){n:Nat}(h0:0<n)(hn:n≤4000000000)(H:List ag) :
  M.run fo [.slice .nil 2 [],.int .i64 n] H=some (.ret (.rslice H.length 0 0 2 true),H++[.cells (nM n) aU]):=by
 rw [aL M hU.slices_Grow_api_Feat_api_Feat rfl (c:=d8) rfl,d8]
 have w0:IntKind.i64.wrap 0=0:=by decide
 have w1:IntKind.i64.wrap ((n:Int)-0)=(n:Int):=by rw [dq (by omega) (by omega)];omega
 have h1:decide ((n:Int)<0)=false:=decide_eq_false (by omega)
 have h2:decide ((n:Int) > 0)=true:=decide_eq_true (by omega)
 have e1:CX 2 (.slice .nil 2 []) none (some (.int .i64 0)) none=some (.slice .nil 2 []):=rfl
 have e2:NP H aU 2 32 [.str [],.str []] (.slice .nil 2 []) (.int .i64 n)=some (.rslice H.length 0 n 2 true,H++[.cells (nM n) aU]):=by
  have a1:¬ (n:Int)=0:=by omega
  have a2:(0:Int)<n∧(n:Int).toNat*32≤140737488355328∧(n:Int)≤4611686018427387904:=by refine ⟨by omega, ?_,by omega⟩;simp;omega
  unfold NP;dsimp only;rw [if_neg a1,if_pos a2];rfl
 have e3:CX 2 (.rslice H.length 0 n 2 true) none (some (.int .i64 0)) none=some (.rslice H.length 0 0 2 true):=by simp [CX,fH]
 simp (maxSteps:=3000000) (maxDischargeDepth:=6) +contextual -implicitDefEqProofs only [amA M,amB,↓ae,↓aa,↓aj,↓ah,Nat.reduceBEq,Nat.reduceAdd,env,am,lR,amZ,Mq,List.length_nil,Int.ofNat_zero,Int.sub_self,w0,w1,h1,h2,e1,e2,e3]
theorem QC{H:List ag}{n:Nat}{t:Tag}{a:List au}(h:a.length≤4000000000) :
  rap true (H++[.cells (nM n) aU]) aU 2 32 false (.rslice H.length 0 0 2 true) (.slice t 2 (a.map au.row))=some (.rslice (H.length+1) 0 a.length 2 true,H++[.dead,.cells (b5 a) aU]):=by
 have hr:ri 2 (a.map au.row)=true:=by simp [ri,au.row,AV.cell]
 simp only [rap,EV,DT,or_true,if_true,hr,cf,List.length_map,Nat.zero_add,Nat.zero_mul,Nat.zero_le,true_and,List.take_zero,List.nil_append,hp_set0,List.length_append,List.length_cons,List.length_nil,List.getElem?_cons_zero,List.set_cons_zero]
 rw [if_pos ⟨by omega,by omega⟩]
 simp [b5]
theorem R8{H:List ag}{a b:List au}{t:Tag}(h:a.length+b.length≤4000000000) :
  rap true (H++[.dead,.cells (b5 a) aU]) aU 2 32 false (.rslice (H.length+1) 0 a.length 2 true) (.slice t 2 (b.map au.row))=some (.rslice (H.length+2) 0 (a++b).length 2 true,H++[.dead,.dead,.cells (b5 (a++b)) aU]):=by
 have hr:ri 2 (b.map au.row)=true:=by simp [ri,au.row,AV.cell]
 have hg:(H++[ag.dead,.cells (b5 a) aU])[H.length+1]?=some (.cells (b5 a) aU):=by rw [hp_getk];rfl
 have hs:(H++[ag.dead,.cells (b5 a) aU]).set (H.length+1) .dead=H++[.dead,.dead]:=by
  rw [List.set_append_right _ _ (by omega)];simp
 simp only [rap,EV,DT,or_true,if_true,hr,hg,hs,List.length_map,true_and,List.length_append,List.length_cons,List.length_nil]
 rw [if_pos ⟨by rw [p7];exact Nat.le_refl _,by omega,by omega⟩]
 have e:(b5 a).take (a.length*2)=b5 a:=List.take_of_length_le (by rw [p7];exact Nat.le_refl _)
 rw [e,CR]
 simp [b5]
theorem KW{H:List ag}{t:Tag}(ht:t = .nil∨t = .full){t2:Tag}:rap true H aU 2 32 false (.slice t 2 []) (.slice t2 2 [])=some (.slice .full 2 [],H):=by
 rcases ht with rfl | rfl<;>rfl
theorem OD(hU:yn E){a b:List au}{ta tb:Tag}(h0:0<a.length+b.length)(h:a.length+b.length≤4000000000)(H:List ag) :
  M.run eP [.slice .full 1 [[.slice ta 2 (a.map au.row)],[.slice tb 2 (b.map au.row)]]] H=some (.ret (.rslice (H.length+2) 0 (a++b).length 2 true),H++[.dead,.dead,.cells (b5 (a++b)) aU]):=by
 rw [aL M hU.slices_Concat_api_Feat_api_Feat rfl (c:=dL) rfl,dL]
 have w1:IntKind.i64.wrap (0+(a.length:Int))=(a.length:Int):=by rw [dq (by omega) (by omega)];omega
 have w2:IntKind.i64.wrap ((a.length:Int)+(b.length:Int))=((a.length+b.length:Nat):Int):=by rw [dq (by omega) (by omega)];omega
 have w3:IntKind.i64.wrap (0+1)=1:=by decide
 have w4:IntKind.i64.wrap (1+1)=2:=by decide
 have d1:decide ((a.length:Int)<0)=false:=decide_eq_false (by omega)
 have d2:decide (((a.length+b.length:Nat):Int)<0)=false:=decide_eq_false (by omega)
 have i0:yV 1 (.slice .full 1 [[.slice ta 2 (a.map au.row)],[.slice tb 2 (b.map au.row)]]) (.int .i64 0)=some (.vptr 1 [[.slice ta 2 (a.map au.row)],[.slice tb 2 (b.map au.row)]] 0 0):=rfl
 have i1:yV 1 (.slice .full 1 [[.slice ta 2 (a.map au.row)],[.slice tb 2 (b.map au.row)]]) (.int .i64 1)=some (.vptr 1 [[.slice ta 2 (a.map au.row)],[.slice tb 2 (b.map au.row)]] 1 0):=rfl
 have n0:(([[.slice ta 2 (a.map au.row)],[.slice tb 2 (b.map au.row)]]:List (List AV)).length:Int)=2:=rfl
 have n1:decide ((0:Int)<2)=true:=rfl
 have n2:decide ((1:Int)<2)=true:=rfl
 have n3:decide ((2:Int)<2)=false:=rfl
 have g0:([[.slice ta 2 (a.map au.row)],[.slice tb 2 (b.map au.row)]]:List (List AV))[0]?=some [.slice ta 2 (a.map au.row)]:=rfl
 have g1:([[.slice ta 2 (a.map au.row)],[.slice tb 2 (b.map au.row)]]:List (List AV))[1]?=some [.slice tb 2 (b.map au.row)]:=rfl
 have l0:∀ x:AV,c8 none [x] 0=some x:=fun _=>rfl
 simp (maxSteps:=3000000) (maxDischargeDepth:=6) +contextual -implicitDefEqProofs only [amA M,amB,↓ae,↓aa,↓aj,↓ah,Nat.reduceBEq,Nat.reduceAdd,env,am,kR,n0,n1,n2,n3,g0,g1,l0,ao M gD.eq_1,ao M gE.eq_1,w1,w2,w3,w4,d1,d2,i0,i1,R7 M hU h0 h,QC (show a.length≤4000000000 by omega),R8 h]
end
section
attribute [local congr] aP dR bF aQ bq aZ aR aE aF a6 a7
variable{E:bL}(M:dK dW E)
def ddF:au→List au→List au
 |_,[]=>[]
 |p,q::t=>if (q.name == p.name&&q.value == p.value)=true then ddF q t else q::ddF q t
def jkF:List au→au→List au→List au
 |mid,p,[]=>mid++[p]
 |mid,p,q::t=>if (q.name == p.name&&q.value == p.value)=true then jkF (mid++[p]) q t else jkF ((mid++[p]).tail) q t
def xQ:List au→List au
 |[]=>[]
 |x::l=>x::ddF x l
theorem OE:∀ (t mid:List au) (p:au),(jkF mid p t).length+(ddF p t).length=mid.length+1+t.length
 |[],mid,p=>by simp [jkF,ddF]
 |q::t,mid,p=>by
  rw [jkF,ddF]
  split
  ·rw [OE t (mid++[p]) q];simp;omega
  ·rw [List.length_cons,← Nat.add_assoc,OE t ((mid++[p]).tail) q];simp;omega
theorem CS(A B:List au)(q:au)(rest:List AV){n:Nat}(h:n=A.length*2):c8 (some 2) (b5 (A++q::B)++rest) n=some (.agg q.row):=by
 subst h
 have hl:=p7 A
 have e:b5 (A++q::B)++rest=b5 A++(q.row++(b5 B++rest)):=by rw [CR];simp [b5]
 have hq:q.row.length=2:=rfl
 simp only [c8]
 rw [e,if_pos (by simp only [List.length_append,hl,hq];omega),← hl,List.drop_left,List.take_left' hq]
theorem Ek:∀ (A x y rest:List AV),x.length=y.length→aV (A++(x++rest)) A.length y=A++(y++rest)
 |A,[],[],rest,_=>by simp [setRow_nil]
 |A,[],_::_,rest,h=>by cases h
 |A,_::_,[],rest,h=>by cases h
 |A,b::x,a::y,rest,h=>by
  rw [setRow_cons]
  have h2:(A++(b::x++rest)).set A.length a=(A++[a])++(x++rest):=by simp
  have:=Ek (A++[a]) x y rest (by simpa using h)
  rw [List.length_append,List.length_cons,List.length_nil,Nat.zero_add] at this
  rw [h2,this];simp
theorem OF(A B:List au)(m q:au)(rest:List AV){n:Nat}(h:n=A.length*2):aV (b5 (A++m::B)++rest) n q.row=b5 (A++q::B)++rest:=by
 subst h
 have e:∀ m:au,b5 (A++m::B)++rest=b5 A++(m.row++(b5 B++rest)):=fun m=>by rw [CR];simp [b5]
 rw [e,e,← p7 A,Ek (b5 A) m.row q.row (b5 B++rest) rfl]
theorem Jh{id off len n:Nat}{room:Bool}(h:n<len):yV 2 (.rslice id off len 2 room) (.int .i64 (n:Int))=some (.ptr id (off+n*2)):=by simp [yV,h]
theorem CT{g:Option Nat}{H:List ag}{id n:Nat}{cs:List AV}{T:TypeId}(h:H[id]?=some (.cells cs T)):pT g H (.ptr id n)=c8 g cs n:=by simp [pT,h]
theorem Py{H:List ag}{id:Nat}(h:id<H.length)(o:ag):(H.set id o)[id]?=some o:=by simp [h]
theorem FD(n:Nat)(L:List au)(rest:List AV)(hr:∀ c∈rest,Wk n c c)(T:TypeId):O8 n (.cells (b5 L++rest) T):=fun c hc=>by
 rcases List.mem_append.1 hc with h | h
 ·unfold b5 at h
  obtain ⟨r,hr1,hr2⟩:=List.mem_flatten.1 h
  obtain ⟨f,_,rfl⟩:=List.mem_map.1 hr1
  simp only [au.row,List.mem_cons,List.not_mem_nil,or_false] at hr2
  rcases hr2 with rfl | rfl<;>exact wk_str _ _
 ·exact hr c h
theorem cpi(hU:yn E){H H0:List ag}{id:Nat}(hid:id<H.length){T:TypeId}{rest:List AV}(k:List Fra){n off:Nat}(hn:n≤4000000000) :
  ∀ (t out mid:List au) (p:au) (k2:Nat) (He:List ag),out.length+mid.length+1=off+k2→out.length+mid.length+1+t.length=n→1≤k2 →
  M.go aO H0 (.c cb :: .lp ⟨(some [0,3,4,5]),[],false⟩ cb He :: .blk 2 :: .c (.lv [0,3])::k) (kv [(0,.rslice id 0 n 2 true),(3,.int .i64 out.length),(4,.rslice id (off*2) (n-off) 2 true),(5,.int .i64 k2)]) (H.set id (.cells (b5 (out++(mid++p::t))++rest) T)) =
   M.go aO H0 k (kv [(0,.rslice id 0 n 2 true),(3,.int .i64 (out++ddF p t).length)]) (H.set id (.cells (b5 ((out++ddF p t)++jkF mid p t)++rest) T))
 |[],out,mid,p,k2,He,h1,h2,h3=>by
  have d:decide (k2<n-off)=false:=decide_eq_false (by simp at h2;omega)
  have e:b5 ((out++ddF p [])++jkF mid p [])=b5 (out++(mid++[p])):=by simp [ddF,jkF]
  rw [e,show out++ddF p []=out by simp [ddF]]
  rw [ao M cb.eq_1]
  simp (maxSteps:=3000000) (maxDischargeDepth:=6) +contextual -implicitDefEqProofs only [amA M,amB,↓ae,↓aa,↓aj,↓ah,Nat.reduceBEq,Nat.reduceAdd,env,am,ba,d,Aa]
 |q::t,out,mid,p,k2,He,h1,h2,h3=>by
  simp only [List.length_cons] at h2
  have d:decide (k2<n-off)=true:=decide_eq_true (by omega)
  have b1:IntKind.i64.wrap ((k2:Int)-1)=((k2-1:Nat):Int):=by rw [dq (by omega) (by omega)];omega
  have b2:IntKind.i64.wrap ((k2:Int)+1)=((k2+1:Nat):Int):=by rw [dq (by omega) (by omega)];omega
  have b3:IntKind.i64.wrap ((out.length:Int)+1)=((out.length+1:Nat):Int):=by rw [dq (by omega) (by omega)];omega
  have i1:yV 2 (.rslice id (off*2) (n-off) 2 true) (.int .i64 (k2:Int))=some (.ptr id (off*2+k2*2)):=Jh (by omega)
  have i2:yV 2 (.rslice id (off*2) (n-off) 2 true) (.int .i64 ((k2-1:Nat):Int))=some (.ptr id (off*2+(k2-1)*2)):=Jh (by omega)
  have i3:yV 2 (.rslice id 0 n 2 true) (.int .i64 (out.length:Int))=some (.ptr id (0+out.length*2)):=Jh (by omega)
  have hg:∀ c,(H.set id c)[id]?=some c:=fun c=>Py hid c
  have l1:c8 (some 2) (b5 (out++(mid++p::q::t))++rest) (off*2+k2*2)=some (.agg q.row):=by
   have:=CS (out++(mid++[p])) t q rest (n:=off*2+k2*2) (by simp;omega)
   simpa [List.append_assoc] using this
  have l2:c8 (some 2) (b5 (out++(mid++p::q::t))++rest) (off*2+(k2-1)*2)=some (.agg p.row):=by
   have:=CS (out++mid) (q::t) p rest (n:=off*2+(k2-1)*2) (by simp;omega)
   simpa [List.append_assoc] using this
  cases hqp:(q.name == p.name&&q.value == p.value) with
  |true=>
   have ih:=fun He=>cpi hU (H:=H) (H0:=H0) hid (T:=T) (rest:=rest) k (off:=off) hn t out (mid++[p]) q (k2+1) He (by simp;omega) (by simp;omega) (by omega)
   simp only [kv_cons,kv_nil,List.append_assoc,List.cons_append,List.nil_append] at ih
   rw [ddF,if_pos hqp,jkF,if_pos hqp,List.append_assoc out (ddF q t)]
   rw [ao M cb.eq_1]
   simp (maxSteps:=3000000) (maxDischargeDepth:=6) +contextual -implicitDefEqProofs only [amA M,amB,↓ae,↓aa,↓aj,↓ah,Nat.reduceBEq,Nat.reduceAdd,env,am,ba,d,Aa,b1,b2,i1,i2,hg,l1,l2,CT (hg _),uw,hqp,ih]
  |false=>
   have hne:¬ ((q.name == p.name&&q.value == p.value)=true):=by rw [hqp];simp
   obtain ⟨m0,mid',hm⟩:∃ m0 mid',mid++[p]=m0::mid':=by cases mid with
    |nil=>exact ⟨p,[],rfl⟩
    |cons a b=>exact ⟨a,b++[p],rfl⟩
   have hml:mid'.length=mid.length:=by have:=congrArg List.length hm;simp at this;omega
   have ih:=fun He=>cpi hU (H:=H) (H0:=H0) hid (T:=T) (rest:=rest) k (off:=off) hn t (out++[q]) mid' q (k2+1) He (by simp;omega) (by simp;omega) (by omega)
   have hst:aV (b5 (out++(mid++p::q::t))++rest) (0+out.length*2) q.row=b5 ((out++[q])++(mid'++q::t))++rest:=by
    have e1:out++(mid++p::q::t)=out++m0::(mid'++q::t):=by
     have:mid++p::q::t=(mid++[p])++q::t:=by simp
     rw [this,hm];rfl
    rw [e1,OF out (mid'++q::t) m0 q rest (by omega)];simp
   have hlen:0+out.length*2+2≤(b5 (out++(mid++p::q::t))++rest).length:=by
    rw [List.length_append,p7];simp;omega
   rw [ddF,if_neg hne,jkF,if_neg hne,hm,List.tail_cons]
   simp only [kv_cons,kv_nil,List.length_append,List.length_cons,List.length_nil,Nat.zero_add] at ih
   rw [show out++q::ddF q t=(out++[q])++ddF q t by simp,show ((out++[q])++ddF q t).length=out.length+1+(ddF q t).length by simp;omega]
   have hss:∀ a b,(H.set id a).set id b=H.set id b:=fun a b=>by rw [List.set_set]
   rw [ao M cb.eq_1]
   have hsto:stO 2 (H.set id (.cells (b5 (out++(mid++p::q::t))++rest) T)) id (0+out.length*2) q.row (some (.cells (b5 (out++(mid++p::q::t))++rest) T))=some (H.set id (.cells (b5 ((out++[q])++(mid'++q::t))++rest) T)):=by
    simp only [stO]
    rw [if_pos ⟨rfl,hlen,rfl⟩,hst,hss]
   simp (maxSteps:=3000000) (maxDischargeDepth:=6) +contextual -implicitDefEqProofs only [amA M,amB,↓ae,↓aa,↓aj,↓ah,Nat.reduceBEq,Nat.reduceAdd,env,am,ba,d,Aa,b1,b2,b3,i1,i2,i3,hg,l1,l2,CT (hg _),uw,hqp,hsto,(show ∀ H,Dw (some H)=some (jK,H) from fun _=>rfl),ih]
theorem Te{H0 H:List ag}(h:bP H0 H)(id:Nat){o:ag}(hw:O8 H0.length o):bP H0 (H.set id o):=by
 refine ⟨by simpa using h.1,fun i x hi hx => ?_⟩
 rw [List.getElem?_set] at hx
 split at hx
 ·split at hx
  ·cases hx;exact .inr hw
  ·cases hx
 ·exact h.2 i x hi hx
def cpR(M:dK dW E)(H0:List ag)(k:List Fra)(id:Nat)(T:TypeId)(rest:List AV)(H:List ag)(n:Nat):List au→au→List au→Option Out
 |_,_,[]=>M.go aO H0 k (kv [(0,.rslice id 0 n 2 true)]) H
 |out,p,q::t=>if (q.name == p.name&&q.value == p.value)=true then
   some (.ret (.rslice id 0 (out++p::ddF q t).length 2 true),(H.set id (.cells (b5 (out++p::ddF q t)++(nM (n-(out++p::ddF q t).length)++rest)) T)).take H0.length)
  else cpR M H0 k id T rest H n (out++[p]) q t
theorem cpo(hU:yn E){H H0:List ag}{id:Nat}(hid:id<H.length)(hi0:id<H0.length)(hc:bP H0 H){T:TypeId}{rest:List AV}(hr:∀ c∈rest,Wk H0.length c c)(k:List Fra){l:List au}(hn:l.length≤4000000000)(hx:H[id]?=some (.cells (b5 l++rest) T)) :
  ∀ (t out:List au) (p:au) (He:List ag),l=out++p::t →
  M.go aO H0 (.c ce :: .lp ⟨(some [0,3]),[],false⟩ ce He :: .blk 0 :: .c (.lv [0])::k) (kv [(0,.rslice id 0 l.length 2 true),(3,.int .i64 (out.length+1:Nat))]) H=cpR M H0 k id T rest H l.length out p t
 |[],out,p,He,hl=>by
  have d:decide (out.length+1<l.length)=false:=decide_eq_false (by rw [hl];simp)
  rw [cpR]
  rw [ao M ce.eq_1]
  simp (maxSteps:=3000000) (maxDischargeDepth:=6) +contextual -implicitDefEqProofs only [amA M,amB,↓ae,↓aa,↓aj,↓ah,Nat.reduceBEq,Nat.reduceAdd,env,am,ba,d,Aa]
 |q::t,out,p,He,hl=>by
  have hll:l.length=out.length+1+(t.length+1):=by rw [hl];simp;omega
  have d:decide (out.length+1<l.length)=true:=decide_eq_true (by omega)
  have b1:IntKind.i64.wrap (((out.length+1:Nat):Int)-1)=((out.length:Nat):Int):=by rw [dq (by omega) (by omega)];omega
  have b2:IntKind.i64.wrap (((out.length+1:Nat):Int)+1)=((out.length+1+1:Nat):Int):=by rw [dq (by omega) (by omega)];omega
  have i1:yV 2 (.rslice id 0 l.length 2 true) (.int .i64 ((out.length+1:Nat):Int))=some (.ptr id (0+(out.length+1)*2)):=Jh (by omega)
  have i2:yV 2 (.rslice id 0 l.length 2 true) (.int .i64 ((out.length:Nat):Int))=some (.ptr id (0+out.length*2)):=Jh (by omega)
  have l1:c8 (some 2) (b5 l++rest) (0+(out.length+1)*2)=some (.agg q.row):=by
   have:=CS (out++[p]) t q rest (n:=0+(out.length+1)*2) (by simp)
   rw [hl];simpa [List.append_assoc] using this
  have l2:c8 (some 2) (b5 l++rest) (0+out.length*2)=some (.agg p.row):=by
   rw [hl];exact CS out (q::t) p rest (by omega)
  cases hqp:(q.name == p.name&&q.value == p.value) with
  |true=>
   rw [cpR,if_pos hqp]
   have hin:=fun k He=>cpi M hU (H:=H) (H0:=H0) hid (T:=T) (rest:=rest) k (n:=l.length) (off:=out.length+1) hn t (out++[p]) [] q 1 He (by simp) (by simp;omega) (by omega)
   have hl2:l=(out++[p])++([]++q::t):=by rw [hl];simp
   have hs:H.set id (.cells (b5 ((out++[p])++([]++q::t))++rest) T)=H:=by rw [← hl2];exact yO hx
   have ho:(out++[p]).length=out.length+1:=by simp
   simp only [hs,ho,(show ((1:Nat):Int)=1 from rfl)] at hin
   simp only [kv_cons,kv_nil] at hin
   generalize hK:(out++[p])++ddF q t=K at hin
   have hjk:=OE t [] q
   have hKl:K.length+(jkF [] q t).length=l.length:=by rw [← hK,hll];simp;simp at hjk;omega
   have hjp:0<(jkF [] q t).length:=by
    have:(ddF q t).length≤t.length:=by
     have key:∀ (t:List au) (q:au),(ddF q t).length≤t.length:=fun t=>by
      induction t with
      |nil=>intro q;simp [ddF]
      |cons a t ih=>
       intro q;rw [ddF];have:=ih a;split<;>simp<;>omega
     exact key t q
    simp at hjk;omega
   have hKp:0<K.length:=by rw [← hK];simp;omega
   have s1:CX 2 (.rslice id 0 l.length 2 true) (some (.int .i64 ((out.length+1:Nat):Int))) none none=some (.rslice id ((out.length+1)*2) (l.length-(out.length+1)) 2 true):=by
    simp only [CX,fH]
    rw [if_pos (by omega),Int.toNat_natCast]
    simp only []
    rw [if_pos ⟨trivial,.inl (by omega),Nat.le_refl _⟩,Nat.zero_add]
   have s2:CX 2 (.rslice id 0 l.length 2 true) (some (.int .i64 (K.length:Int))) none none=some (.rslice id (K.length*2) (l.length-K.length) 2 true):=by
    simp only [CX,fH]
    rw [if_pos (by omega),Int.toNat_natCast]
    simp only []
    rw [if_pos ⟨trivial,.inl (by omega),Nat.le_refl _⟩,Nat.zero_add]
   have s3:CX 2 (.rslice id 0 l.length 2 true) none (some (.int .i64 (K.length:Int))) none=some (.rslice id 0 K.length 2 true):=by
    simp only [CX,fH]
    rw [if_pos (by omega),Int.toNat_natCast]
    simp only []
    rw [if_pos ⟨trivial,.inl (by omega),by omega⟩];simp
   have hcl:rcl (H.set id (.cells (b5 (K++jkF [] q t)++rest) T)) 2 [.str [],.str []] (.rslice id (K.length*2) (l.length-K.length) 2 true)=some (H.set id (.cells (b5 K++(nM (l.length-K.length)++rest)) T)):=by
    simp only [rcl,Py hid]
    rw [if_pos ⟨trivial,by rw [List.length_append,p7,List.length_append];omega⟩,List.set_set]
    have e:b5 (K++jkF [] q t)++rest=b5 K++(b5 (jkF [] q t)++rest):=by rw [CR];simp
    have:=Ek (b5 K) (b5 (jkF [] q t)) (nM (l.length-K.length)) rest (by rw [p7,OC];omega)
    rw [p7] at this
    rw [e]
    show some (H.set id (.cells (aV _ _ (nM (l.length-K.length))) T))=_
    rw [this]
   have hcut:bP H0 (H.set id (.cells (b5 K++(nM (l.length-K.length)++rest)) T)):=Te hc id (FD _ K _ (fun c hcm=>by
    rcases List.mem_append.1 hcm with h | h
    ·rw [G5] at h
     exact FD _ _ [] (fun _ h=>by cases h) T c (by simpa using h)
    ·exact hr c h) T)
   have hfin:uY dW .drop H0 (H.set id (.cells (b5 K++(nM (l.length-K.length)++rest)) T)) (.rslice id 0 K.length 2 true)=some (.rslice id 0 K.length 2 true,(H.set id (.cells (b5 K++(nM (l.length-K.length)++rest)) T)).take H0.length):=handV_drop hcut (wk_rslice hi0)
   have hK2:out++p::ddF q t=K:=by rw [← hK];simp
   rw [hK2]
   rw [ao M ce.eq_1]
   simp (maxSteps:=3000000) (maxDischargeDepth:=6) +contextual -implicitDefEqProofs only [amA M,amB,↓ae,↓aa,↓aj,↓ah,Nat.reduceBEq,Nat.reduceAdd,env,am,ba,amZ,d,Aa,b1,i1,i2,hx,l1,l2,CT hx,uw,hqp,s1,s2,s3,hin,hcl,hfin]
  |false=>
   have hne:¬ ((q.name == p.name&&q.value == p.value)=true):=by rw [hqp];simp
   rw [cpR,if_neg hne]
   have ih:=fun He=>cpo hU (H0:=H0) hid hi0 hc hr k hn hx t (out++[p]) q He (by rw [hl];simp)
   have ho:(out++[p]).length=out.length+1:=by simp
   simp only [kv_cons,kv_nil,ho] at ih
   rw [ao M ce.eq_1]
   simp (maxSteps:=3000000) (maxDischargeDepth:=6) +contextual -implicitDefEqProofs only [amA M,amB,↓ae,↓aa,↓aj,↓ah,Nat.reduceBEq,Nat.reduceAdd,env,am,ba,d,Aa,b1,b2,i1,i2,hx,l1,l2,CT hx,uw,hqp,ih]
end
def El(l:List au):Prop:=l.Pairwise fun x y=>Op.bytesLess x.name y.name=true
def Wek(l:List au):Prop:=l.Pairwise fun x y=>Op.bytesLess y.name x.name=false
theorem Cy:∀ {l:List au},uW l=true→El l
 |[],_=>.nil
 |x::l,h=>.cons (vr h) (Cy (zO h))
theorem Ji{x y:au}(h:(x.name == y.name&&x.value == y.value)=true):x=y:=by
 simp only [Bool.and_eq_true,beq_iff_eq] at h
 cases x;cases y;simp only at h;rw [h.1,h.2]
theorem OG(x:au):(x.name == x.name&&x.value == x.value)=true:=by simp
theorem Nq{l:List au}(h:El l){x y:au}(hx:x∈l)(hy:y∈l)(hn:x.name=y.name):x=y:=by
 induction l with
 |nil=>cases hx
 |cons a l ih=>
  rw [El,List.pairwise_cons] at h
  rcases List.mem_cons.1 hx with hx1 | hx1<;>rcases List.mem_cons.1 hy with hy1 | hy1
  ·rw [hx1,hy1]
  ·have:=h.1 y hy1;rw [← hx1,hn,Cs] at this;cases this
  ·have:=h.1 x hx1;rw [← hy1,hn,Cs] at this;cases this
  ·exact ih h.2 hx1 hy1
theorem Pz:∀ {l m:List au},El l→El m→(∀ x,x∈l↔x∈m)→l=m
 |[],[],_,_,_=>rfl
 |[],y::m,_,_,h=>by have:=(h y).2 (by simp);cases this
 |x::l,[],_,_,h=>by have:=(h x).1 (by simp);cases this
 |x::l,y::m,hl,hm,h=>by
  rw [El,List.pairwise_cons] at hl hm
  have hxy:x=y:=by
   rcases List.mem_cons.1 ((h x).1 (by simp)) with e | h1
   ·exact e
   ·rcases List.mem_cons.1 ((h y).2 (by simp)) with e | h2
    ·exact e.symm
    ·have a1:=hm.1 x h1
     have a2:=hl.1 y h2
     rw [RR a1] at a2;cases a2
  subst hxy
  congr 1
  refine Pz hl.2 hm.2 fun z=>⟨fun hz => ?_,fun hz => ?_⟩
  ·rcases List.mem_cons.1 ((h z).1 (by simp [hz])) with e | h1
   ·have:=hl.1 z hz;rw [e,Cs] at this;cases this
   ·exact h1
  ·rcases List.mem_cons.1 ((h z).2 (by simp [hz])) with e | h1
   ·have:=hm.1 z hz;rw [e,Cs] at this;cases this
   ·exact h1
theorem xR:∀ (n:Nat) (a b m:List au),a.length+b.length≤n→El a→El b→gd a b=some m→(∀ x,x∈m↔x∈a∨x∈b)∧El m
 |_,[],b,m,_,_,hb,h=>by
  have:gd [] b=some b:=by cases b<;>simp [gd]
  rw [this] at h;cases h
  exact ⟨fun x=>by simp,hb⟩
 |_,x::a,[],m,_,ha,_,h=>by
  have:gd (x::a) []=some (x::a):=by simp [gd]
  rw [this] at h;cases h
  exact ⟨fun x=>by simp,ha⟩
 |0,x::a,y::b,m,hl,_,_,_=>by simp at hl
 |n+1,x::a,y::b,m,hl,ha,hb,h=>by
  have ha':=ha;have hb':=hb
  rw [El,List.pairwise_cons] at ha hb
  simp only [List.length_cons] at hl
  rw [gd] at h
  cases c1:Op.bytesLess x.name y.name with
  |true=>
   rw [c1] at h
   simp only [Option.map_eq_some_iff] at h
   obtain ⟨m',h1,rfl⟩:=h
   obtain ⟨g1,g2⟩:=xR n a (y::b) m' (by simp only [List.length_cons];omega) ha.2 hb' h1
   refine ⟨fun z=>by rw [List.mem_cons,g1,List.mem_cons (a:=z) (b:=x),or_assoc],List.pairwise_cons.2 ⟨fun z hz => ?_,g2⟩⟩
   rcases (g1 z).1 hz with h | h
   ·exact ha.1 z h
   ·rcases List.mem_cons.1 h with rfl | h
    ·exact c1
    ·exact qP c1 (hb.1 z h)
  |false=>
   rw [c1] at h
   simp only at h
   cases c2:Op.bytesLess y.name x.name with
   |true=>
    rw [c2] at h
    simp only [Option.map_eq_some_iff] at h
    obtain ⟨m',h1,rfl⟩:=h
    obtain ⟨g1,g2⟩:=xR n (x::a) b m' (by simp only [List.length_cons];omega) ha' hb.2 h1
    refine ⟨fun z=>by rw [List.mem_cons,g1,List.mem_cons (a:=z) (b:=y) (l:=b)];exact or_left_comm,List.pairwise_cons.2 ⟨fun z hz => ?_,g2⟩⟩
    rcases (g1 z).1 hz with h | h
    ·rcases List.mem_cons.1 h with rfl | h
     ·exact c2
     ·exact qP c2 (ha.1 z h)
    ·exact hb.1 z h
   |false=>
    rw [c2] at h
    simp only at h
    have hn:=I7 c1 c2
    cases c3:(x.name == y.name&&x.value == y.value) with
    |false=>rw [c3] at h;cases h
    |true=>
     rw [c3] at h
     simp only [Option.map_eq_some_iff] at h
     obtain ⟨m',h1,rfl⟩:=h
     have hxy:=Ji c3
     subst hxy
     obtain ⟨g1,g2⟩:=xR n a b m' (by omega) ha.2 hb.2 h1
     refine ⟨fun z=>by rw [List.mem_cons,g1,List.mem_cons (a:=z) (b:=x) (l:=a),List.mem_cons (a:=z) (b:=x) (l:=b)];exact or_or_distrib_left,List.pairwise_cons.2 ⟨fun z hz => ?_,g2⟩⟩
     rcases (g1 z).1 hz with h | h
     ·exact ha.1 z h
     ·exact hb.1 z h
theorem OH:∀ (l:List au) (p q:au),q∈p::ddF p l↔q∈p::l
 |[],p,q=>by simp [ddF]
 |r::t,p,q=>by
  rw [ddF]
  split
  ·rename_i h
   obtain rfl:=Ji h
   rw [OH t r q];simp
  ·rw [List.mem_cons,OH t r q,List.mem_cons (a:=q) (b:=p)]
theorem R9:∀ (l:List au) (p:au),Wek (p::l)→(∀ x∈p::l,∀ y∈p::l,x.name=y.name→x=y)→El (p::ddF p l)
 |[],p,_,_=>by simp [ddF,El]
 |q::t,p,hw,hu=>by
  have hw':=hw
  rw [Wek,List.pairwise_cons] at hw
  have ih:=R9 t q hw.2 (fun x hx y hy=>hu x (by simp at hx ⊢;exact .inr hx) y (by simp at hy ⊢;exact .inr hy))
  rw [ddF]
  split
  ·rename_i h
   obtain rfl:=Ji h
   exact ih
  ·rename_i h
   have hpq:Op.bytesLess p.name q.name=true:=by
    have h1:=hw.1 q (by simp)
    cases h2:Op.bytesLess p.name q.name with
    |true=>rfl
    |false=>
     have:=hu p (by simp) q (by simp) (I7 h2 h1)
     subst this
     exact absurd (OG p) h
   refine List.pairwise_cons.2 ⟨fun z hz => ?_,ih⟩
   rcases List.mem_cons.1 hz with rfl | hz
   ·exact hpq
   ·exact qP hpq ((List.pairwise_cons.1 ih).1 z hz)
structure Srt (srt:List au→List au):Prop where
 perm:∀ l,(srt l).Perm l
 ord:∀ l,Wek (srt l)
theorem Sa{a b:List au}(ha:El a)(hb:El b)(hc:kX a b=false):∀ x∈a++b,∀ y∈a++b,x.name=y.name→x=y:=by
 have hab:∀ x∈a,∀ y∈b,x.name=y.name→x=y:=fun x hx y hy hn=>by
  have h1:(b.any fun g=>km x g)=false:=by
   unfold kX at hc
   rw [List.any_eq_false] at hc
   have:=hc x hx
   simpa using this
  rw [List.any_eq_false] at h1
  have h2:=h1 y hy
  simp only [km,hn,beq_self_eq_true,Bool.true_and,Bool.not_eq_true,Bool.not_eq_false'] at h2
  cases x;cases y;simp only at hn h2;rw [hn,eq_of_beq h2]
 intro x hx y hy hn
 rcases List.mem_append.1 hx with hx | hx<;>rcases List.mem_append.1 hy with hy | hy
 ·exact Nq ha hx hy hn
 ·exact hab x hx y hy hn
 ·exact (hab y hy x hx hn.symm).symm
 ·exact Nq hb hx hy hn
theorem OI{srt:List au→List au}(hs:Srt srt){l:List au}(hu:∀ x∈l,∀ y∈l,x.name=y.name→x=y):(∀ x,x∈xQ (srt l)↔x∈l)∧El (xQ (srt l)):=by
 have hp:=hs.perm l
 have ho:=hs.ord l
 generalize srt l=s at hp ho
 have hm:∀ x,x∈s↔x∈l:=fun x=>hp.mem_iff
 cases s with
 |nil=>exact ⟨fun x=>by rw [← hm];rfl,.nil⟩
 |cons p s=>exact ⟨fun x=>by rw [← hm];exact OH s p x,R9 s p ho fun x hx y hy=>hu x ((hm x).1 hx) y ((hm y).1 hy)⟩
def OJ(srt:List au→List au)(a b:List au):Option (List au):=sel (uW a&&uW b && !kX a b) (some (xQ (srt (a++b)))) none
theorem Sb{srt:List au→List au}(hs:Srt srt)(a b:List au):OJ srt a b=uX a b:=by
 unfold OJ uX
 cases ha:uW a with
 |false=>rfl
 |true=>
  cases hb:uW b with
  |false=>rfl
  |true=>
   have hc:=ux _ a b (Nat.le_refl _) ha hb
   simp only [Bool.true_and,sel]
   cases hcl:kX a b with
   |true=>
    rw [hcl] at hc
    cases hm:gd a b with
    |none=>rfl
    |some m=>rw [hm] at hc;cases hc
   |false=>
    rw [hcl] at hc
    cases hm:gd a b with
    |none=>rw [hm] at hc;cases hc
    |some m=>
     obtain ⟨g1,g2⟩:=xR _ a b m (Nat.le_refl _) (Cy ha) (Cy hb) hm
     obtain ⟨g3,g4⟩:=OI hs (Sa (Cy ha) (Cy hb) hcl)
     simp only [Bool.not_false]
     congr 1
     exact Pz g4 g2 fun x=>by rw [g3,g1,List.mem_append]
theorem CU:∀ (n:Nat) (a b m:List au),a.length+b.length≤n→gd a b=some m→m.length≤a.length+b.length
 |_,[],b,m,_,h=>by
  have:gd [] b=some b:=by cases b<;>simp [gd]
  rw [this] at h;cases h;simp
 |_,x::a,[],m,_,h=>by
  have:gd (x::a) []=some (x::a):=by simp [gd]
  rw [this] at h;cases h;simp
 |0,x::a,y::b,m,hl,_=>by simp at hl
 |n+1,x::a,y::b,m,hl,h=>by
  simp only [List.length_cons] at hl
  rw [gd] at h
  split at h
  ·simp only [Option.map_eq_some_iff] at h
   obtain ⟨m',h1,rfl⟩:=h
   have:=CU n a (y::b) m' (by simp only [List.length_cons];omega) h1
   simp only [List.length_cons] at this ⊢;omega
  ·split at h
   ·simp only [Option.map_eq_some_iff] at h
    obtain ⟨m',h1,rfl⟩:=h
    have:=CU n (x::a) b m' (by simp only [List.length_cons];omega) h1
    simp only [List.length_cons] at this ⊢;omega
   ·split at h
    ·simp only [Option.map_eq_some_iff] at h
     obtain ⟨m',h1,rfl⟩:=h
     have:=CU n a b m' (by omega) h1
     simp only [List.length_cons];omega
    ·cases h
section
open Go.Sort Go.Proofs Go.Lib
abbrev Pr:=List UInt8×List UInt8
def FE(x:Pr):List AV:=[.str x.1,.str x.2]
def Bw(x:Pr):List Value:=[.string ⟨x.1.toArray⟩,.string ⟨x.2.toArray⟩]
def Jj(x y:Pr):Int:=Lib.compareBytes x.1 y.1
def tz(d:Array Pr):Array Pr:=pdq (ltOf Jj) d 0 d.size (Lib.bitLen d.size) true true
def DM(l:List Pr):List Pr:=(tz l.toArray).toList
section
variable{P:Program}{G:Nat→Option (List AV)}{K:aC}{H:List ag}{w:World}
theorem Inv.drewN(hi:Inv K H w):∀ n,Inv K H (w.drewN n)
 |0=>by rw [World.drewN_zero];exact hi
 |n+1=>(Inv.drewN hi n).drew
theorem Inv.grow(hi:Inv K H w)(os:Array Obj):Inv K H (Go.Sort.grow w os):=by
 obtain ⟨l,rfl⟩:∃ l:List Obj,os=l.toArray:=⟨os.toList,by simp⟩
 induction l generalizing w with
 |nil=>simpa using hi
 |cons o l ih=>
  have:=ih (hi.junk o)
  rw [alloc_eq_grow,grow_grow] at this
  simpa using this
theorem OK:∀ (x y rest:List AV),x.length=y.length→aV (x++rest) 0 y=y++rest:=by
 have key:∀ (y x pre rest:List AV),x.length=y.length→aV (pre++x++rest) pre.length y=pre++y++rest:=by
  intro y
  induction y with
  |nil=>intro x pre rest h;have:x=[]:=List.length_eq_zero_iff.1 h;subst this;simp [aV]
  |cons a y ih=>
   intro x pre rest h
   cases x with
   |nil=>cases h
   |cons b x=>
    rw [aV]
    have:=ih x (pre++[a]) rest (by simpa using h)
    simp only [List.length_append,List.length_cons,List.length_nil,List.append_assoc,List.cons_append,List.nil_append] at this ⊢
    rw [← this]
    congr 1
    simp
 intro x y rest h
 simpa using key y x [] rest h
theorem KX(l:List Pr):∀ (j:Nat),j<l.length*2→∃ s,(l.flatMap FE)[j]?=some (.str s)∧(Bw (l.toArray[j / 2]!))[j % 2]! = .string ⟨s.toArray⟩:=by
 induction l with
 |nil=>intro j h;simp at h
 |cons x l ih=>
  intro j h
  match j with
  |0=>exact ⟨x.1,rfl,rfl⟩
  |1=>exact ⟨x.2,rfl,rfl⟩
  |j+2=>
   obtain ⟨s,h1,h2⟩:=ih j (by simp at h;omega)
   refine ⟨s,by simpa [FE] using h1, ?_⟩
   have e1:(j+2) / 2=j / 2+1:=by omega
   have e2:(j+2) % 2=j % 2:=by omega
   rw [e1,e2,← h2]
   simp
theorem lw(l:List Pr):(l.flatMap FE).length=l.length*2:=by
 induction l with
 |nil=>rfl
 |cons x l ih=>simp [FE,ih];omega
theorem Nr{f g:FuncId}(ef:∀ args w,(callFunc f args).run P w = .ok (.enter f args) w)
  (hs:∀ (blk cap:Nat) (d:Array Pr) (w:World),HoldsK Bw 2 w blk 0 d→blk<w.heap.size→d.size<4611686018427387904 →
   Calls P f #[.slice (some ⟨blk,0,none⟩) d.size cap,.func (.func g) #[] #[]] w fun e w'=>e = .returned (.tuple #[])∧∃ n os,w'=sortWorldK Bw 2 w blk 0 n (tz d) os)
  (hz:∀ d:Array Pr,(tz d).size=d.size)
  {l:List Pr} (hl:l.length<4611686018427387904) {rest:List AV}{id:Nat}{room:Bool}{T:TypeId} (hid:H[id]?=some (.cells (l.flatMap FE++rest) T)) :
  eU P G f [.rslice id 0 l.length 2 room,.fn (.func g) [] []] H fun r H'=>r = .ret (.tuple [])∧H'=H.set id (.cells ((DM l).flatMap FE++rest) T):=by
 intro K w cargs hg hi hv
 obtain ⟨c,d,rfl,hc,hd⟩:=ua hv
 cases hc with
 |rslice _ _ _ _ _ b cap hb hcap hro=>
 cases hd with
 |fn _ _ _ vs us h1 h2 hv1 hu1=>
 obtain rfl:vs = #[]:=Array.eq_empty_of_size_eq_zero h1.symm
 obtain rfl:us = #[]:=Array.eq_empty_of_size_eq_zero h2.symm
 obtain ⟨b',vs,T',g1,g2,g3,g4,g5,g6,g7,g8,g9⟩:=hi.obj id _ hid
 rw [hb] at g1;cases g1
 have hlen:l.length*2≤vs.size:=by
  rw [List.length_append,lw] at g4;omega
 have hH:HoldsK Bw 2 w b 0 l.toArray:=by
  intro j hj
  rw [size_flatK] at hj
  simp only [List.size_toArray] at hj
  obtain ⟨s,e1,e2⟩:=KX l j hj
  have hav:=g5 j (.str s) (by rw [List.getElem?_append_left (by rw [lw];exact hj)];exact e1)
  have hlt:j<vs.size:=by omega
  refine ⟨?_,by simp [World.frozen?,g3]⟩
  rw [Nat.zero_add,cell_of_heap g3,Array.getElem?_eq_getElem hlt]
  rw [get_flatK _ _ _ _ (by simpa using hj),e2]
  have hgd:vs.getD j undef=vs[j]:=by simp [Array.getD,hlt]
  rw [hgd] at hav
  generalize vs[j]=v at hav
  cases hav
  rfl
 have hblk:b<w.heap.size:=(Array.getElem?_eq_some_iff.1 g3).1
 have hc:=hs b cap l.toArray w hH hblk (by simpa using hl)
 simp only [List.size_toArray] at hc
 refine .inl ⟨ef _ _,hc.mono ?_⟩
 rintro e w' ⟨rfl,n,os,rfl⟩
 have hz':(tz l.toArray).size=l.length:=by simpa using hz l.toArray
 have hsl:(DM l).length=l.length:=by simpa [DM] using hz'
 refine ⟨K,.ret (.tuple []),_,.refl K,(.tuple [] #[] rfl (by simp):V K _ _), ?_,rfl,rfl⟩
 have e1:putRowK Bw 2 (Sort.ahead w n) b 0 (tz l.toArray)=(w.drewN n).setCells b 0 (flatK Bw 2 (tz l.toArray)).toList:=by
  have:=putRow_eq_setCells (fun v:Value=>v) w b 0 (flatK Bw 2 l.toArray) (flatK Bw 2 (tz l.toArray)).toList n hH (by simp [hz'])
  simp only [Array.toArray_toList,List.map_id_fun,List.map_id] at this
  refine Eq.trans ?_ (this.trans ?_)
  ·rfl
  ·congr 1;exact List.map_id _
 unfold sortWorldK
 rw [e1]
 refine Inv.grow ?_ os
 have hi2:=hi.drewN n
 have:=Inv.stores hb ((DM l).flatMap FE) (flatK Bw 2 (tz l.toArray)).toList 0 H (w.drewN n) (l.flatMap FE++rest) T hi2 hid (by rw [lw,hsl];simp [hz']) (by rw [lw,hsl,List.length_append,lw];omega) (fun j av hj=>by
  have hj2:j<(DM l).length*2:=by rw [← lw];exact (List.getElem?_eq_some_iff.1 hj).1
  obtain ⟨s,k1,k2⟩:=KX (DM l) j hj2
  rw [hj] at k1;cases k1
  refine ⟨.string ⟨s.toArray⟩, ?_,.str s⟩
  have hj3:j<(tz l.toArray).size*2:=by rw [hz',← hsl];exact hj2
  have:(flatK Bw 2 (tz l.toArray))[j]! = .string ⟨s.toArray⟩:=by
   rw [get_flatK _ _ _ _ hj3,← k2];simp [DM]
  rw [Array.getElem?_toList,← this,getElem!_def]
  have hj4:j<(flatK Bw 2 (tz l.toArray)).size:=by rw [size_flatK];exact hj3
  rw [Array.getElem?_eq_getElem hj4])
 rwa [OK _ _ _ (by rw [lw,lw,hsl])] at this
end
end
section
open Go.Sort Go.Proofs Go.Lib
def toP(x:au):Pr:=(x.name,x.value)
def ofP(p:Pr):au:=⟨p.1,p.2⟩
def Sc(l:List au):List au:=(DM (l.map toP)).map ofP
theorem PA(l:List au):b5 l=(l.map toP).flatMap FE:=by
 unfold b5
 induction l with
 |nil=>rfl
 |cons x l ih=>rw [List.map_cons,List.flatten_cons,ih];rfl
theorem Tg(l:List Pr):b5 (l.map ofP)=l.flatMap FE:=by
 rw [PA,List.map_map]
 congr 1
 exact List.map_id l
theorem Sd:∀ x y:List UInt8,decide (Lib.compareBytes x y<0)=Op.bytesLess x y
 |[],[]=>rfl
 |[],_::_=>rfl
 |_::_,[]=>rfl
 |a::x,b::y=>by
  rw [Lib.compareBytes,Op.bytesLess]
  by_cases h1:a<b
  ·simp [h1]
  ·by_cases h2:b<a
   ·have:¬ a=b:=fun e=>by subst e;exact h1 h2
    simp [h1,h2,this]
   ·have:a=b:=UInt8.le_antisymm (UInt8.not_lt.1 h2) (UInt8.not_lt.1 h1)
    subst this
    simp [h1,Sd x y]
theorem PB(x y:Pr):ltOf Jj x y=Op.bytesLess x.1 y.1:=Sd x.1 y.1
theorem UX:SWO (ltOf Jj) where
 irrefl x:=by rw [PB];exact Cs _
 trans x y z h1 h2:=by rw [PB] at *;exact qP h1 h2
 ntrans x y z h1 h2:=by
  rw [PB] at *
  cases h3:Op.bytesLess x.1 z.1 with
  |false=>rfl
  |true=>
   cases h4:Op.bytesLess y.1 x.1 with
   |true=>rw [qP h4 h3] at h2;cases h2
   |false=>rw [I7 h1 h4] at h3;rw [h3] at h2;cases h2
theorem Em(d:Array Pr):PermIn 0 d.size d (tz d)∧SortedIn (ltOf Jj) 0 d.size (tz d):=
 pdq_sorts (ltOf Jj) UX d 0 d.size (Lib.bitLen d.size) true true (Nat.zero_le _) (Nat.le_refl _) (Or.inl rfl)
theorem Gy(d:Array Pr):(tz d).size=d.size:=(Em d).1.1
theorem Se:Srt Sc:=by
 constructor
 ·intro l
  have h:=(Em (l.map toP).toArray).1.2.2
  have hs:=Gy (l.map toP).toArray
  have e1:(tz (l.map toP).toArray).extract 0 (l.map toP).toArray.size=tz (l.map toP).toArray:=by rw [← hs];exact Array.extract_size
  have e2:(l.map toP).toArray.extract 0 (l.map toP).toArray.size=(l.map toP).toArray:=Array.extract_size
  rw [e1,e2] at h
  have h2:=h.map ofP
  have e3:(l.map toP).map ofP=l:=by rw [List.map_map];exact List.map_id l
  rwa [e3] at h2
 ·intro l
  have h:=(Em (l.map toP).toArray).2
  have hs:=Gy (l.map toP).toArray
  unfold Wek Sc DM
  rw [List.pairwise_iff_getElem]
  intro i j hi hj hij
  simp only [List.length_map,Array.length_toList] at hi hj
  have:=h i j (Nat.zero_le _) hij (by rw [← hs];exact hj)
  rw [PB] at this
  simp only [List.getElem_map,Array.getElem_toList]
  rw [getElem!_pos _ i hi,getElem!_pos _ j hj] at this
  exact this
def Ns:List AV→Option (List Pr)
 |[]=>some []
 |.str a :: .str b::r=>match Ns r with
  |some l=>some ((a,b)::l)
  |none=>none
 |_=>none
theorem KY:∀ l:List Pr,Ns (l.flatMap FE)=some l
 |[]=>rfl
 |x::l=>by
  show Ns (.str x.1 :: .str x.2::l.flatMap FE)=_
  rw [Ns,KY l]
theorem PC:∀ {cs:List AV}{l:List Pr},Ns cs=some l→cs=l.flatMap FE
 |[],l,h=>by cases h;rfl
 |.str a :: .str b::r,l,h=>by
  rw [Ns] at h
  split at h
  ·rename_i l' h'
   cases h
   rw [PC h'];rfl
  ·cases h
def QD(fS gU:FuncId)(f:FuncId)(args:List AV)(H:List ag):Option Out:=
 match args with
 |[.rslice id 0 n 2 true,.fn (.func g) [] []]=>bif Nat.beq f fS&&Nat.beq g gU then (match H[id]? with
   |some (.cells cs T)=>match Ns cs with
    |some l=>bif Nat.beq l.length n&&Nat.ble n 4000000000 then some (.ret (.tuple []),H.set id (.cells ((DM l).flatMap FE) T)) else none
    |none=>none
   |_=>none) else none
 |[.slice .full 2 [],.fn (.func g) [] []]=>bif Nat.beq f fS&&Nat.beq g gU then some (.ret (.tuple []),H) else none
 |_=>none
theorem Th{P:Program}{G:Nat→Option (List AV)}{fS gU:FuncId}(ef:∀ args w,(callFunc fS args).run P w = .ok (.enter fS args) w)
  (hs:∀ (blk cap:Nat) (d:Array Pr) (w:World),HoldsK Bw 2 w blk 0 d→blk<w.heap.size→d.size<4611686018427387904 →
   Calls P fS #[.slice (some ⟨blk,0,none⟩) d.size cap,.func (.func gU) #[] #[]] w fun e w'=>e = .returned (.tuple #[])∧∃ n os,w'=sortWorldK Bw 2 w blk 0 n (tz d) os)
  (h0:∀ (p:Option Addr) (cap:Nat) (fv:Value) (w:World),Calls P fS #[.slice p 0 cap,fv] w fun e w'=>e = .returned (.tuple #[])∧w'=w)
  {f:FuncId}{args:List AV}{H H':List ag}{r:u4} (h:QD fS gU f args H=some (r,H')):eU P G f args H fun r2 H2=>r2=r∧H2=H':=by
 unfold QD at h
 split at h
 ·rename_i id n g
  cases hb:(Nat.beq f fS&&Nat.beq g gU) with
  |false=>rw [hb] at h;cases h
  |true=>
   rw [hb,cond_true] at h
   simp only [Bool.and_eq_true] at hb
   obtain rfl:=Nat.eq_of_beq_eq_true hb.1
   obtain rfl:=Nat.eq_of_beq_eq_true hb.2
   split at h<;>try (cases h;done)
   rename_i cs T hx
   split at h<;>try (cases h;done)
   rename_i l hl
   cases hc:(Nat.beq l.length n&&Nat.ble n 4000000000) with
   |false=>rw [hc] at h;cases h
   |true=>
    rw [hc,cond_true] at h
    simp only [Bool.and_eq_true] at hc
    obtain rfl:=Nat.eq_of_beq_eq_true hc.1
    have hle:=Nat.le_of_ble_eq_true hc.2
    cases h
    obtain rfl:=PC hl
    have:=Nr (P:=P) (G:=G) ef hs Gy (l:=l) (by omega) (rest:=[]) (H:=H) (id:=id) (room:=true) (T:=T) (by rw [List.append_nil];exact hx)
    simpa using this
 ·rename_i g
  cases hb:(Nat.beq f fS&&Nat.beq g gU) with
  |false=>rw [hb] at h;cases h
  |true=>
   rw [hb,cond_true] at h
   simp only [Bool.and_eq_true] at hb
   obtain rfl:=Nat.eq_of_beq_eq_true hb.1
   cases h
   intro K w cargs hg hi hv
   obtain ⟨c,d,rfl,hc,hd⟩:=ua hv
   obtain ⟨p,rfl⟩:∃ p,c = .slice p 0 0:=by
    cases hc with
    |slice0 _ _ a _=>exact ⟨a,rfl⟩
    |slice _ _ _ b o cap vs hl him hvv hcap ht=>exact ⟨_,by have:cap=0:=ht;rw [this];rfl⟩
   refine .inl ⟨ef _ _,(h0 p 0 d w).mono ?_⟩
   rintro e w' ⟨rfl,rfl⟩
   exact ⟨K,.ret (.tuple []),H,.refl K,(.tuple [] #[] rfl (by simp):V K _ _),hi,rfl,rfl⟩
 ·cases h
end
section
attribute [local congr] aP dR bF aQ bq aZ aR aE aF a6 a7
variable{E:bL}(M:dK dW E)
theorem Sf{H0:List ag}{k:List Fra}{id:Nat}{T:TypeId}{rest:List AV}{H:List ag}{l:List au}(hx:H[id]?=some (.cells (b5 l++rest) T))
  (hk:M.go aO H0 k (kv [(0,.rslice id 0 l.length 2 true)]) H=some (.ret (.rslice id 0 l.length 2 true),H.take H0.length)) :
  ∀ (t out:List au) (p:au),l=out++p::t→cpR M H0 k id T rest H l.length out p t=some (.ret (.rslice id 0 (out++p::ddF p t).length 2 true),(H.set id (.cells (b5 (out++p::ddF p t)++(nM (l.length-(out++p::ddF p t).length)++rest)) T)).take H0.length)
 |[],out,p,hl=>by
  rw [cpR,hk,ddF,← hl,Nat.sub_self,show nM 0=[] from rfl,List.nil_append,yO hx]
 |q::t,out,p,hl=>by
  rw [cpR,ddF]
  split
  ·rfl
  ·have:=Sf hx hk t (out++[p]) q (by rw [hl];simp)
   rw [this]
   simp only [List.append_assoc,List.cons_append,List.nil_append]
theorem Nt(hU:yn E){l:List au}(h0:0<l.length)(hn:l.length≤4000000000){H:List ag}{id:Nat}{T:TypeId}{rest:List AV}(hr:∀ c∈rest,Wk H.length c c)(hx:H[id]?=some (.cells (b5 l++rest) T)) :
  M.run eD [.rslice id 0 l.length 2 true] H=some (.ret (.rslice id 0 (xQ l).length 2 true),H.set id (.cells (b5 (xQ l)++(nM (l.length-(xQ l).length)++rest)) T)):=by
 have hid:id<H.length:=(List.getElem?_eq_some_iff.1 hx).1
 have hw:∀ n,uY dW .drop H H (.rslice id 0 n 2 true)=some (.rslice id 0 n 2 true,H.take H.length):=fun n=>handV_drop (cut_refl H) (wk_rslice hid)
 match l,h0,hn,hx with
 |[x],_,_,hx=>
  rw [aL M hU.slices_Compact_api_Feat_api_Feat rfl (c:=bR) rfl,bR]
  have e:xQ [x]=[x]:=rfl
  have hs:H.set id (.cells (b5 [x]++(nM ([x].length-[x].length)++rest)) T)=H:=by rw [Nat.sub_self];exact yO hx
  rw [e,hs]
  simp (maxSteps:=3000000) (maxDischargeDepth:=6) +contextual -implicitDefEqProofs only [amA M,amB,↓ae,↓aa,↓aj,↓ah,Nat.reduceBEq,Nat.reduceAdd,env,am,ba,Aa,hw,(show decide ([x].length<2)=true from rfl),(show decide ((([x].length:Nat):Int)<2)=true from rfl)]
 |x::y::t,_,hn,hx=>
  rw [aL M hU.slices_Compact_api_Feat_api_Feat rfl (c:=bR) rfl,bR]
  generalize hl:x::y::t=l at *
  have d:decide ((l.length:Int)<2)=false:=decide_eq_false (by rw [← hl];simp;omega)
  have h1:=fun k He=>cpo M hU (H:=H) (H0:=H) hid hid (cut_refl H) (T:=T) (rest:=rest) hr k (l:=l) hn hx (y::t) [] x He (by rw [← hl];rfl)
  simp only [kv_cons,kv_nil,List.length_nil,Nat.zero_add,(show ((1:Nat):Int)=1 from rfl)] at h1
  have hk:M.go aO H [.c (Sh.Q (Sh.O [Sh.m 60 0,Sh.m 2 60]) Sh.R)] (kv [(0,.rslice id 0 l.length 2 true)]) H=some (.ret (.rslice id 0 l.length 2 true),H.take H.length):=by
   simp only [kv_cons,kv_nil]
   simp (maxSteps:=3000000) (maxDischargeDepth:=6) +contextual -implicitDefEqProofs only [amA M,amB,↓ae,↓aa,↓aj,↓ah,Nat.reduceBEq,Nat.reduceAdd,env,am,ba,hw]
  have h2:=Sf M (rest:=rest) hx hk (y::t) [] x (by rw [← hl];rfl)
  have hc:xQ l=[]++x::ddF x (y::t):=by rw [← hl];rfl
  rw [← hc,List.take_of_length_le (by simp)] at h2
  simp (maxSteps:=3000000) (maxDischargeDepth:=6) +contextual -implicitDefEqProofs only [amA M,amB,↓ae,↓aa,↓aj,↓ah,Nat.reduceBEq,Nat.reduceAdd,env,am,ba,Aa,d,h1]
  exact h2
theorem Nu(hU:yn E){ta tb:Tag}(H:List ag) :
  M.run eP [.slice .full 1 [[.slice ta 2 []],[.slice tb 2 []]]] H=some (.ret (.slice .full 2 []),H):=by
 rw [aL M hU.slices_Concat_api_Feat_api_Feat rfl (c:=dL) rfl,dL]
 have w1:IntKind.i64.wrap (0+0)=0:=by decide
 have w3:IntKind.i64.wrap (0+1)=1:=by decide
 have w4:IntKind.i64.wrap (1+1)=2:=by decide
 have d1:decide ((0:Int)<0)=false:=rfl
 have i0:yV 1 (.slice .full 1 [[.slice ta 2 []],[.slice tb 2 []]]) (.int .i64 0)=some (.vptr 1 [[.slice ta 2 []],[.slice tb 2 []]] 0 0):=rfl
 have i1:yV 1 (.slice .full 1 [[.slice ta 2 []],[.slice tb 2 []]]) (.int .i64 1)=some (.vptr 1 [[.slice ta 2 []],[.slice tb 2 []]] 1 0):=rfl
 have n0:(([[.slice ta 2 []],[.slice tb 2 []]]:List (List AV)).length:Int)=2:=rfl
 have n1:decide ((0:Int)<2)=true:=rfl
 have n2:decide ((1:Int)<2)=true:=rfl
 have n3:decide ((2:Int)<2)=false:=rfl
 have g0:([[.slice ta 2 []],[.slice tb 2 []]]:List (List AV))[0]?=some [.slice ta 2 []]:=rfl
 have g1:([[.slice ta 2 []],[.slice tb 2 []]]:List (List AV))[1]?=some [.slice tb 2 []]:=rfl
 have l0:∀ x:AV,c8 none [x] 0=some x:=fun _=>rfl
 have e0:(((List.length ([]:List (List AV))):Nat):Int)=0:=rfl
 simp (maxSteps:=3000000) (maxDischargeDepth:=6) +contextual -implicitDefEqProofs only [amA M,amB,↓ae,↓aa,↓aj,↓ah,Nat.reduceBEq,Nat.reduceAdd,env,am,kR,n0,n1,n2,n3,g0,g1,l0,e0,ao M gD.eq_1,ao M gE.eq_1,w1,w3,w4,d1,i0,i1,QB M hU,KW (.inl rfl),KW (.inr rfl)]
structure Jk (M:dK dW E) (srt:List au→List au):Prop where
 none:∀ H,M.run bk [.slice .full 2 [],.fn (.func gH) [] []] H=some (.ret (.tuple []),H)
 some:∀ {l:List au}{H:List ag}{id:Nat}{T:TypeId},0<l.length→l.length≤4000000000→H[id]? = .some (.cells (b5 l) T) →
  M.run bk [.rslice id 0 l.length 2 true,.fn (.func gH) [] []] H = .some (.ret (.tuple []),H.set id (.cells (b5 (srt l)) T))
 len:∀ l,(srt l).length=l.length
theorem Jl:∀ (l:List au) (rest:List AV),lA 2 l.length (b5 l++rest)=l.map au.row
 |[],_=>rfl
 |x::l,rest=>by
  have e:b5 (x::l)++rest=x.row++(b5 l++rest):=by simp [b5]
  rw [e,List.length_cons,lA]
  show x.row::lA 2 l.length (b5 l++rest)=_
  rw [Jl l rest];rfl
theorem Nv(H:List ag)(o o':ag):(H++[.dead,.dead,o]).set (H.length+2) o'=H++[.dead,.dead,o']:=by
 rw [List.set_append_right _ _ (by omega)];simp
theorem Jm(H:List ag)(o:ag):(H++[.dead,.dead,o])[H.length+2]?=some o:=by
 rw [List.getElem?_append_right (by omega)];simp
theorem QE(hU:yn E){srt:List au→List au}(hS:Jk M srt){a b:Sl au}(h:a.l.length+b.l.length≤4000000000)(H:List ag) :
  M.run xY [.slice a.tag 2 (a.l.map au.row),.slice b.tag 2 (b.l.map au.row)] H=some (.ret (.slice .any 2 ((xQ (srt (a.l++b.l))).map au.row)),H):=by
 rw [aL M hU.morph_union rfl (c:=yd) rfl,yd]
 have e1:List.map AV.strip [AV.slice a.tag 2 (a.l.map au.row),.slice b.tag 2 (b.l.map au.row)]=[.slice a.tag.strip 2 (a.l.map au.row),.slice b.tag.strip 2 (b.l.map au.row)]:=by simp [xI]
 have e2:∀ x y:AV,xA 1 2 [x,y]=[[x],[y]]:=fun _ _=>rfl
 by_cases h0:a.l.length+b.l.length=0
 ·have ha:a.l=[]:=List.length_eq_zero_iff.1 (by omega)
  have hb:b.l=[]:=List.length_eq_zero_iff.1 (by omega)
  have hs:srt ([]++[])=[]:=List.length_eq_zero_iff.1 (by rw [hS.len];rfl)
  have hcp:M.run eD [.slice .full 2 []] H=some (.ret (.slice .any 2 []),H):=by
   rw [aL M hU.slices_Compact_api_Feat_api_Feat rfl (c:=bR) rfl,bR]
   simp (maxSteps:=3000000) (maxDischargeDepth:=6) +contextual -implicitDefEqProofs only [amA M,amB,↓ae,↓aa,↓aj,↓ah,Nat.reduceBEq,Nat.reduceAdd,env,am,ba,Aa,(show decide ((((List.length ([]:List (List AV))):Nat):Int)<2)=true from rfl),(show decide (List.length ([]:List (List AV))<2)=true from rfl),ed]
  rw [ha,hb,hs]
  rw [ha,hb] at e1
  simp only [List.map_nil] at e1 ⊢
  simp (maxSteps:=3000000) (maxDischargeDepth:=6) +contextual -implicitDefEqProofs only [amA M,amB,↓ae,↓aa,↓aj,↓ah,Nat.reduceBEq,Nat.reduceAdd,env,am,DC,amG,AV.cell,Nat.reduceMul,Nat.reduceLeDiff,xI,Nu M hU,hS.none,hcp]
  rw [Kx (v':=.slice .any 2 []) rfl (fun K K' w w' x hi hi' hk hv=>by
   obtain ⟨hc1,hc2⟩:=hi.cut hi' hk (cut_refl H)
   exact ⟨_,hc2,wk_any (ed _) K' x (by rw [hi'.len];exact Nat.le_refl _) hv,hc1⟩)]
  simp only [List.take_length]
  rfl
 ·have hcc:=fun H=>OD M hU (a:=a.l) (b:=b.l) (ta:=a.tag.strip) (tb:=b.tag.strip) (by omega) h H
  have hll:0<(a.l++b.l).length:=by simp;omega
  have hlm:(a.l++b.l).length≤4000000000:=by simp;omega
  have hso:=hS.some (l:=a.l++b.l) (H:=H++[.dead,.dead,.cells (b5 (a.l++b.l)) aU]) (id:=H.length+2) (T:=aU) hll hlm (Jm _ _)
  rw [Nv] at hso
  have hsl:=hS.len (a.l++b.l)
  generalize hL:srt (a.l++b.l)=L at hso hsl ⊢
  have hcp:=Nt M hU (l:=L) (by omega) (by omega) (H:=H++[.dead,.dead,.cells (b5 L) aU]) (id:=H.length+2) (T:=aU) (rest:=[]) (fun c h=>by cases h) (by rw [Jm,List.append_nil])
  rw [Nv,hsl] at hcp
  have hfz:uY dW .frz H (H++[.dead,.dead,.cells (b5 (xQ L)++(nM ((a.l++b.l).length-(xQ L).length)++[])) aU]) (.rslice (H.length+2) 0 (xQ L).length 2 true)=some (.slice .any 2 ((xQ L).map au.row),H):=by
   rw [F1 (by omega) (Jm _ _) (by simp) (by simp) (by rw [List.length_append,p7];omega) (FD _ _ _ (fun c hc=>by
    rw [List.append_nil,G5] at hc
    exact FD _ _ [] (fun _ h=>by cases h) 0 c (by simpa using hc)) 0),List.drop_zero,Jl]
  simp only [List.append_nil] at hfz
  simp (maxSteps:=3000000) (maxDischargeDepth:=6) +contextual -implicitDefEqProofs only [amA M,amB,↓ae,↓aa,↓aj,↓ah,Nat.reduceBEq,Nat.reduceAdd,env,am,DC,amG,AV.cell,Nat.reduceMul,Nat.reduceLeDiff,xI,hcc,hso,hcp,hfz]
end
end Go.Am
