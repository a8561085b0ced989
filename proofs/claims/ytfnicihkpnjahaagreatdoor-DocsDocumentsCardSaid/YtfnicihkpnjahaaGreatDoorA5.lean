import Derived.Test.YtfnicihkpnjahaaGreatDoorA4
import Derived.Lib.Bytealg
/-
  Part 5 of the tool: an abstract machine over the model, proved sound, and what it says of the functions that the law reaches. Condition: none but those that each theorem names.
-/
set_option linter.unusedVariables false
set_option linter.unusedSimpArgs false
set_option maxRecDepth 100000
set_option maxHeartbeats 4000000
namespace Go.Am
open Go.RowKit
section
attribute [local congr] aw bw aR aA aQ aH aC al ao aI aJ
variable{E:bc}(M:bM b4 E)
structure kH (E:bc):Prop where
 docs_isText:E.fn gF=some gG
 docs_isName:E.fn kY=some gH
 truchmanref01_Text:E.fn iI=some eB
 truchmanref01_Name:E.fn iJ=some eC
 docs_carried_takes:E.fn fx=some fy
 docs_stack_string_pop:E.fn fO=some eG
 docs_stack_string_push:E.fn fB=some fG
 docs_CheckPieces:E.fn bZ=some ec
 truchmanref01_alone:E.fn gN=some gY
 truchmanref01_carried:E.fn fP=some dA
 truchmanref01_CheckPieces:E.fn eS=some cL
 truchmanref01_SamePieces:E.fn bP=some b9
 truchmanlaw01_long:E.fn fv=some cS
def K7(s:Str):Nat×Nat:=if s=[] then (65533,0) else eP s
structure Bm (M:bM b4 E):Prop where
 dec:∀ (s:Str) (H:List AObj),M.run bV [.str s] H=some (.ret (.tuple [.int .i32 ((K7 s).1:Int),.int .i64 ((K7 s).2:Int)]),H)
theorem HD{s:Str}{k:IntKind}{i:Nat}(h:i≤s.length):BN (.str s) (some (.int k (i:Int))) none=some (.str (s.drop i)):=by
 simp [BN,dm,h];exact List.take_of_length_le (by simp)
theorem HE{s:Str}{k k':IntKind}{i j:Nat}(h:i≤j)(hj:j≤s.length):BN (.str s) (some (.int k (i:Int))) (some (.int k' (j:Int)))=some (.str ((s.drop i).take (j-i))):=by
 simp [BN,dm,h,hj]
theorem K8{a b:Nat}(h:a+b≤bN):IntKind.i64.wrap ((a:Int)+(b:Int))=((a+b:Nat):Int):=by
 simp only [bN] at h;rw [eX (by omega) (by omega)];omega
theorem DK{α:Type}(b p:Bool)(x y:α):slc b y (slc p x y)=slc (!b&&p) x y:=by cases b<;>rfl
theorem txl(hX:Bm M){s:Str}(hs:s.length≤bN){H H0:List AObj}(hc:dg H0 H)(k:List Fra):∀ (n i:Nat) (He:List AObj),s.length-i≤n→i≤s.length →
  M.go gG H0 (.c ft :: .lp ⟨(some [0,3]),[],false⟩ ft He :: .blk 0 :: .c (.lv [])::k) (kv [(0,.str s),(3,.int .i64 i)]) H=sel (tO n (s.drop i)) (M.go gG H0 k .leaf H) (some (.ret (.bool false),H.take H0.length))
 |0,i,He,h,hi=>by
  obtain rfl:i=s.length:=by omega
  rw [ak M ft.eq_1];simp (maxSteps:=3000000) (maxDischargeDepth:=6) +contextual -implicitDefEqProofs only [amC M,↓amD,Nat.reduceBEq,Nat.reduceAdd,env,ag,kZ,Nat.lt_irrefl,tO]
 |n+1,i,He,h,hi=>by
  by_cases hlt:i<s.length
  ·have hne:s.drop i≠[]:=fun e=>by have:=congrArg List.length e;simp at this;omega
   have hw:=Bl (s.drop i);have hle:=Jt hne;rw [List.length_drop] at hle;have hd:=fun H=>hX.dec (s.drop i) H
   have hg:K7 (s.drop i)=eP (s.drop i):=if_neg hne;rw [hg] at hd;have ih:=fun He=>txl hX hs hc k n (i+(eP (s.drop i)).2) He (by omega) (by omega)
   rw [← List.drop_drop] at ih;have hws:=K8 (a:=i) (b:=(eP (s.drop i)).2) (by omega);rw [DI hne];simp only [kv_cons,kv_nil] at ih;generalize eP (s.drop i)=d at *
   rw [ak M ft.eq_1];simp (maxSteps:=3000000) (maxDischargeDepth:=6) +contextual -implicitDefEqProofs only [amC M,↓amD,Nat.reduceBEq,Nat.reduceAdd,env,ag,kZ,hlt,HD hi,hd,ih,hws,Jv,hc];exact DK _ _ _ _
  ·obtain rfl:i=s.length:=by omega
   rw [List.drop_length,FO];rw [ak M ft.eq_1];simp (maxSteps:=3000000) (maxDischargeDepth:=6) +contextual -implicitDefEqProofs only [amC M,↓amD,Nat.reduceBEq,Nat.reduceAdd,env,ag,kZ,Nat.lt_irrefl]
theorem DL(hB:kH E)(hX:Bm M){s:Str}(hs:s.length≤bN)(H:List AObj):M.run gF [.str s] H=some (.ret (.bool (sa s)),H):=by
 rw [bJ M hB.docs_isText rfl (c:=nH) rfl,nH];have hl:=fun k He=>txl M hX hs (cut_refl H) k s.length 0 He (by omega) (by omega)
 simp only [kv_cons,kv_nil,Int.ofNat_zero,List.drop_zero] at hl;simp (maxSteps:=3000000) (maxDischargeDepth:=6) +contextual -implicitDefEqProofs only [amC M,↓amD,Nat.reduceBEq,Nat.reduceAdd,env,ag,kZ,hl,sa]
theorem Jz(t:Tag)(l:List Nat):w5 (.slice t 1 ((l.map Int.ofNat).map fun n=>[.int .i32 n]))=some (.str (zy l)):=by
 have h:∀ l:List Nat,uc ((l.map Int.ofNat).map fun n=>[AV.int .i32 n])=some (l.map Int.ofNat):=fun l=>by
  induction l with
  |nil=>rfl
  |cons r l ih=>simp only [List.map_cons,uc] at ih ⊢;rw [ih];rfl
 simp only [w5,h,Option.map_some,vl];rfl
theorem JA{s:Str}(h:s.length≤70368744177664):w4 (.str s)=some (.slice .any 1 ((lV s).map fun r:Nat=>[AV.int .i32 (r:Int)])):=by
 simp only [w4,if_pos h,FN,List.map_map];rfl
def wD(r:Nat):List AV:=[.int .i32 (r:Int)]
theorem JB{s:Str}(h:s.length≤70368744177664):w4 (.str s)=some (.slice .any 1 ((lV s).map wD)):=JA h
theorem JC(t:Tag)(l:List Nat):w5 (.slice t 1 (l.map wD))=some (.str (zy l)):=by
 rw [← Jz t l,List.map_map];rfl
theorem LW:(∀ r:Nat,bW none (wD r) 0=some (.int .i32 (r:Int))):=fun _=>rfl
theorem rtx{H H0:List AObj}{l:List Nat}(hl:l.length≤bN)(hc:dg H0 H)(k:List Fra):∀ (n i:Nat) (He:List AObj),i+n=l.length →
  M.go eB H0 (.c dL :: .lp ⟨(some [3,4]),[],false⟩ dL He :: .blk 0 :: .c (.lv [])::k) (kv [(3,.slice .any 1 (l.map wD)),(4,.int .i64 i)]) H =
   sel ((l.drop i).all fun r => !(decide ((r:Int)<32)||((r:Int) == 127))) (M.go eB H0 k .leaf H) (some (.ret (.bool false),H.take H0.length))
 |0,i,He,h=>by
  have e:i=l.length:=by omega
  subst e;rw [ak M dL.eq_1];simp (maxSteps:=3000000) (maxDischargeDepth:=6) +contextual -implicitDefEqProofs only [amC M,↓amD,Nat.reduceBEq,Nat.reduceAdd,env,ag,iX,Nat.lt_irrefl,List.drop_length,List.all_nil]
 |n+1,i,He,h=>by
  have hi:i<l.length:=by omega
  have hx:l[i]?=some l[i]:=List.getElem?_eq_getElem hi;have hd:(l.drop i)=l[i]::l.drop (i+1):=List.drop_eq_getElem_cons hi;have hm:l[i]∈l:=List.getElem_mem hi;have ih:=fun He=>rtx (H:=H) (H0:=H0) (l:=l) (hl:=hl) hc k n (i+1)  He (by omega)
  simp only [kv_cons,kv_nil] at ih;rw [ak M dL.eq_1];simp (maxSteps:=3000000) (maxDischargeDepth:=6) +contextual -implicitDefEqProofs only [amC M,↓amD,Nat.reduceBEq,Nat.reduceAdd,env,ag,iX,hx,hd,hi,ih,en hi hl,bt hi,LW,List.all_cons,hc];exact DK _ _ _ _
theorem HF(hB:kH E){s:Str}(hs:s.length≤70368744177664)(H:List AObj):M.run iI [.str s] H=some (.ret (.bool (sa s)),H):=by
 rw [← FQ];have hn:(lV s).length≤bN:=by have:=DJ s;simp only [bN];omega
 rw [bJ M hB.truchmanref01_Text rfl (c:=iW) rfl,iW];have hl:=fun k He=>rtx M (l:=lV s) hn (cut_refl H) k (lV s).length 0 He (by omega)
 simp only [kv_cons,kv_nil,Int.ofNat_zero,List.drop_zero] at hl;simp (maxSteps:=3000000) (maxDischargeDepth:=6) +contextual -implicitDefEqProofs only [amC M,↓amD,Nat.reduceBEq,Nat.reduceAdd,env,ag,iX,hl,JB hs,JC,okR]
def inN(c:UInt8):Bool:=decide (97≤(c.toNat:Int))&&decide ((c.toNat:Int)≤122)||decide (48≤(c.toNat:Int))&&decide ((c.toNat:Int)≤57)||((c.toNat:Int) == 45)
def tP(s:Str):Bool:=match s with
 |[]=>false
 |c::t=>decide (((c::t).length:Int)≤16)&&decide (97≤(c.toNat:Int))&&decide ((c.toNat:Int)≤122)&&(c::t).all inN
theorem dlt(a b:Int):decide (a<b) = !decide (b≤a):=by rw [Bool.eq_iff_iff];simp
theorem nml{H H0:List AObj}{s:Str}(hs:s.length≤bN)(hc:dg H0 H)(k:List Fra):∀ (n i:Nat) (He:List AObj),i+n=s.length →
  M.go gH H0 (.c gq :: .lp ⟨(some [0,23,24]),[],false⟩ gq He :: .blk 0 :: .c (.lv [])::k) (kv [(0,.str s),(23,.int .i64 s.length),(24,.int .i64 i)]) H =
   sel ((s.drop i).all inN) (M.go gH H0 k .leaf H) (some (.ret (.bool false),H.take H0.length))
 |0,i,He,h=>by
  have e:i=s.length:=by omega
  subst e;rw [ak M gq.eq_1];simp (maxSteps:=3000000) (maxDischargeDepth:=6) +contextual -implicitDefEqProofs only [amC M,↓amD,Nat.reduceBEq,Nat.reduceAdd,env,ag,k6,Nat.lt_irrefl,List.drop_length,List.all_nil]
 |n+1,i,He,h=>by
  have hi:i<s.length:=by omega
  have hx:s[i]?=some s[i]:=List.getElem?_eq_getElem hi;have hd:(s.drop i)=s[i]::s.drop (i+1):=List.drop_eq_getElem_cons hi;have hm:s[i]∈s:=List.getElem_mem hi;have ih:=fun He=>nml (H:=H) (H0:=H0) (s:=s) (hs:=hs) hc k n (i+1)  He (by omega)
  simp only [kv_cons,kv_nil] at ih;rw [ak M gq.eq_1];simp (maxSteps:=3000000) (maxDischargeDepth:=6) +contextual -implicitDefEqProofs only [amC M,↓amD,Nat.reduceBEq,Nat.reduceAdd,env,ag,k6,hx,hd,hi,ih,en hi hs,List.all_cons,hc,inN]
theorem rnl{H H0:List AObj}{s:Str}(hs:s.length≤bN)(hc:dg H0 H)(k:List Fra):∀ (n i:Nat) (He:List AObj),i+n=s.length →
  M.go eC H0 (.c dM :: .lp ⟨(some [0,3]),[],false⟩ dM He :: .blk 0 :: .c (.lv [])::k) (kv [(0,.str s),(3,.int .i64 i)]) H =
   sel ((s.drop i).all inN) (M.go eC H0 k .leaf H) (some (.ret (.bool false),H.take H0.length))
 |0,i,He,h=>by
  have e:i=s.length:=by omega
  subst e;rw [ak M dM.eq_1];simp (maxSteps:=3000000) (maxDischargeDepth:=6) +contextual -implicitDefEqProofs only [amC M,↓amD,Nat.reduceBEq,Nat.reduceAdd,env,ag,fA,Nat.lt_irrefl,List.drop_length,List.all_nil]
 |n+1,i,He,h=>by
  have hi:i<s.length:=by omega
  have hx:s[i]?=some s[i]:=List.getElem?_eq_getElem hi;have hd:(s.drop i)=s[i]::s.drop (i+1):=List.drop_eq_getElem_cons hi;have hm:s[i]∈s:=List.getElem_mem hi;have ih:=fun He=>rnl (H:=H) (H0:=H0) (s:=s) (hs:=hs) hc k n (i+1)  He (by omega)
  simp only [kv_cons,kv_nil] at ih;rw [ak M dM.eq_1];simp (maxSteps:=3000000) (maxDischargeDepth:=6) +contextual -implicitDefEqProofs only [amC M,↓amD,Nat.reduceBEq,Nat.reduceAdd,env,ag,fA,hx,hd,hi,ih,en hi hs,List.all_cons,hc,inN,dlt];rw [DK];congr 1;simp only [Bool.not_and,Bool.not_or,Bool.not_not]
theorem DM(hB:kH E){s:Str}(hs:s.length≤bN)(H:List AObj):M.run kY [.str s] H=some (.ret (.bool (tP s)),H):=by
 rw [bJ M hB.docs_isName rfl (c:=nI) rfl,nI];have hl:=fun k He=>nml M (s:=s) hs (cut_refl H) k s.length 0 He (by omega)
 simp only [kv_cons,kv_nil,Int.ofNat_zero,List.drop_zero] at hl;cases s with
 |nil=>simp (maxSteps:=3000000) (maxDischargeDepth:=6) +contextual -implicitDefEqProofs only [amC M,↓amD,Nat.reduceBEq,Nat.reduceAdd,env,ag,k6,hl,tP,(show (([]:Str) == [])=true from rfl)]
 |cons c t=>
  simp (maxSteps:=3000000) (maxDischargeDepth:=6) +contextual -implicitDefEqProofs only [amC M,↓amD,Nat.reduceBEq,Nat.reduceAdd,env,ag,k6,hl,tP,dlt,List.getElem?_cons_zero,(show ((c::t) == ([]:Str))=false from rfl)];simp only [Bool.not_or,Bool.not_not]
theorem HG(hB:kH E){s:Str}(hs:s.length≤bN)(H:List AObj):M.run iJ [.str s] H=some (.ret (.bool (tP s)),H):=by
 rw [bJ M hB.truchmanref01_Name rfl (c:=iY) rfl,iY];have hl:=fun k He=>rnl M (s:=s) hs (cut_refl H) k s.length 0 He (by omega)
 simp only [kv_cons,kv_nil,Int.ofNat_zero,List.drop_zero] at hl;cases s with
 |nil=>simp (maxSteps:=3000000) (maxDischargeDepth:=6) +contextual -implicitDefEqProofs only [amC M,↓amD,Nat.reduceBEq,Nat.reduceAdd,env,ag,fA,hl,tP,List.length_nil,(show ((((0:Nat):Int)) == 0)=true from rfl)]
 |cons c t=>
  have h0:(((c::t).length:Int) == 0)=false:=by simp;omega
  simp (maxSteps:=3000000) (maxDischargeDepth:=6) +contextual -implicitDefEqProofs only [amC M,↓amD,Nat.reduceBEq,Nat.reduceAdd,env,ag,fA,hl,tP,dlt,List.getElem?_cons_zero,h0];simp only [Bool.not_or,Bool.not_not]
end
section
attribute [local congr] aw bw aR aA aQ aH aC al ao aI aJ
variable{E:bc}(M:bM b4 E)
def Pre(H0 G:List AObj):Prop:=H0.length≤G.length∧∀ i,i<H0.length→G[i]?=H0[i]?
theorem Pre.refl(H:List AObj):Pre H H:=⟨Nat.le_refl _,fun _ _=>rfl⟩
theorem Pre.cut{H0 G:List AObj}(h:Pre H0 G):dg H0 G:=⟨h.1,fun i x hi hx=>.inl (by rw [← h.2 i hi];exact hx)⟩
theorem Pre.take{H0 G:List AObj}(h:Pre H0 G):G.take H0.length=H0:=by
 refine List.ext_getElem? fun i => ?_
 rw [List.getElem?_take];split
 ·rename_i hi;exact h.2 i hi
 ·rename_i hi;rw [List.getElem?_eq_none (by omega)]
theorem Pre.trans{A B C:List AObj}(h:Pre A B)(h':Pre B C):Pre A C:=⟨Nat.le_trans h.1 h'.1,fun i hi=>by rw [h'.2 i (Nat.lt_of_lt_of_le hi h.1),h.2 i hi]⟩
theorem Pre.app{H0 G:List AObj}(h:Pre H0 G)(L:List AObj):Pre H0 (G++L):=⟨by have:=h.1;simp;omega,fun i hi=>by
 have:=h.1;rw [List.getElem?_append_left (by omega)];exact h.2 i hi⟩
theorem Pre.set{H0 G:List AObj}(h:Pre H0 G){id:Nat}(hid:H0.length≤id)(o:AObj):Pre H0 (G.set id o):=⟨by simpa using h.1,fun i hi=>by
 rw [List.getElem?_set_ne (by omega)];exact h.2 i hi⟩
def But(b p:Nat)(G G':List AObj):Prop:=G.length≤G'.length∧∀ i,i<b→i≠p→G'[i]?=G[i]?
theorem But.refl(b p:Nat)(G:List AObj):But b p G G:=⟨Nat.le_refl _,fun _ _ _=>rfl⟩
theorem But.pre{H0 G G':List AObj}{b p:Nat}(h:But b p G G')(hp:Pre H0 G)(hb:H0.length≤b)(hq:H0.length≤p):Pre H0 G':=
 ⟨Nat.le_trans hp.1 h.1,fun i hi=>by rw [h.2 i (by omega) (by omega)];exact hp.2 i hi⟩
theorem gm{G:List AObj}{i:Nat}{x:AObj}(h:G[i]?=some x):i<G.length:=(List.getElem?_eq_some_iff.1 h).1
theorem EJ{G:List AObj}{i:Nat}(h:i<G.length)(o:AObj)(L:List AObj):(G++L).set i o=G.set i o++L:=by rw [List.set_append_left _ _ h]
theorem HH{G:List AObj}{i:Nat}(h:i<G.length)(o:AObj):(G.set i o)[i]?=some o:=List.getElem?_set_self h
theorem HI{G:List AObj}{i:Nat}(h:i<G.length)(o:AObj)(L:List AObj):(G.set i o++L)[i]?=some o:=by
 rw [List.getElem?_append_left (by simpa using h)];exact HH h o
theorem CE{G:List AObj}{i:Nat}{o:AObj}(hw:B2 G.length o):dg G (G.set i o):=by
 refine ⟨by simp,fun j x hj hx => ?_⟩;rw [List.getElem?_set] at hx;split at hx
 ·split at hx
  ·cases hx;exact .inr hw
  ·cases hx
 ·exact .inl hx
theorem HJ{G:List AObj}{i:Nat}{o:AObj}(ho:B2 G.length o)(L:List AObj):dg G (G.set i o++L):=tx (CE ho) L
theorem FR{G:List AObj}{i:Nat}(o:AObj)(L:List AObj):(G.set i o++L).take G.length=G.set i o:=by
 rw [List.take_append_of_le_length (by simp)];exact List.take_of_length_le (by simp)
theorem FS(n:Nat)(b e:Bool)(T:TypeId):B2 n (.cells [.bool b,.bool e] T):=by
 intro c hc;simp at hc;rcases hc with rfl | rfl<;>exact wk_bool _ _
def dt(x:aa):Bool:=(x.kind == 2)&&x.car
def cA(x:aa):Bool:=(x.kind == 3)&&x.car
def mY(b e:Bool)(x:aa):Bool := !(dt x&&b||e && !cA x)
theorem FT(hB:kH E){G:List AObj}{c:Nat}{b e:Bool}{T:TypeId}(hc:G[c]?=some (.cells [.bool b,.bool e] T))(x:aa) :
  M.run fx [.ptr c 0,.agg x.row] G=some (.ret (.bool (mY b e x)),if mY b e x=true then G.set c (.cells [.bool (b || !dt x),.bool (e||cA x)] T) else G):=by
 rw [bJ M hB.docs_carried_takes rfl (c:=iV) rfl,iV];have hl:=gm hc;have g1:=fun L=>iw (L:=L) hc
 have g2:=HI hl;have s1:=EJ hl;have s2:∀ (o o':AObj) (L:List AObj),(G.set c o++L).set c o'=G.set c o'++L:=fun o o' L=>by rw [EJ (by simpa using hl),List.set_set]
 have l0:∀ b e:Bool,bW none [.bool b,.bool e] 0=some (.bool b):=fun _ _=>rfl
 have l1:∀ b e:Bool,bW none [.bool b,.bool e] 1=some (.bool e):=fun _ _=>rfl
 have e1:∀ b e b':Bool,bC [.bool b,.bool e] 0 [.bool b']=[.bool b',.bool e]:=fun _ _ _=>rfl
 have e2:∀ b e b':Bool,bC [.bool b,.bool e] 1 [.bool b']=[.bool b,.bool b']:=fun _ _ _=>rfl
 have hq:((x.kind == 2)&&x.car)=dt x:=rfl;have hq2:((x.kind == 3)&&x.car)=cA x:=rfl;have ck:∀ b e L,dg G (G.set c (.cells [.bool b,.bool e] T)++L):=fun b e L=>HJ (FS _ _ _ _) L
 have tk:=fun o L=>FR (G:=G) (i:=c) o L
 cases hcase:(dt x&&b||e && !cA x) with
 |true=>
  rw [mY,hcase];simp (maxSteps:=3000000) (maxDischargeDepth:=6) +contextual -implicitDefEqProofs only [amC M,↓amD,Nat.reduceBEq,Nat.reduceAdd,env,ag,lu,amG,AV.cell,Nat.reduceMul,Nat.reduceLeDiff,bu,aP,rnc,g1,g2,s1,s2,l0,l1,e1,e2,hq,hq2,hcase,ck,tk,cut_app,hp_take]
 |false=>
  rw [mY,hcase];simp (maxSteps:=3000000) (maxDischargeDepth:=6) +contextual -implicitDefEqProofs only [amC M,↓amD,Nat.reduceBEq,Nat.reduceAdd,env,ag,lu,amG,AV.cell,Nat.reduceMul,Nat.reduceLeDiff,bu,aP,rnc,g1,g2,s1,s2,l0,l1,e1,e2,hq,hq2,hcase,ck,tk,cut_app,hp_take]
end
section
attribute [local congr] aw bw aR aA aQ aH aC al ao aI aJ
variable{E:bc}(M:bM b4 E)
structure wj (M:bM b4 E):Prop where
 index:∀ (s:Str) (c:UInt8) (H:List AObj),M.run bQ [.str s,.int .u8 c.toNat] H=some (.ret (.int .i64 (Lib.indexByte s c)),H)
 same:∀ (i o:Nat) (H:List AObj),M.run dw [.ptr i o] H=some (.ret (.ptr i o),H)
structure sL (E:bc):Prop where
 strings_Builder_WriteString:E.fn bU=some ez
 strings_Builder_WriteByte:E.fn bf=some dC
 strings_Builder_String:E.fn ed=some eh
 strings_Builder_Len:E.fn gM=some gW
 strings_Builder_copyCheck:E.fn cJ=some dD
abbrev dO(s:Str):List (List AV):=s.map fun b=>[.int .u8 (b.toNat:Int)]
abbrev bTok(w:Str):AObj:=.tok w.length dk
abbrev da(a:AV)(n:Nat)(w:Str)(T:TypeId):AObj:=.cells [a,.slice (.own n) 1 (dO w)] T
theorem DN(s:Str):lE 1 (dO s)=true:=by simp [lE,dO,AV.cell]
theorem tQ:∀ s:Str,jF (dO s)=some s
 |[]=>rfl
 |c::s=>by
  have:=tQ s;simp only [dO] at this ⊢;simp only [List.map_cons,jF,this,Option.map_some];congr 2;simp
theorem CF:∀ s:Str,ry (dO s)=true
 |[]=>rfl
 |c::s=>by
  have:=CF s;simp only [dO] at this ⊢;simp only [List.map_cons,ry,this,Bool.and_true,Bool.and_eq_true,decide_eq_true_eq];have:=c.toNat_lt;omega
theorem Ac(w s:Str):dO (w++s)=dO w++(dO s).map (·.map AV.strip):=by
 simp only [dO,List.map_append,List.map_map];congr 1
theorem HK(H L:List AObj){w s:Str}(h:w.length+s.length≤140737488355328)(x:AV)(hx:∀ H,nZ H 1 true x=some (dO s)) :
  rap false (H++(bTok w::L)) dk 1 1 true (.slice (.own H.length) 1 (dO w)) x=some (.slice (.own H.length) 1 (dO (w++s)),H++(bTok (w++s)::L)):=by
 have h1:(dO w).length=w.length:=by simp [dO]
 have h2:(dO s).length=s.length:=by simp [dO]
 have hc:(w.length+s.length)*1≤140737488355328∧w.length+s.length≤4611686018427387904∧lE 1 (dO s)=true:=⟨by omega,by omega,DN s⟩
 rw [Ac];cases s with
 |nil=>simp [rap,uh,hx,h1,dO,lE];simp at h;omega
 |cons c s=>
  simp only [rap,uh,hx,h1,h2,or_true,true_and,hc,if_true,and_self];simp only [dO,List.map_cons,aP,List.getElem?_cons_zero,hp_set0,List.set_cons_zero,Nat.mul_one,List.length_cons,List.length_map,and_self,if_true,List.length_append,bTok]
theorem JD(s:Str)(H:List AObj):nZ H 1 true (.str s)=some (dO s):=by simp [nZ]
theorem HL(H L:List AObj){w s:Str}(h:w.length+s.length≤140737488355328) :
  rap false (H++(bTok w::L)) dk 1 1 true (.slice (.own H.length) 1 (dO w)) (.str s)=some (.slice (.own H.length) 1 (dO (w++s)),H++(bTok (w++s)::L)):=HK H L h _ (JD s)
theorem EL(H L:List AObj){w:Str}{c:UInt8}(h:w.length+1≤140737488355328) :
  rap false (H++(bTok w::L)) dk 1 1 false (.slice (.own H.length) 1 (dO w)) (.slice .full 1 [[.int .u8 (c.toNat:Int)]])=some (.slice (.own H.length) 1 (dO (w++[c])),H++(bTok (w++[c])::L)):=by
 have h1:(dO w).length=w.length:=by simp [dO]
 have hc:(w.length+1)*1≤140737488355328∧w.length+1≤4611686018427387904:=⟨by omega,by omega⟩
 simp only [rap,uh,nZ,h1,or_true,if_true,List.length_cons,List.length_nil,Nat.zero_add,true_and,hc,and_self];simp [lE,AV.cell,aP,hp_set0,Ac,dO,AV.strip,h1,List.map_append]
theorem LX(H L:List AObj)(w:Str)(hw:w.length≤9223372036854775807):C9 (H++(bTok w::L)) dk (.sdp H.length (dO w)) (.int .i64 (w.length:Int))=some (.str w):=by
 cases w with
 |nil=>simp [dO,C9]
 |cons c w=>
  have h1:=tQ (c::w);have h2:=CF (c::w);simp only [dO,List.map_cons] at h1 h2 ⊢;simp only [C9,aP,List.getElem?_cons_zero,h1,h2];rw [if_pos];exact ⟨trivial,trivial,Nat.le_refl _,hw,trivial⟩
theorem LY(n:Nat)(w:Str):Gs (.slice (.own n) 1 (dO w))=some (.sdp n (dO w)):=by cases w<;>rfl
theorem pn{H L:List AObj}{n n':Nat}{T T' T1 T2:TypeId}{cs cs':List AV}(h:WkL (H.length+(L.length+1+1)) cs' cs'):dg (H++(.tok n T :: .cells cs T1::L)) (H++(.tok n' T' :: .cells cs' T2::L)):=
 ⟨by simp,fun i x hi hx=>by
  rcases Nat.lt_trichotomy i H.length with hl | hl | hl
  ·left;rw [List.getElem?_append_left hl] at hx ⊢;exact hx
  ·subst hl;rw [aP] at hx;right
   obtain rfl:_=x:=by simpa using hx
   trivial
  ·obtain ⟨j,rfl⟩:∃ j,i=H.length+(j+1):=⟨i-H.length-1,by omega⟩
   rw [hp_getk] at hx ⊢;cases j with
   |zero=>
    right;obtain rfl:_=x:=by simpa using hx
    intro c hc;obtain ⟨k,hk⟩:=List.getElem?_of_mem hc;obtain ⟨y,h1,h2⟩:=h.get k c hk;rw [hk] at h1;cases h1;simpa [Nat.add_assoc] using h2
   |succ j=>left;simpa using hx⟩
theorem lD(H L:List AObj)(x y:AObj):(H++(x::y::L)).take (H.length+(L.length+1+1))=H++(x::y::L):=List.take_of_length_le (by simp)
theorem HM(n:Nat)(w:Str):gJ n (dO w):=by
 rw [rowsWk_map];exact fun _ _=>⟨wk_int _ _ _,trivial⟩
theorem DO(H L:List AObj)(w:Str):WkL (H.length+(L.length+1+1)) [.ptr (H.length+1) 0,.slice (.own H.length) 1 (dO w)] [.ptr (H.length+1) 0,.slice (.own H.length) 1 (dO w)]:=
 ⟨wk_ptr (by omega),wk_slice (show H.length<_ by omega) (HM _ _),trivial⟩
theorem qU:(∀ (a:Env) (H:List AObj) (x:RX),rop a H (.usl x)=bB H (Gs (rx a x)))∧(∀ (a:Env) (H:List AObj) (e:TypeId) (x n:RX),rop a H (.ust e x n)=bB H (C9 H e (rx a x) (rx a n)))∧(∀ (a:Env) (H:List AObj) (x:RX),rop a H (.cvu x)=bB H (Gt H (rx a x)))∧(∀ (a:Env) (H:List AObj) (u:TypeId) (sz:Nat) (x:RX),rop a H (.cvf u sz x)=bB H (Gu H u sz (rx a x))) ∧
 (∀ (a:Env) (H:List AObj) (cs:List AV) (e:TypeId) (j:Nat) (T:TypeId),rop a H (.nwb cs e j T)=some (.ptr (H.length+1) 0,H++[.tok 0 T,.cells (cs.set j (.slice (.own H.length) 1 [])) e])):=
 ⟨fun _ _ _=>rfl,fun _ _ _ _ _=>rfl,fun _ _ _=>rfl,fun _ _ _ _ _=>rfl,fun _ _ _ _ _ _=>rfl⟩
theorem HN:req .ptr .nilp .nilp=some true:=rfl
theorem DP(i o:Nat):req .ptr (.ptr i o) .nilp=some false:=rfl
theorem HO(i o:Nat):req .ptr (.ptr i o) (.ptr i o)=some true:=by simp [req]
theorem LZ(H L:List AObj)(x:AObj)(a b:AV)(T:TypeId):Gt (H++(x :: .cells [a,b] T::L)) (.ptr (H.length+1) 0)=some (.ptr (H.length+1) 0):=by
 simp [Gt,hp_getk]
theorem L0(H L:List AObj)(x:AObj)(a b:AV)(T:TypeId):Gu (H++(x :: .cells [a,b] T::L)) T 2 (.ptr (H.length+1) 0)=some (.ptr (H.length+1) 0):=by
 simp [Gu,hp_getk]
theorem q8(hB:sL E)(hX:wj M)(H L:List AObj)(w:Str) :
  M.run cJ [.ptr (H.length+1) 0] (H++(bTok w::da .nilp H.length w aq::L))=some (.ret (.tuple []),H++(bTok w::da (.ptr (H.length+1) 0) H.length w aq::L)):=by
 rw [bJ M hB.strings_Builder_copyCheck rfl (c:=cN) rfl,cN];have h1:=hX.same (H.length+1) 0;have hw:=DO H L w;simp (maxSteps:=3000000) (maxDischargeDepth:=6) +contextual -implicitDefEqProofs only [amC M,↓amD,Nat.reduceBEq,Nat.reduceAdd,env,ag,iz,amG,AV.cell,Nat.reduceMul,Nat.reduceLeDiff,h1,qU,HN,rnc,LZ,L0,pn hw,lD,wk_tuple]
theorem q9(hB:sL E)(H L:List AObj)(w:Str)(T:TypeId) :
  M.run cJ [.ptr (H.length+1) 0] (H++(bTok w::da (.ptr (H.length+1) 0) H.length w T::L))=some (.ret (.tuple []),H++(bTok w::da (.ptr (H.length+1) 0) H.length w T::L)):=by
 rw [bJ M hB.strings_Builder_copyCheck rfl (c:=cN) rfl,cN];simp (maxSteps:=3000000) (maxDischargeDepth:=6) +contextual -implicitDefEqProofs only [amC M,↓amD,Nat.reduceBEq,Nat.reduceAdd,env,ag,iz,DP,HO,rnc,lD,wk_tuple]
theorem uN(hB:sL E)(hX:wj M)(H L:List AObj){w s:Str}{T:TypeId}(h:w.length+s.length≤140737488355328) :
  M.run bU [.ptr (H.length+1) 0,.str s] (H++(bTok w::da .nilp H.length w aq::L))=some (.ret (.tuple [.int .i64 s.length,.nilif]),H++(bTok (w++s)::da (.ptr (H.length+1) 0) H.length (w++s) aq::L)):=by
 rw [bJ M hB.strings_Builder_WriteString rfl (c:=cj) rfl,cj];have hw:=DO H L (w++s);simp (maxSteps:=3000000) (maxDischargeDepth:=6) +contextual -implicitDefEqProofs only [amC M,↓amD,Nat.reduceBEq,Nat.reduceAdd,env,ag,gi,amG,AV.cell,Nat.reduceMul,Nat.reduceLeDiff,(q8 M hB hX),rnc,HL _ _ h,pn hw,lD,wk_tuple]
theorem uO(hB:sL E)(hX:wj M)(H L:List AObj){w s:Str}{T:TypeId}(h:w.length+s.length≤140737488355328) :
  M.run bU [.ptr (H.length+1) 0,.str s] (H++(bTok w::da (.ptr (H.length+1) 0) H.length w T::L))=some (.ret (.tuple [.int .i64 s.length,.nilif]),H++(bTok (w++s)::da (.ptr (H.length+1) 0) H.length (w++s) T::L)):=by
 rw [bJ M hB.strings_Builder_WriteString rfl (c:=cj) rfl,cj];have hw:=DO H L (w++s);simp (maxSteps:=3000000) (maxDischargeDepth:=6) +contextual -implicitDefEqProofs only [amC M,↓amD,Nat.reduceBEq,Nat.reduceAdd,env,ag,gi,amG,AV.cell,Nat.reduceMul,Nat.reduceLeDiff,(q9 M hB),rnc,HL _ _ h,pn hw,lD,wk_tuple]
theorem yr(hB:sL E)(hX:wj M)(H L:List AObj){w:Str}{c:UInt8}{T:TypeId}(h:w.length+1≤140737488355328) :
  M.run bf [.ptr (H.length+1) 0,.int .u8 c.toNat] (H++(bTok w::da .nilp H.length w aq::L))=some (.ret .nilif,H++(bTok (w++[c])::da (.ptr (H.length+1) 0) H.length (w++[c]) aq::L)):=by
 rw [bJ M hB.strings_Builder_WriteByte rfl (c:=cM) rfl,cM];have hw:=DO H L (w++[c]);simp (maxSteps:=3000000) (maxDischargeDepth:=6) +contextual -implicitDefEqProofs only [amC M,↓amD,Nat.reduceBEq,Nat.reduceAdd,env,ag,iy,amG,AV.cell,Nat.reduceMul,Nat.reduceLeDiff,(q8 M hB hX),rnc,EL _ _ h,pn hw,lD,wk_tuple]
theorem yt(hB:sL E)(hX:wj M)(H L:List AObj){w:Str}{c:UInt8}{T:TypeId}(h:w.length+1≤140737488355328) :
  M.run bf [.ptr (H.length+1) 0,.int .u8 c.toNat] (H++(bTok w::da (.ptr (H.length+1) 0) H.length w T::L))=some (.ret .nilif,H++(bTok (w++[c])::da (.ptr (H.length+1) 0) H.length (w++[c]) T::L)):=by
 rw [bJ M hB.strings_Builder_WriteByte rfl (c:=cM) rfl,cM];have hw:=DO H L (w++[c]);simp (maxSteps:=3000000) (maxDischargeDepth:=6) +contextual -implicitDefEqProofs only [amC M,↓amD,Nat.reduceBEq,Nat.reduceAdd,env,ag,iy,amG,AV.cell,Nat.reduceMul,Nat.reduceLeDiff,(q9 M hB),rnc,EL _ _ h,pn hw,lD,wk_tuple]
theorem CG(hB:sL E)(H L:List AObj){w:Str}{a:AV}{T:TypeId}(hw:w.length≤9223372036854775807) :
  M.run ed [.ptr (H.length+1) 0] (H++(bTok w::da a H.length w T::L))=some (.ret (.str w),H++(bTok w::da a H.length w T::L)):=by
 rw [bJ M hB.strings_Builder_String rfl (c:=fE) rfl,fE];simp (maxSteps:=3000000) (maxDischargeDepth:=6) +contextual -implicitDefEqProofs only [amC M,↓amD,Nat.reduceBEq,Nat.reduceAdd,env,ag,nG,qU,rnc,LY,LX H _ w hw,lD]
theorem HP(hB:sL E)(H L:List AObj){w:Str}{a:AV}{T:TypeId} :
  M.run gM [.ptr (H.length+1) 0] (H++(bTok w::da a H.length w T::L))=some (.ret (.int .i64 w.length),H++(bTok w::da a H.length w T::L)):=by
 rw [bJ M hB.strings_Builder_Len rfl (c:=gV) rfl,gV];simp (maxSteps:=3000000) (maxDischargeDepth:=6) +contextual -implicitDefEqProofs only [amC M,↓amD,Nat.reduceBEq,Nat.reduceAdd,env,ag,pH,rnc,lD]
end
section
attribute [local congr] aw bw aR aA aQ aH aC al ao aI aJ
variable{E:bc}(M:bM b4 E)
structure uP (E:bc):Prop where
 internal_stringslite_IndexByte:E.fn cK=some dN
 strings_Index:E.fn lF=some lK
 internal_stringslite_Index:E.fn gp=some eJ
 docs_written:E.fn eY=some mR
 truchmanref01_written:E.fn fR=some dB
end
section
attribute [local congr] aw bw aR aA aQ aH aC al ao aI aJ
variable{E:bc}(M:bM b4 E)
end
section
attribute [local congr] aw bw aR aA aQ aH aC al ao aI aJ
variable{E:bc}(M:bM b4 E)
def rT(l:List Str):List AV:=l.map .str
def re(b:Nat)(G:List AObj)(v:AV)(st:List Str):Prop:=
 (st=[]∧v = .slice .nil 1 [])∨∃ (id:Nat) (junk:List AV),b≤id∧v = .rslice id 0 st.length 1 true∧G[id]?=some (.cells (rT st.reverse++junk) aO)
theorem oq(l:List Str):(rT l).length=l.length:=by simp [rT]
theorem yu(l m:List Str):rT (l++m)=rT l++rT m:=by simp [rT]
theorem kU(s:Str):lE 1 [[.str s]]=true:=rfl
theorem HQ{b:Nat}{G:List AObj}{v:AV}{st:List Str}(h:re b G v st)(hb:b≤G.length)(hl:st.length≤1000000)(s:Str) :
  ∃ v' G',rap true G aO 1 16 false v (.slice .full 1 [[.str s]])=some (v',G')∧re b G' v' (s::st)∧G.length≤G'.length∧∀ i,i<b→G'[i]?=G[i]? := by
 rcases h with ⟨rfl,rfl⟩ | ⟨id,junk,hid,rfl,hg⟩
 ·refine ⟨.rslice G.length 0 1 1 true,G++[.cells [.str s] aO], ?_,.inr ⟨G.length,[],hb,rfl,by rw [aP];rfl⟩,by simp,fun i hi=>List.getElem?_append_left (by omega)⟩
  simp only [rap,mH,nZ,or_true,if_true,kU];rw [if_pos (by simp)];rfl
 ·have hlt:=gm hg
  have hlen:st.length*1≤(rT st.reverse++junk).length:=by rw [List.length_append,oq,List.length_reverse];omega
  refine ⟨.rslice G.length 0 (st.length+1) 1 true,G.set id .dead++[.cells (rT (s::st).reverse) aO], ?_,.inr ⟨G.length,[],hb,rfl, ?_⟩,by simp,fun i hi => ?_⟩
  ·simp only [rap,mH,nZ,or_true,if_true,kU,hg]
   rw [if_pos ⟨trivial,trivial,hlen,by simp;omega,by simp;omega⟩];simp only [Nat.mul_one];rw [List.take_left' (by rw [oq,List.length_reverse]),List.reverse_cons,yu];rfl
  ·rw [List.append_nil,show G.length=(G.set id .dead).length by simp,aP];rfl
  ·rw [List.getElem?_append_left (by simp;omega),List.getElem?_set_ne (by omega)]
theorem rC{b:Nat}{G:List AObj}{v:AV}{st:List Str}(h:re b G v st)(H:List AObj):oI H .sl v=some (.int .i64 (st.length:Int)):=by
 rcases h with ⟨rfl,rfl⟩ | ⟨id,junk,hid,rfl,hg⟩<;>rfl
theorem EM{b:Nat}{G:List AObj}{v:AV}{x:Str}{st:List Str}(h:re b G v (x::st)) :
  (∃ p o cs,pC 1 v (.int .i64 (st.length:Int))=some (.ptr p o)∧b≤p∧G[p]?=some (.cells cs aO)∧bW none cs o=some (.str x))∧∃ v',C8 1 v none (some (.int .i64 (st.length:Int))) none=some v'∧re b G v' st:=by
 rcases h with ⟨h,_⟩ | ⟨id,junk,hid,rfl,hg⟩
 ·cases h
 have e:rT (x::st).reverse++junk=rT st.reverse++(.str x::junk):=by rw [List.reverse_cons,yu,List.append_assoc];rfl
 have hl:(rT st.reverse).length=st.length:=by rw [oq,List.length_reverse]
 refine ⟨⟨id,0+st.length*1,_, ?_,hid,hg, ?_⟩,.rslice id 0 st.length 1 true, ?_,.inr ⟨id,.str x::junk,hid,rfl,by rw [hg,e]⟩⟩
 ·simp only [pC]
  rw [if_pos ⟨trivial,by omega,by simp;omega⟩];simp
 ·simp only [bW,e,Nat.zero_add,Nat.mul_one]
  rw [List.getElem?_append_right (by omega),hl,Nat.sub_self];rfl
 ·have h1:dm (some (.int .i64 (st.length:Int))) (x::st).length=some st.length:=by simp [dm]
  simp only [C8,h1,(show dm none 0=some 0 from rfl)];cases st with
  |nil=>rfl
  |cons y t=>rw [if_pos (by simp)];simp
theorem re.stay{b:Nat}{G G':List AObj}{v:AV}{st:List Str}(h:re b G v st)(hs:∀ i,b≤i→i<G.length→G'[i]?=G[i]?):re b G' v st:=by
 rcases h with ⟨rfl,rfl⟩ | ⟨id,junk,hid,rfl,hg⟩
 ·exact .inl ⟨rfl,rfl⟩
 ·exact .inr ⟨id,junk,hid,rfl,by rw [hs id hid (gm hg)];exact hg⟩
theorem HR(hB:kH E){b p:Nat}{G:List AObj}{v:AV}{T:TypeId}{st:List Str}(hp:G[p]?=some (.cells [v] T))(hpb:p<b)(hb:b≤G.length)(h:re b G v st)(hl:st.length≤1000000)(s:Str) :
  ∃ v' G',M.run fB [.ptr p 0,.str s] G=some (.ret (.tuple []),G')∧G'[p]?=some (.cells [v'] T)∧re b G' v' (s::st)∧But b p G G':=by
 obtain ⟨v',G1,h1,h2,h3,h4⟩:=HQ h hb hl s;have hp1:G1[p]?=some (.cells [v] T):=by rw [h4 p hpb];exact hp
 have hlt:=gm hp1;refine ⟨v',G1.set p (.cells [v'] T), ?_,List.getElem?_set_self hlt,h2.stay fun i hi _=>by rw [List.getElem?_set_ne (by omega)],by simpa using h3,fun i hi hne=>by rw [List.getElem?_set_ne (by omega)];exact h4 i hi⟩;rw [bJ M hB.docs_stack_string_push rfl (c:=fF) rfl,fF]
 have hcell:v'.cell=true:=by
  rcases h2 with ⟨h,_⟩ | ⟨id,_,_,rfl,_⟩
  ·cases h
  ·rfl
 have hac:cG v'=some [v']:=by
  rcases h2 with ⟨h,_⟩ | ⟨id,_,_,rfl,_⟩
  ·cases h
  ·rfl
 have l0:∀ x:AV,bW none [x] 0=some x:=fun _=>rfl
 have s0:∀ x y:AV,bC [x] 0 [y]=[y]:=fun _ _=>rfl
 have hst:stO 1 G1 p 0 [v'] (some (.cells [v] T))=some (G1.set p (.cells [v'] T)):=by
  simp only [stO];rw [if_pos ⟨rfl,by simp,by simp [hcell]⟩];rfl
 simp (maxSteps:=3000000) (maxDischargeDepth:=6) +contextual -implicitDefEqProofs only [amC M,↓amD,Nat.reduceBEq,Nat.reduceAdd,env,ag,nJ,amG,AV.cell,Nat.reduceMul,Nat.reduceLeDiff,rnc,hp,l0,s0,h1,hp1,hac,hst,(show ∀ H,qo (some H)=some (ej,H) from fun _=>rfl)]
def tR(st:List Str)(s:Str):Bool:=match st with
 |[]=>false
 |x::_=>x == s
theorem JE(hB:kH E){b p:Nat}{G:List AObj}{v:AV}{T:TypeId}{st:List Str}(hp:G[p]?=some (.cells [v] T))(hpb:p<b)(hb:b≤G.length)(h:re b G v st)(hl:st.length≤1000000)(s:Str) :
  ∃ v' G',M.run fO [.ptr p 0,.str s] G=some (.ret (.bool (tR st s)),G')∧G'[p]?=some (.cells [v'] T)∧re b G' v' (if tR st s=true then st.tail else st)∧G'.length=G.length∧∀ i,i≠p→G'[i]?=G[i]? := by
 have hlt:=gm hp;have l0:∀ x:AV,bW none [x] 0=some x:=fun _=>rfl
 have s0:∀ x y:AV,bC [x] 0 [y]=[y]:=fun _ _=>rfl
 have hlen:=rC h;cases st with
 |nil=>
  refine ⟨v,G, ?_,hp,h,rfl,fun _ _=>rfl⟩;rw [bJ M hB.docs_stack_string_pop rfl (c:=cf) rfl,cf];have hlen0:∀ H,oI H .sl v=some (.int .i64 0):=hlen;simp (maxSteps:=3000000) (maxDischargeDepth:=6) +contextual -implicitDefEqProofs only [amC M,↓amD,Nat.reduceBEq,Nat.reduceAdd,env,ag,fS,rnc,hp,l0,hlen0,tR,beq_self_eq_true,cut_refl,hp_self]
 |cons x st=>
  obtain ⟨⟨q,o,cs,t1,t2,t3,t3'⟩,v',t4,t5⟩:=EM h
  have hw:IntKind.i64.wrap ((((x::st).length:Nat):Int)-1)=(st.length:Int):=by
   simp only [List.length_cons] at hl ⊢;rw [eX (by omega) (by omega)];omega
  have h0:((((x::st).length:Nat):Int) == 0)=false:=by simp;omega
  have hw2:IntKind.i64.wrap (((st.length+1:Nat):Int)-1)=(st.length:Int):=hw;have h02:(((st.length+1:Nat):Int) == 0)=false:=h0;cases hx:x == s with
  |false=>
   refine ⟨v,G, ?_,hp,by rw [tR,hx];exact h,rfl,fun _ _=>rfl⟩;rw [bJ M hB.docs_stack_string_pop rfl (c:=cf) rfl,cf];simp (maxSteps:=3000000) (maxDischargeDepth:=6) +contextual -implicitDefEqProofs only [amC M,↓amD,Nat.reduceBEq,Nat.reduceAdd,env,ag,fS,rnc,hp,l0,hlen,tR,hw,h0,hw2,h02,t1,t3,t3',hx,cut_refl,hp_self]
  |true=>
   refine ⟨v',G.set p (.cells [v'] T), ?_,List.getElem?_set_self hlt,by rw [tR,hx];exact t5.stay fun i hi _=>by rw [List.getElem?_set_ne (by omega)],by simp,fun i hne=>by rw [List.getElem?_set_ne (by omega)]⟩
   have hcell:v'.cell=true∧cG v'=some [v']∧Wk G.length v' v':=by
    rcases t5 with ⟨_,rfl⟩ | ⟨id,_,_,rfl,hg⟩
    ·exact ⟨rfl,rfl,wk_slice trivial (xD _)⟩
    ·exact ⟨rfl,rfl,wk_rslice (gm hg)⟩
   have hwk:B2 G.length (.cells [v'] T):=by
    intro c hc;simp at hc;subst hc;exact hcell.2.2
   rw [bJ M hB.docs_stack_string_pop rfl (c:=cf) rfl,cf]
   have hst:stO 1 G p 0 [v'] (some (.cells [v] T))=some (G.set p (.cells [v'] T)):=by
    simp only [stO];rw [if_pos ⟨rfl,by simp,by simp [hcell.1]⟩];rfl
   simp (maxSteps:=3000000) (maxDischargeDepth:=6) +contextual -implicitDefEqProofs only [amC M,↓amD,Nat.reduceBEq,Nat.reduceAdd,env,ag,fS,amG,AV.cell,Nat.reduceMul,Nat.reduceLeDiff,rnc,hp,l0,s0,hlen,tR,hw,h0,hw2,h02,t1,t3,t3',t4,hx,hst,(show ∀ H,qo (some H)=some (ej,H) from fun _=>rfl),hcell.2.1,CE hwk];rw [List.take_of_length_le (by simp)]
end
section
attribute [local congr] aw bw aR aA aQ aH aC al ao aI aJ
variable{E:bc}(M:bM b4 E)
def rh(x:aa):Bool:=decide (x.kind<1)||decide (5<x.kind)
def DQ(x:aa):Bool:=x.car && !(x.kind == 2) && !(x.kind == 3)
def CH(p:Bool)(x:aa):Bool:=(x.kind == 1)&&((x.text == []) || !sa x.text||p)
def DS(x:aa):Bool := !(x.kind == 1) && !tP x.text
def stP(x:aa)(st:List Str):List Str:=if (x.kind == 3)=true then st.tail else st
def wm:List aa→Bool→Bool→Bool→List Str→Int
 |[],_,_,_,st=>sel (decide ((0:Int)<(st.length:Int))) 9 0
 |x :: l,p,b,e,st=>sel (rh x) 1 (sel (DQ x) 1 (sel (CH p x) 4 (sel (DS x) 5 (sel (mY b e x) (sel ((x.kind == 3) && !tR st x.text) 9
    (sel (x.kind == 2) (sel (decide ((16:Int)<((x.text::stP x st).length:Int))) 3 (wm l (x.kind == 1) (b || !dt x) (e||cA x) (x.text::stP x st)))
     (wm l (x.kind == 1) (b || !dt x) (e||cA x) (stP x st)))) 8))))
def dP:aa:=⟨0,[],false⟩
def ny(l:List aa)(i:Nat):Bool:=decide ((0:Int)<(i:Int))&&((l.getD (i-1) dP).kind == 1)
theorem yv{l:List aa}{i:Nat}{x:aa}(h:l[i]?=some x):ny l (i+1)=(x.kind == 1):=by
 have h1:decide ((0:Int)<((i+1:Nat):Int))=true:=decide_eq_true (by omega);simp [ny,h1,List.getD,h]
theorem yw(l:List aa):ny l 0=false:=rfl
abbrev pB(l:List aa):Prop:=∀ x∈l,x.text.length≤70368744177664
theorem ckl(hB:kH E)(hX:Bm M){l:List aa}{tg:Tag}(hl:l.length≤1000000)(ht:pB l){H0:List AObj}{bd p c:Nat}(hp0:H0.length≤p)(hc0:H0.length≤c)(hpb:p<bd)(hcb:c<bd)(hpc:p≠c){k:List Fra}
  (hk:∀ (G:List AObj) (v:AV) (st:List Str),G[p]?=some (.cells [v] eO)→re bd G v st→Pre H0 G→M.go ec H0 k (kv [(3,.ptr p 0)]) G=some (.ret (.int .u8 (sel (decide ((0:Int)<(st.length:Int))) 9 0)),H0)) :
  ∀ (n i:Nat) (G He:List AObj) (v:AV) (st:List Str) (b e:Bool),i+n=l.length→Pre H0 G→bd≤G.length→G[p]?=some (.cells [v] eO)→G[c]?=some (.cells [.bool b,.bool e] b8)→re bd G v st→st.length≤16 →
  M.go ec H0 (.c bg :: .lp ⟨(some [0,3,4,10,11,12]),[],false⟩ bg He :: .blk 0 :: .c (.lv [3])::k) (kv [(0,.slice tg 3 (l.map aa.row)),(3,.ptr p 0),(4,.ptr c 0),(10,.slice tg 3 (l.map aa.row)),(11,.int .i64 l.length),(12,.int .i64 i)]) G =
   some (.ret (.int .u8 (wm (l.drop i) (ny l i) b e st)),H0):=by
 intro n;induction n with
 |zero=>
  intro i G He v st b e h hP hb hgp hgc hst h16;obtain rfl:i=l.length:=by omega
  rw [List.drop_length,wm];have hk1:=hk G v st hgp hst hP;simp only [kv_cons,kv_nil] at hk1;rw [ak M bg.eq_1];simp (maxSteps:=3000000) (maxDischargeDepth:=6) +contextual -implicitDefEqProofs only [amC M,↓amD,Nat.reduceBEq,Nat.reduceAdd,env,ag,bz,Nat.lt_irrefl,hk1]
 |succ n IH=>
  intro i G He v st b e h hP hb hgp hgc hst h16;have hi:i<l.length:=by omega
  have hx:l[i]?=some l[i]:=List.getElem?_eq_getElem hi;have hd:l.drop i=l[i]::l.drop (i+1):=List.drop_eq_getElem_cons hi;have htx:=ht _ (List.getElem_mem hi);have hsu:=yv hx;rw [hd];generalize l[i]=x at *
  have htm:x.text.length≤bN:=by simp only [bN];omega
  have hws:=en hi (show l.length≤bN by simp only [bN];omega);have hw1:decide ((0:Int)<(i:Int))=true→IntKind.i64.wrap ((i:Int)-1)=((i-1:Nat):Int):=fun h0=>Ex (by have:=of_decide_eq_true h0;omega) (by simp only [bN];omega)
  have hi1:i-1<l.length:=by omega
  have hx1:l[i-1]?=some (l.getD (i-1) dP):=by rw [List.getD,List.getElem?_eq_getElem hi1];rfl
  have hia:∀ k:IntKind,pC 3 (.slice tg 3 (l.map aa.row)) (.int k ((i-1:Nat):Int))=some (.vptr 3 (l.map aa.row) (i-1) 0):=fun k=>bt hi1
  have hT:=fun H=>DL M hB hX htm H
  have hN:=fun H=>DM M hB htm H
  have hct:∀ L,dg H0 (G++L):=fun L=>(hP.app L).cut
  have htk:∀ L,(G++L).take H0.length=H0:=fun L=>(hP.app L).take
  have hgx:∀ T,(G++[AObj.cells x.row T])[G.length]?=some (.cells x.row T):=fun T=>by rw [aP];rfl
  rw [wm];cases ha:rh x with
  |true=>
   have ha':(decide (x.kind<1)||decide (5<x.kind))=true:=ha;rw [ak M bg.eq_1];simp (maxSteps:=3000000) (maxDischargeDepth:=6) +contextual -implicitDefEqProofs only [amC M,↓amD,Nat.reduceBEq,Nat.reduceAdd,env,ag,bz,amG,AV.cell,Nat.reduceMul,Nat.reduceLeDiff,hi,hx,bt hi,bu,aP,ha',hct,htk]
  |false=>
   have ha':(decide (x.kind<1)||decide (5<x.kind))=false:=ha;simp only [sel_false];cases hc:DQ x with
   |true=>
    have hc':(x.car && !(x.kind == 2) && !(x.kind == 3))=true:=hc;rw [ak M bg.eq_1];simp (maxSteps:=3000000) (maxDischargeDepth:=6) +contextual -implicitDefEqProofs only [amC M,↓amD,Nat.reduceBEq,Nat.reduceAdd,env,ag,bz,amG,AV.cell,Nat.reduceMul,Nat.reduceLeDiff,hi,hx,bt hi,bu,aP,ha',hc',hct,htk]
   |false=>
    have hc':(x.car && !(x.kind == 2) && !(x.kind == 3))=false:=hc;simp only [sel_false];cases hf:CH (ny l i) x with
    |true=>
     have hf':((x.kind == 1)&&((x.text == []) || !sa x.text||(decide ((0:Int)<(i:Int))&&((l.getD (i-1) dP).kind == 1))))=true:=hf;rw [ak M bg.eq_1];simp (maxSteps:=3000000) (maxDischargeDepth:=6) +contextual -implicitDefEqProofs only [amC M,↓amD,Nat.reduceBEq,Nat.reduceAdd,env,ag,bz,amG,AV.cell,Nat.reduceMul,Nat.reduceLeDiff,hi,hx,bt hi,bu,aP,ha',hc',hf',hT,hw1,hia,hx1,hct,htk]
    |false=>
     have hf':((x.kind == 1)&&((x.text == []) || !sa x.text||(decide ((0:Int)<(i:Int))&&((l.getD (i-1) dP).kind == 1))))=false:=hf;simp only [sel_false];cases hn:DS x with
     |true=>
      have hn':(!(x.kind == 1) && !tP x.text)=true:=hn;rw [ak M bg.eq_1];simp (maxSteps:=3000000) (maxDischargeDepth:=6) +contextual -implicitDefEqProofs only [amC M,↓amD,Nat.reduceBEq,Nat.reduceAdd,env,ag,bz,amG,AV.cell,Nat.reduceMul,Nat.reduceLeDiff,hi,hx,bt hi,bu,aP,ha',hc',hf',hT,hw1,hia,hx1,hct,htk,hn',hN]
     |false=>
      have hn':(!(x.kind == 1) && !tP x.text)=false:=hn;simp only [sel_false];have hcl:=gm hgc;have htak:=FT M hB (c:=c) (b:=b) (e:=e) (T:=b8) (G:=G++[.cells x.row ae]) (iw hgc) x;cases htb:mY b e x with
      |false=>
       simp only [htb,Bool.false_eq_true,if_false] at htak;rw [ak M bg.eq_1];simp (maxSteps:=3000000) (maxDischargeDepth:=6) +contextual -implicitDefEqProofs only [amC M,↓amD,Nat.reduceBEq,Nat.reduceAdd,env,ag,bz,amG,AV.cell,Nat.reduceMul,Nat.reduceLeDiff,hi,hx,bt hi,bu,aP,ha',hc',hf',hT,hw1,hia,hx1,hct,htk,hn',hN,htak]
      |true=>
       simp only [htb,if_true] at htak;simp only [sel_true];have hcl2:c<(G++[AObj.cells x.row ae]).length:=by simp;omega
       have hne:c≠G.length:=by omega
       have q1:((G++[AObj.cells x.row ae]).set c (.cells [.bool (b || !dt x),.bool (e||cA x)] b8))[p]?=some (.cells [v] eO):=by
        rw [List.getElem?_set_ne (by omega)];exact iw hgp
       have q2:((G++[AObj.cells x.row ae]).set c (.cells [.bool (b || !dt x),.bool (e||cA x)] b8))[c]?=some (.cells [.bool (b || !dt x),.bool (e||cA x)] b8):=List.getElem?_set_self hcl2
       have q3:((G++[AObj.cells x.row ae]).set c (.cells [.bool (b || !dt x),.bool (e||cA x)] b8))[G.length]?=some (.cells x.row ae):=by
        rw [List.getElem?_set_ne hne,aP];rfl
       have q4:Pre H0 ((G++[AObj.cells x.row ae]).set c (.cells [.bool (b || !dt x),.bool (e||cA x)] b8)):=(hP.app _).set hc0 _
       have q5:re bd ((G++[AObj.cells x.row ae]).set c (.cells [.bool (b || !dt x),.bool (e||cA x)] b8)) v st:=hst.stay fun j hj hj2=>by
        rw [List.getElem?_set_ne (by omega),List.getElem?_append_left hj2]
       have q6:bd≤((G++[AObj.cells x.row ae]).set c (.cells [.bool (b || !dt x),.bool (e||cA x)] b8)).length:=by simp;omega
       have q7:p≠G.length:=by have:=gm hgp;omega
       generalize (G++[AObj.cells x.row ae]).set c (.cells [.bool (b || !dt x),.bool (e||cA x)] b8)=G2 at htak q1 q2 q3 q4 q5 q6;have hct2:=q4.cut;have htk2:=q4.take;cases h3:x.kind == 3 with
       |true=>
        have h2:(x.kind == 2)=false:=by
         have:x.kind=3:=by simpa using h3
         rw [this];rfl
        obtain ⟨v3,G3,p1,p2,p3,p4,p5⟩:=JE M hB q1 hpb q6 q5 (by omega) x.text;cases hpo:tR st x.text with
        |false=>
         rw [hpo] at p1;have hP3:Pre H0 G3:=⟨by rw [p4];exact q4.1,fun j hj=>by rw [p5 j (by omega)];exact q4.2 j hj⟩
         have c3:=hP3.cut;have t3:=hP3.take;rw [ak M bg.eq_1];simp (maxSteps:=3000000) (maxDischargeDepth:=6) +contextual -implicitDefEqProofs only [amC M,↓amD,Nat.reduceBEq,Nat.reduceAdd,env,ag,bz,amG,AV.cell,Nat.reduceMul,Nat.reduceLeDiff,hi,hx,bt hi,bu,aP,ha',hc',hf',hT,hw1,hia,hx1,hct,htk,hn',hN,htak,q3,h3,p1,c3,t3]
        |true=>
         rw [hpo] at p1;simp only [hpo,if_true] at p3;have hP3:Pre H0 G3:=⟨by rw [p4];exact q4.1,fun j hj=>by rw [p5 j (by omega)];exact q4.2 j hj⟩
         have g3:G3[G.length]?=some (.cells x.row ae):=by rw [p5 _ (by omega)];exact q3
         have hstp:stP x st=st.tail:=if_pos h3;have ih:=fun He=>IH (i+1) G3 He v3 st.tail (b || !dt x) (e||cA x) (by omega) hP3 (by omega) p2 (by rw [p5 c (by omega)];exact q2) p3 (by simp;omega)
         rw [hsu] at ih;simp only [kv_cons,kv_nil] at ih;rw [ak M bg.eq_1];simp (maxSteps:=3000000) (maxDischargeDepth:=6) +contextual -implicitDefEqProofs only [amC M,↓amD,Nat.reduceBEq,Nat.reduceAdd,env,ag,bz,amG,AV.cell,Nat.reduceMul,Nat.reduceLeDiff,hi,hx,bt hi,bu,aP,ha',hc',hf',hT,hw1,hia,hx1,hct,htk,hn',hN,htak,q3,h3,h2,p1,g3,hstp,hws,ih]
       |false=>
        have hstp:stP x st=st:=if_neg (by rw [h3];simp);cases h2:x.kind == 2 with
        |false=>
         have hc2:x.car=false:=by rw [h2,h3] at hc';simpa using hc'
         have ih:=fun He=>IH (i+1) G2 He v st (b || !dt x) (e||cA x) (by omega) q4 q6 q1 q2 q5 h16
         rw [hsu] at ih;simp only [kv_cons,kv_nil] at ih;rw [ak M bg.eq_1];simp (maxSteps:=3000000) (maxDischargeDepth:=6) +contextual -implicitDefEqProofs only [amC M,↓amD,Nat.reduceBEq,Nat.reduceAdd,env,ag,bz,amG,AV.cell,Nat.reduceMul,Nat.reduceLeDiff,hi,hx,bt hi,bu,aP,ha',hc',hf',hT,hw1,hia,hx1,hct,htk,hn',hN,htak,q3,h3,h2,hc2,hstp,hws,ih]
        |true=>
         obtain ⟨v3,G3,p1,p2,p3,p4⟩:=HR M hB q1 hpb q6 q5 (by omega) x.text;have hP3:Pre H0 G3:=p4.pre q4 (by omega) hp0;have c3:=hP3.cut;have t3:=hP3.take;have hlen:=rC p3;have l0:∀ x:AV,bW none [x] 0=some x:=fun _=>rfl
         have hlen2:∀ H,oI H .sl v3=some (.int .i64 ((st.length+1:Nat):Int)):=hlen;cases hgt:decide ((16:Int)<((x.text::stP x st).length:Int)) with
         |true=>
          have hgt2:decide ((16:Int)<((st.length+1:Nat):Int))=true:=by rw [← hgt,hstp];rfl
          rw [ak M bg.eq_1];simp (maxSteps:=3000000) (maxDischargeDepth:=6) +contextual -implicitDefEqProofs only [amC M,↓amD,Nat.reduceBEq,Nat.reduceAdd,env,ag,bz,amG,AV.cell,Nat.reduceMul,Nat.reduceLeDiff,hi,hx,bt hi,bu,aP,ha',hc',hf',hT,hw1,hia,hx1,hct,htk,hn',hN,htak,q3,h3,h2,p1,p2,l0,hlen2,hgt2,c3,t3]
         |false=>
          have hgt2:decide ((16:Int)<((st.length+1:Nat):Int))=false:=by rw [← hgt,hstp];rfl
          have hle:(x.text::st).length≤16:=by have:=of_decide_eq_false hgt2;simp only [List.length_cons];omega
          have ih:=fun He=>IH (i+1) G3 He v3 (x.text::st) (b || !dt x) (e||cA x) (by omega) hP3 (by have:=p4.1;omega) p2 (by rw [p4.2 c hcb (by omega)];exact q2) p3 hle
          rw [hsu] at ih;simp only [kv_cons,kv_nil] at ih;rw [ak M bg.eq_1];simp (maxSteps:=3000000) (maxDischargeDepth:=6) +contextual -implicitDefEqProofs only [amC M,↓amD,Nat.reduceBEq,Nat.reduceAdd,env,ag,bz,amG,AV.cell,Nat.reduceMul,Nat.reduceLeDiff,hi,hx,bt hi,bu,aP,ha',hc',hf',hT,hw1,hia,hx1,hct,htk,hn',hN,htak,q3,h3,h2,p1,p2,l0,hlen2,hgt2,hstp,hws,ih]
def jd(l:List aa):Int:=sel (decide ((512:Int)<(l.length:Int))) 3 (wm l false false false [])
theorem wq(hB:kH E)(hX:Bm M){l:Sl aa}(hl:l.l.length≤1000000)(ht:pB l.l)(H:List AObj) :
  M.run bZ [.slice l.tag 3 (l.l.map aa.row)] H=some (.ret (.int .u8 (jd l.l)),H):=by
 rw [bJ M hB.docs_CheckPieces rfl (c:=jL) rfl,jL];cases h5:decide ((512:Int)<(l.l.length:Int)) with
 |true=>simp (maxSteps:=3000000) (maxDischargeDepth:=6) +contextual -implicitDefEqProofs only [amC M,↓amD,Nat.reduceBEq,Nat.reduceAdd,env,ag,bz,h5,jd]
 |false=>
  have hlp:=fun k hk He=>ckl M hB hX (tg:=l.tag) hl ht (H0:=H) (bd:=H.length+2) (p:=H.length) (c:=H.length+1) (Nat.le_refl _) (by omega) (by omega) (by omega) (by omega) (k:=k) hk l.l.length 0 (H++[.cells [.slice .nil 1 []] eO,.cells [.bool false,.bool false] b8]) He (.slice .nil 1 []) [] false false (by omega) ((Pre.refl H).app _) (by simp) (by rw [aP];rfl) (by rw [hp_getk];rfl) (.inl ⟨rfl,rfl⟩) (by simp)
  simp only [kv_cons,kv_nil,Int.ofNat_zero,List.drop_zero,yw] at hlp;have l0:∀ x:AV,bW none [x] 0=some x:=fun _=>rfl
  simp (maxSteps:=3000000) (maxDischargeDepth:=6) +contextual -implicitDefEqProofs only [amC M,↓amD,Nat.reduceBEq,Nat.reduceAdd,env,ag,bz,h5,jd];refine hlp _ (fun G v st hg hs hP => ?_) _;have hlen:=rC hs;have hct:=hP.cut;have htk:=hP.take;simp (maxSteps:=3000000) (maxDischargeDepth:=6) +contextual -implicitDefEqProofs only [amC M,↓amD,Nat.reduceBEq,Nat.reduceAdd,env,ag,bz,hg,l0,hlen,hct,htk]
end
section
attribute [local congr] aw bw aR aA aQ aH aC al ao aI aJ
variable{E:bc}(M:bM b4 E)
theorem K9{α:Type}(b p:Bool)(x y:α):slc b y (slc p y x)=slc (b||p) y x:=by cases b<;>rfl
def lW(p:Bool)(x:aa):Int:=sel (rh x) 1 (sel (DQ x) 1 (sel (CH p x) 4 (sel (DS x) 5 0)))
theorem FU(hB:kH E){l:List aa}{tg:Tag}(hl:l.length≤1000000)(ht:pB l){i:Nat}{x:aa}(hx:l[i]?=some x)(H:List AObj) :
  M.run gN [.slice tg 3 (l.map aa.row),.int .i64 i] H=some (.ret (.int .u8 (lW (ny l i) x)),H):=by
 have hi:i<l.length:=(List.getElem?_eq_some_iff.1 hx).1;have htx:=ht _ (List.mem_of_getElem? hx);have htm:x.text.length≤bN:=by simp only [bN];omega
 have hw1:decide ((0:Int)<(i:Int))=true→IntKind.i64.wrap ((i:Int)-1)=((i-1:Nat):Int):=fun h0=>Ex (by have:=of_decide_eq_true h0;omega) (by simp only [bN];omega)
 have hi1:i-1<l.length:=by omega
 have hx1:l[i-1]?=some (l.getD (i-1) dP):=by rw [List.getD,List.getElem?_eq_getElem hi1];rfl
 have hia:∀ k:IntKind,pC 3 (.slice tg 3 (l.map aa.row)) (.int k ((i-1:Nat):Int))=some (.vptr 3 (l.map aa.row) (i-1) 0):=fun k=>bt hi1
 have hT:=fun H=>HF M hB htx H
 have hN:=fun H=>HG M hB htm H
 rw [bJ M hB.truchmanref01_alone rfl (c:=gX) rfl,gX];simp (maxSteps:=3000000) (maxDischargeDepth:=6) +contextual -implicitDefEqProofs only [amC M,↓amD,Nat.reduceBEq,Nat.reduceAdd,env,ag,pI,amG,AV.cell,Nat.reduceMul,Nat.reduceLeDiff,hi,hx,bt hi,bu,aP,hT,hN,hw1,hia,hx1,cut_app,hp_take,lW,rh,DQ,CH,DS,ny]
def cw(x y:aa):Bool:=dt x && !dt y||cA y && !cA x
theorem L2{l:List aa}{tg:Tag}(hl:l.length≤1000000){i:Nat}{x:aa}(hx:l[i]?=some x){H H0:List AObj}(hc:dg H0 H)(k:List Fra):∀ (n j:Nat) (He:List AObj),j+n=i →
  M.go dA H0 (.c dc :: .lp ⟨(some [0,1,5]),[],false⟩ dc He :: .blk 0 :: .c (.lv [])::k) (kv [(0,.slice tg 3 (l.map aa.row)),(1,.int .i64 i),(5,.int .i64 j)]) H =
   sel (((l.take i).drop j).any (cw x)) (some (.ret (.int .u8 8),H.take H0.length)) (M.go dA H0 k .leaf H)
 |0,j,He,h=>by
  obtain rfl:j=i:=by omega
  have e:(l.take j).drop j=[]:=List.drop_of_length_le (by simp;omega);rw [ak M dc.eq_1];simp (maxSteps:=3000000) (maxDischargeDepth:=6) +contextual -implicitDefEqProofs only [amC M,↓amD,Nat.reduceBEq,Nat.reduceAdd,env,ag,fU,Nat.lt_irrefl,e,List.any_nil]
 |n+1,j,He,h=>by
  have hi:i<l.length:=(List.getElem?_eq_some_iff.1 hx).1;have hki:j<i:=by omega
  have hkl:j<l.length:=by omega
  have hy:l[j]?=some l[j]:=List.getElem?_eq_getElem hkl
  have hd:(l.take i).drop j=l[j]::(l.take i).drop (j+1):=by
   rw [List.drop_eq_getElem_cons (by simp;omega),List.getElem_take]
  have ih:=fun He=>L2 (tg:=tg) hl hx hc k n (j+1) He (by omega)
  have hws:IntKind.i64.wrap ((j:Int)+1)=((j+1:Nat):Int):=en hkl (show l.length≤bN by simp only [bN];omega);rw [hd,List.any_cons];generalize l[j]=y at hy;have e1:(y.car&&(y.kind == 2))=dt y:=Bool.and_comm _ _;have e2:(y.car&&(y.kind == 3))=cA y:=Bool.and_comm _ _;have e3:(x.car&&(x.kind == 2))=dt x:=Bool.and_comm _ _;have e4:(x.car&&(x.kind == 3))=cA x:=Bool.and_comm _ _;simp only [kv_cons,kv_nil] at ih
  rw [ak M dc.eq_1];simp (maxSteps:=3000000) (maxDischargeDepth:=6) +contextual -implicitDefEqProofs only [amC M,↓amD,Nat.reduceBEq,Nat.reduceAdd,env,ag,fU,hki,hx,hy,hi,hkl,bt hi,bt hkl,bu,hws,e1,e2,e3,e4,ih,hc,cw,K9,Bool.or_assoc]
def CI(l:List aa)(i:Nat):Bool:=(l.take i).any fun y => !dt y
def CJ(l:List aa)(i:Nat):Bool:=(l.take i).any cA
theorem HS(x:aa):∀ l:List aa,l.any (cw x)=(dt x&&(l.any fun y => !dt y)||l.any cA && !cA x)
 |[]=>by simp
 |y::l=>by
  simp only [List.any_cons,HS x l,cw];cases dt x<;>cases dt y<;>cases cA y<;>cases cA x<;>simp
theorem CL(hB:kH E){l:List aa}{tg:Tag}(hl:l.length≤1000000){i:Nat}{x:aa}(hx:l[i]?=some x)(H:List AObj) :
  M.run fP [.slice tg 3 (l.map aa.row),.int .i64 i] H=some (.ret (.int .u8 (sel (mY (CI l i) (CJ l i) x) 0 8)),H):=by
 rw [bJ M hB.truchmanref01_carried rfl (c:=fT) rfl,fT];have hlp:=fun k He=>L2 M (tg:=tg) hl hx (cut_refl H) k i 0 He (by omega)
 simp only [kv_cons,kv_nil,Int.ofNat_zero,List.drop_zero,HS] at hlp;have e:mY (CI l i) (CJ l i) x = !(dt x&&((l.take i).any fun y => !dt y)||(l.take i).any cA && !cA x):=rfl;rw [e];simp (maxSteps:=3000000) (maxDischargeDepth:=6) +contextual -implicitDefEqProofs only [amC M,↓amD,Nat.reduceBEq,Nat.reduceAdd,env,ag,fU,hlp]
theorem FV{l:List aa}{i:Nat}{x:aa}(h:l[i]?=some x):CI l (i+1)=(CI l i || !dt x):=by
 unfold CI;rw [List.take_add_one,h,List.any_append];simp
theorem FW{l:List aa}{i:Nat}{x:aa}(h:l[i]?=some x):CJ l (i+1)=(CJ l i||cA x):=by
 unfold CJ;rw [List.take_add_one,h,List.any_append];simp
theorem Mo(hB:kH E){l:List aa}{tg:Tag}(hl:l.length≤1000000)(ht:pB l){H0:List AObj}{k:List Fra}
  (hk:∀ (G:List AObj) (v:AV) (st:List Str),re H0.length G v st→Pre H0 G→M.go cL H0 k (kv [(3,v)]) G=some (.ret (.int .u8 (sel (decide ((0:Int)<(st.length:Int))) 9 0)),H0)) :
  ∀ (n i:Nat) (G He:List AObj) (v:AV) (st:List Str),i+n=l.length→Pre H0 G→re H0.length G v st→st.length≤16 →
  M.go cL H0 (.c aG :: .lp ⟨(some [0,3,4]),[],false⟩ aG He :: .blk 0 :: .c (.lv [3])::k) (kv [(0,.slice tg 3 (l.map aa.row)),(3,v),(4,.int .i64 i)]) G =
   some (.ret (.int .u8 (wm (l.drop i) (ny l i) (CI l i) (CJ l i) st)),H0):=by
 intro n;induction n with
 |zero=>
  intro i G He v st h hP hst h16;obtain rfl:i=l.length:=by omega
  rw [List.drop_length,wm];have hk1:=hk G v st hst hP;simp only [kv_cons,kv_nil] at hk1;rw [ak M aG.eq_1];simp (maxSteps:=3000000) (maxDischargeDepth:=6) +contextual -implicitDefEqProofs only [amC M,↓amD,Nat.reduceBEq,Nat.reduceAdd,env,ag,aM,Nat.lt_irrefl,hk1]
 |succ n IH=>
  intro i G He v st h hP hst h16;have hi:i<l.length:=by omega
  have hx:l[i]?=some l[i]:=List.getElem?_eq_getElem hi;have hd:l.drop i=l[i]::l.drop (i+1):=List.drop_eq_getElem_cons hi;have hsu:=yv hx;have hbs:=FV hx;have hes:=FW hx;rw [hd];generalize l[i]=x at *
  have hws:=en hi (show l.length≤bN by simp only [bN];omega);have hA:=fun H=>FU M hB (tg:=tg) hl ht hx H
  have hC:=fun H=>CL M hB (tg:=tg) hl hx H
  have hct:=hP.cut;have htk:=hP.take;have hlen:=rC hst;rw [wm];cases ha:rh x with
  |true=>
   have e:lW (ny l i) x=1:=by rw [lW,ha];rfl
   rw [ak M aG.eq_1];simp (maxSteps:=3000000) (maxDischargeDepth:=6) +contextual -implicitDefEqProofs only [amC M,↓amD,Nat.reduceBEq,Nat.reduceAdd,env,ag,aM,hi,hx,hA,e,hct,htk,(show ((1:Int) == 0)=false from rfl)]
  |false=>
  simp only [sel_false];cases hca:DQ x with
  |true=>
   have e:lW (ny l i) x=1:=by rw [lW,ha,hca];rfl
   rw [ak M aG.eq_1];simp (maxSteps:=3000000) (maxDischargeDepth:=6) +contextual -implicitDefEqProofs only [amC M,↓amD,Nat.reduceBEq,Nat.reduceAdd,env,ag,aM,hi,hx,hA,e,hct,htk,(show ((1:Int) == 0)=false from rfl)]
  |false=>
  simp only [sel_false];cases hf:CH (ny l i) x with
  |true=>
   have e:lW (ny l i) x=4:=by rw [lW,ha,hca,hf];rfl
   rw [ak M aG.eq_1];simp (maxSteps:=3000000) (maxDischargeDepth:=6) +contextual -implicitDefEqProofs only [amC M,↓amD,Nat.reduceBEq,Nat.reduceAdd,env,ag,aM,hi,hx,hA,e,hct,htk,(show ((4:Int) == 0)=false from rfl)]
  |false=>
  simp only [sel_false];cases hn:DS x with
  |true=>
   have e:lW (ny l i) x=5:=by rw [lW,ha,hca,hf,hn];rfl
   rw [ak M aG.eq_1];simp (maxSteps:=3000000) (maxDischargeDepth:=6) +contextual -implicitDefEqProofs only [amC M,↓amD,Nat.reduceBEq,Nat.reduceAdd,env,ag,aM,hi,hx,hA,e,hct,htk,(show ((5:Int) == 0)=false from rfl)]
  |false=>
  simp only [sel_false];have e:lW (ny l i) x=0:=by rw [lW,ha,hca,hf,hn];rfl
  cases htb:mY (CI l i) (CJ l i) x with
  |false=>
   rw [htb] at hC;rw [ak M aG.eq_1];simp (maxSteps:=3000000) (maxDischargeDepth:=6) +contextual -implicitDefEqProofs only [amC M,↓amD,Nat.reduceBEq,Nat.reduceAdd,env,ag,aM,hi,hx,hA,hC,e,hct,htk,beq_self_eq_true,(show ((8:Int) == 0)=false from rfl)]
  |true=>
  rw [htb] at hC;simp only [sel_true,sel_false] at hC ⊢;cases h3:x.kind == 3 with
  |true=>
   have h2:(x.kind == 2)=false:=by
    have:x.kind=3:=by simpa using h3
    rw [this];rfl
   cases st with
   |nil=>
    have hlen0:∀ H,oI H .sl v=some (.int .i64 0):=hlen;rw [ak M aG.eq_1];simp (maxSteps:=3000000) (maxDischargeDepth:=6) +contextual -implicitDefEqProofs only [amC M,↓amD,Nat.reduceBEq,Nat.reduceAdd,env,ag,aM,hi,hx,bt hi,bu,hA,hC,e,h3,hlen0,tR,hct,htk,beq_self_eq_true]
   |cons y st=>
    obtain ⟨⟨q,o,cs,t1,t2,t3,t3'⟩,v',t4,t5⟩:=EM hst
    have hw:IntKind.i64.wrap ((((y::st).length:Nat):Int)-1)=(st.length:Int):=by
     simp only [List.length_cons] at h16 ⊢;rw [eX (by omega) (by omega)];omega
    have h0:((((y::st).length:Nat):Int) == 0)=false:=by simp;omega
    cases hy:y == x.text with
    |false=>
     rw [ak M aG.eq_1];simp (maxSteps:=3000000) (maxDischargeDepth:=6) +contextual -implicitDefEqProofs only [amC M,↓amD,Nat.reduceBEq,Nat.reduceAdd,env,ag,aM,hi,hx,bt hi,bu,hA,hC,e,h3,hlen,h0,hw,t1,t3,t3',hy,tR,hct,htk,beq_self_eq_true]
    |true=>
     have hstp:stP x (y::st)=st:=if_pos h3;have ih:=fun He=>IH (i+1) G He v' st (by omega) hP t5 (by simp at h16;omega)
     rw [hsu,hbs,hes] at ih;simp only [kv_cons,kv_nil] at ih;rw [ak M aG.eq_1];simp (maxSteps:=3000000) (maxDischargeDepth:=6) +contextual -implicitDefEqProofs only [amC M,↓amD,Nat.reduceBEq,Nat.reduceAdd,env,ag,aM,hi,hx,bt hi,bu,hA,hC,e,h3,h2,hlen,h0,hw,t1,t3,t3',t4,hy,tR,hstp,hws,ih,beq_self_eq_true]
  |false=>
   have hstp:stP x st=st:=if_neg (by rw [h3];simp);cases h2:x.kind == 2 with
   |false=>
    have ih:=fun He=>IH (i+1) G He v st (by omega) hP hst h16
    rw [hsu,hbs,hes] at ih;simp only [kv_cons,kv_nil] at ih;rw [ak M aG.eq_1];simp (maxSteps:=3000000) (maxDischargeDepth:=6) +contextual -implicitDefEqProofs only [amC M,↓amD,Nat.reduceBEq,Nat.reduceAdd,env,ag,aM,hi,hx,bt hi,bu,hA,hC,e,h3,h2,hstp,hws,ih,beq_self_eq_true]
   |true=>
    obtain ⟨v3,G3,p1,p2,p3,p4⟩:=HQ hst hP.1 (by omega) x.text;have hP3:Pre H0 G3:=⟨Nat.le_trans hP.1 p3,fun j hj=>by rw [p4 j hj];exact hP.2 j hj⟩
    have c3:=hP3.cut;have tk3:=hP3.take;have hlen3:∀ H,oI H .sl v3=some (.int .i64 ((st.length+1:Nat):Int)):=rC p2;cases hgt:decide ((16:Int)<((x.text::stP x st).length:Int)) with
    |true=>
     have hgt2:decide ((16:Int)<((st.length+1:Nat):Int))=true:=by rw [← hgt,hstp];rfl
     rw [ak M aG.eq_1];simp (maxSteps:=3000000) (maxDischargeDepth:=6) +contextual -implicitDefEqProofs only [amC M,↓amD,Nat.reduceBEq,Nat.reduceAdd,env,ag,aM,amG,AV.cell,Nat.reduceMul,Nat.reduceLeDiff,hi,hx,bt hi,bu,hA,hC,e,h3,h2,p1,hlen3,hgt2,c3,tk3,beq_self_eq_true]
    |false=>
     have hgt2:decide ((16:Int)<((st.length+1:Nat):Int))=false:=by rw [← hgt,hstp];rfl
     have hle:(x.text::st).length≤16:=by have:=of_decide_eq_false hgt2;simp only [List.length_cons];omega
     have ih:=fun He=>IH (i+1) G3 He v3 (x.text::st) (by omega) hP3 p2 hle
     rw [hsu,hbs,hes] at ih;simp only [kv_cons,kv_nil] at ih;rw [ak M aG.eq_1];simp (maxSteps:=3000000) (maxDischargeDepth:=6) +contextual -implicitDefEqProofs only [amC M,↓amD,Nat.reduceBEq,Nat.reduceAdd,env,ag,aM,amG,AV.cell,Nat.reduceMul,Nat.reduceLeDiff,hi,hx,bt hi,bu,hA,hC,e,h3,h2,p1,hlen3,hgt2,hstp,hws,ih,beq_self_eq_true]
theorem uQ(hB:kH E){l:Sl aa}(hl:l.l.length≤1000000)(ht:pB l.l)(H:List AObj) :
  M.run eS [.slice l.tag 3 (l.l.map aa.row)] H=some (.ret (.int .u8 (jd l.l)),H):=by
 rw [bJ M hB.truchmanref01_CheckPieces rfl (c:=eT) rfl,eT];cases h5:decide ((512:Int)<(l.l.length:Int)) with
 |true=>simp (maxSteps:=3000000) (maxDischargeDepth:=6) +contextual -implicitDefEqProofs only [amC M,↓amD,Nat.reduceBEq,Nat.reduceAdd,env,ag,aM,h5,jd]
 |false=>
  have hlp:=fun k hk He=>Mo M hB (tg:=l.tag) hl ht (H0:=H) (k:=k) hk l.l.length 0 H He (.slice .nil 1 []) [] (by omega) (Pre.refl H) (.inl ⟨rfl,rfl⟩) (by simp)
  simp only [kv_cons,kv_nil,Int.ofNat_zero,List.drop_zero,yw,(show CI l.l 0=false from rfl),(show CJ l.l 0=false from rfl)] at hlp;simp (maxSteps:=3000000) (maxDischargeDepth:=6) +contextual -implicitDefEqProofs only [amC M,↓amD,Nat.reduceBEq,Nat.reduceAdd,env,ag,aM,h5,jd];refine hlp _ (fun G v st hs hP => ?_) _;have hlen:=rC hs;have hct:=hP.cut;have htk:=hP.take;simp (maxSteps:=3000000) (maxDischargeDepth:=6) +contextual -implicitDefEqProofs only [amC M,↓amD,Nat.reduceBEq,Nat.reduceAdd,env,ag,aM,hlen,hct,htk]
end
section
attribute [local congr] aw bw aR aA aQ aH aC al ao aI aJ
variable{E:bc}(M:bM b4 E)
theorem bp{s t:Str}(h:s.length+t.length<9223372036854775808):bj .add s t=some (.str (s++t)):=if_pos h
theorem EO{α:Type}{row:α→List AV}{l:List α}{x:α}{r:List AV}{sz bytes:Nat}{e:TypeId}(H L:List AObj)(h1:r.length=sz)(h2:r.all AV.cell=true)(h3:r.map AV.strip=row x)
  (hl:(l.length+1)*bytes≤140737488355328) (hl2:l.length+1≤4611686018427387904) :
  rap false (H++(.tok (l.length*sz) e::L)) e sz bytes false (.slice (.own H.length) sz (l.map row)) (.slice .full sz [r])=some (.slice (.own H.length) sz ((l++[x]).map row),H++(.tok ((l++[x]).length*sz) e::L)):=by
 simp only [rap,uh,nZ,List.length_map,List.length_cons,List.length_nil,Nat.zero_add,or_true,if_true,hl,hl2,xJ h1 h2,and_true,true_and,aP,List.getElem?_cons_zero,hp_set0,List.set_cons_zero,List.map_cons,List.map_nil,h3,List.map_append,List.length_append,Nat.add_mul,Nat.one_mul];rw [Nat.add_mul,Nat.one_mul] at hl;rw [if_pos hl]
theorem La(n:Nat)(l:List aa):gJ n (l.map aa.row):=by
 rw [rowsWk_map];exact fun _ _=>⟨wk_int _ _ _,wk_str _ _,wk_bool _ _,trivial⟩
theorem Ad(x y:aa):req (.st [(0,.int .u8),(1,.str),(2,.bool)]) (.agg x.row) (.agg y.row)=some ((x.kind == y.kind)&&(x.text == y.text)&&(x.car == y.car)):=by
 simp only [req,nY,aa.row,List.getElem?_cons_zero,List.getElem?_cons_succ,s7];cases x.kind == y.kind<;>simp
 cases x.text == y.text<;>simp
 cases x.car == y.car<;>rfl
end
section
attribute [local congr] aw bw aR aA aQ aH aC al ao aI aJ
variable{E:bc}(M:bM b4 E)
def jT(x:aa):Str:=sel x.car [43] []
def eM(s:Str):Str:=(s.map fun c=>if ((c == 92)||(c == 60)||(c == 123))=true then [92,c] else [c]).flatten
def wrF(x:aa):Str:=sel (x.kind == 2) ([60]++jT x++x.text++[62]) (sel (x.kind == 3) ([60,47]++jT x++x.text++[62]) (sel (x.kind == 4) ([60]++x.text++[47,62]) (sel (x.kind == 5) ([123]++x.text++[125]) (eM x.text))))
def JF(x:aa):Bool:=(x.kind == 2)||(x.kind == 3)||(x.kind == 4)||(x.kind == 5)
theorem CM(hS:uP E){x:aa}(hx:JF x=true)(hl:x.text.length≤140737488351232)(H:List AObj):M.run eY [.agg x.row] H=some (.ret (.str (wrF x)),H):=by
 have hkind:x.kind=2∨x.kind=3∨x.kind=4∨x.kind=5:=by simpa [JF,or_assoc] using hx
 rw [bJ M hS.docs_written rfl (c:=iS) rfl,iS];rcases hkind with e | e | e | e
 ·cases hc:x.car with
  |true=>
   have F1:bj .add ([60]) [43]=some (.str (60::[43])):=bp (by simp);have F2:bj .add ([60,43]) x.text=some (.str (60::43::x.text)):=bp (by simp;omega);have F3:bj .add (60::43::x.text) [62]=some (.str (60::43::(x.text++[62]))):=bp (by simp;omega);simp (maxSteps:=3000000) (maxDischargeDepth:=6) +contextual -implicitDefEqProofs only [amC M,↓amD,Nat.reduceBEq,Nat.reduceAdd,env,ag,dJ,amG,AV.cell,Nat.reduceMul,Nat.reduceLeDiff,bu,aP,e,hc,(show ((2:Int) == 2)=true from rfl),(show ((2:Int) == 3)=false from rfl),(show ((2:Int) == 4)=false from rfl),(show ((2:Int) == 5)=false from rfl),F1,F2,F3,wrF,jT,cut_app,hp_take]
  |false=>
   have F1:bj .add ([60]) []=some (.str (60::[])):=bp (by simp);have F2:bj .add ([60]) x.text=some (.str (60::x.text)):=bp (by simp;omega);have F3:bj .add (60::x.text) [62]=some (.str (60::(x.text++[62]))):=bp (by simp;omega);simp (maxSteps:=3000000) (maxDischargeDepth:=6) +contextual -implicitDefEqProofs only [amC M,↓amD,Nat.reduceBEq,Nat.reduceAdd,env,ag,dJ,amG,AV.cell,Nat.reduceMul,Nat.reduceLeDiff,bu,aP,e,hc,(show ((2:Int) == 2)=true from rfl),(show ((2:Int) == 3)=false from rfl),(show ((2:Int) == 4)=false from rfl),(show ((2:Int) == 5)=false from rfl),F1,F2,F3,wrF,jT,cut_app,hp_take]
 ·cases hc:x.car with
  |true=>
   have F1:bj .add ([60,47]) [43]=some (.str (60::47::[43])):=bp (by simp);have F2:bj .add ([60,47,43]) x.text=some (.str (60::47::43::x.text)):=bp (by simp;omega);have F3:bj .add (60::47::43::x.text) [62]=some (.str (60::47::43::(x.text++[62]))):=bp (by simp;omega);simp (maxSteps:=3000000) (maxDischargeDepth:=6) +contextual -implicitDefEqProofs only [amC M,↓amD,Nat.reduceBEq,Nat.reduceAdd,env,ag,dJ,amG,AV.cell,Nat.reduceMul,Nat.reduceLeDiff,bu,aP,e,hc,(show ((3:Int) == 2)=false from rfl),(show ((3:Int) == 3)=true from rfl),(show ((3:Int) == 4)=false from rfl),(show ((3:Int) == 5)=false from rfl),F1,F2,F3,wrF,jT,cut_app,hp_take]
  |false=>
   have F1:bj .add ([60,47]) []=some (.str (60::47::[])):=bp (by simp);have F2:bj .add ([60,47]) x.text=some (.str (60::47::x.text)):=bp (by simp;omega);have F3:bj .add (60::47::x.text) [62]=some (.str (60::47::(x.text++[62]))):=bp (by simp;omega);simp (maxSteps:=3000000) (maxDischargeDepth:=6) +contextual -implicitDefEqProofs only [amC M,↓amD,Nat.reduceBEq,Nat.reduceAdd,env,ag,dJ,amG,AV.cell,Nat.reduceMul,Nat.reduceLeDiff,bu,aP,e,hc,(show ((3:Int) == 2)=false from rfl),(show ((3:Int) == 3)=true from rfl),(show ((3:Int) == 4)=false from rfl),(show ((3:Int) == 5)=false from rfl),F1,F2,F3,wrF,jT,cut_app,hp_take]
 ·cases hc:x.car with
  |true=>
   have F2:bj .add ([60]) x.text=some (.str (60::x.text)):=bp (by simp;omega);have F3:bj .add (60::x.text) [47,62]=some (.str (60::(x.text++[47,62]))):=bp (by simp;omega);simp (maxSteps:=3000000) (maxDischargeDepth:=6) +contextual -implicitDefEqProofs only [amC M,↓amD,Nat.reduceBEq,Nat.reduceAdd,env,ag,dJ,amG,AV.cell,Nat.reduceMul,Nat.reduceLeDiff,bu,aP,e,hc,(show ((4:Int) == 2)=false from rfl),(show ((4:Int) == 3)=false from rfl),(show ((4:Int) == 4)=true from rfl),(show ((4:Int) == 5)=false from rfl),F2,F3,wrF,jT,cut_app,hp_take]
  |false=>
   have F2:bj .add ([60]) x.text=some (.str (60::x.text)):=bp (by simp;omega);have F3:bj .add (60::x.text) [47,62]=some (.str (60::(x.text++[47,62]))):=bp (by simp;omega);simp (maxSteps:=3000000) (maxDischargeDepth:=6) +contextual -implicitDefEqProofs only [amC M,↓amD,Nat.reduceBEq,Nat.reduceAdd,env,ag,dJ,amG,AV.cell,Nat.reduceMul,Nat.reduceLeDiff,bu,aP,e,hc,(show ((4:Int) == 2)=false from rfl),(show ((4:Int) == 3)=false from rfl),(show ((4:Int) == 4)=true from rfl),(show ((4:Int) == 5)=false from rfl),F2,F3,wrF,jT,cut_app,hp_take]
 ·cases hc:x.car with
  |true=>
   have F2:bj .add ([123]) x.text=some (.str (123::x.text)):=bp (by simp;omega);have F3:bj .add (123::x.text) [125]=some (.str (123::(x.text++[125]))):=bp (by simp;omega);simp (maxSteps:=3000000) (maxDischargeDepth:=6) +contextual -implicitDefEqProofs only [amC M,↓amD,Nat.reduceBEq,Nat.reduceAdd,env,ag,dJ,amG,AV.cell,Nat.reduceMul,Nat.reduceLeDiff,bu,aP,e,hc,(show ((5:Int) == 2)=false from rfl),(show ((5:Int) == 3)=false from rfl),(show ((5:Int) == 4)=false from rfl),(show ((5:Int) == 5)=true from rfl),F2,F3,wrF,jT,cut_app,hp_take]
  |false=>
   have F2:bj .add ([123]) x.text=some (.str (123::x.text)):=bp (by simp;omega);have F3:bj .add (123::x.text) [125]=some (.str (123::(x.text++[125]))):=bp (by simp;omega);simp (maxSteps:=3000000) (maxDischargeDepth:=6) +contextual -implicitDefEqProofs only [amC M,↓amD,Nat.reduceBEq,Nat.reduceAdd,env,ag,dJ,amG,AV.cell,Nat.reduceMul,Nat.reduceLeDiff,bu,aP,e,hc,(show ((5:Int) == 2)=false from rfl),(show ((5:Int) == 3)=false from rfl),(show ((5:Int) == 4)=false from rfl),(show ((5:Int) == 5)=true from rfl),F2,F3,wrF,jT,cut_app,hp_take]
end
section
attribute [local congr] aw bw aR aA aQ aH aC al ao aI aJ
variable{E:bc}(M:bM b4 E)
structure yx (M:bM b4 E):Prop where
 count:∀ (s:Str) (c:UInt8) (H:List AObj),M.run b7 [.str s,.int .u8 c.toNat] H=some (.ret (.int .i64 (Lib.countByte s c:Nat)),H)
structure wt (E:bc):Prop where
 strings_Count:E.fn lH=some lO
 strings_NewReplacer:E.fn fh=some ig
 strings_Replacer_Replace:E.fn dG=some fc
 strings_byteStringReplacer_Replace:E.fn bL=some aD
theorem CN(hR:wt E)(hX:yx M)(s:Str)(c:UInt8)(H:List AObj):M.run lH [.str s,.str [c]] H=some (.ret (.int .i64 (Lib.countByte s c:Nat)),H):=by
 rw [bJ M hR.strings_Count rfl (c:=lN) rfl,lN];have e0:((([c]:Str).length:Int) == 0)=false:=rfl;have e1:((([c]:Str).length:Int) == 1)=true:=rfl;have e2:AE (.str [c]) (.int .i64 0)=some (.int .u8 (c.toNat:Int)):=rfl;have h2:=fun H=>hX.count s c H
 simp (maxSteps:=3000000) (maxDischargeDepth:=6) +contextual -implicitDefEqProofs only [amC M,↓amD,Nat.reduceBEq,Nat.reduceAdd,env,ag,vC,e0,e1,e2,h2,List.getElem?_cons_zero,tt]
def jn(c:UInt8):Bool:=(c == 92)||(c == 60)||(c == 123)
def L3(b:UInt8):List AV:=[.int .u8 (b.toNat:Int)]
def ri(c:UInt8):AV:=.slice .any 1 (([92,c]:Str).map L3)
def yy(c:UInt8):AV:=sel (jn c) (ri c) (.slice .nil 1 [])
def sM:List AV:=(List.range 256).map fun i=>yy (UInt8.ofNat i)
theorem yz:sM.length=256:=by simp [sM]
theorem DT(c:UInt8)(t:List AV):bW none (sM++t) c.toNat=some (yy c):=by
 have h:=c.toNat_lt;simp only [bW];rw [List.getElem?_append_left (by rw [yz];omega)];unfold sM;rw [List.getElem?_map,List.getElem?_range (by omega),Option.map_some,UInt8.ofNat_toNat]
theorem JG(v:AV):bW none (sM++[v]) 256=some v:=by
 simp only [bW];rw [List.getElem?_append_right (by rw [yz];omega),yz];rfl
theorem HT(q:Nat)(c:UInt8):wZ 256 1 (.ptr q 0) (.int .u8 (c.toNat:Int))=some (.ptr q c.toNat):=by
 have h:=c.toNat_lt;simp only [wZ];rw [if_pos ⟨by omega,by omega⟩];simp
theorem ER(c:UInt8):req .sl (yy c) (.slice .nil 0 [])=some (!jn c):=by
 unfold yy;cases jn c<;>rfl
theorem po(c:UInt8)(t:Str):eM (c::t)=(if jn c=true then [92,c] else [c])++eM t:=rfl
theorem CO(a b:Str):eM (a++b)=eM a++eM b:=by simp [eM]
def spc(s:Str):Nat:=s.countP jn
theorem tS:∀ s:Str,(eM s).length=s.length+spc s
 |[]=>rfl
 |c::t=>by
  rw [po,List.length_append,tS t,List.length_cons,spc,spc,List.countP_cons];cases jn c<;>simp<;>omega
theorem Bn:∀ {s:Str},s.any jn=false→eM s=s
 |[],_=>rfl
 |c::t,h=>by
  rw [List.any_cons,Bool.or_eq_false_iff] at h;rw [po,h.1,Bn h.2];rfl
theorem Bo:∀ s:Str,spc s=Lib.countByte s 123+Lib.countByte s 60+Lib.countByte s 92
 |[]=>rfl
 |c::t=>by
  have ih:=Bo t;unfold spc Lib.countByte at *
  rw [List.countP_cons,List.count_cons,List.count_cons,List.count_cons,ih];unfold jn
  by_cases h1:c=92
  ·subst h1;simp;omega
  ·by_cases h2:c=60
   ·subst h2;simp;omega
   ·by_cases h3:c=123
    ·subst h3;simp;omega
    ·simp [h1,h2,h3]
theorem JH(s:Str):s.any jn = !(spc s == 0):=by
 unfold spc;rw [Bool.eq_iff_iff];simp [List.any_eq_true,List.countP_eq_zero]
theorem HU(c:UInt8)(t:Str):spc (c::t)=(if jn c=true then 1 else 0)+spc t:=by
 unfold spc;rw [List.countP_cons];cases jn c<;>simp;omega
theorem Lb{q:Nat}{tv:AV}{T:TypeId}{s:Str}(hs:s.length≤bN){H H0:List AObj}(hq:H[q]?=some (.cells (sM++[tv]) T))(k:List Fra):∀ (n i m:Nat) (b:Bool) (He:List AObj),i+n=s.length→m≤s.length+i →
  M.go aD H0 (.c aY :: .lp ⟨(some [0,1,5,6,10]),[],false⟩ aY He :: .blk 2 :: .c (.lv [0,1,5,6])::k) (kv [(0,.ptr q 0),(1,.str s),(5,.int .i64 m),(6,.bool b),(10,.int .i64 i)]) H =
   M.go aD H0 k (kv [(0,.ptr q 0),(1,.str s),(5,.int .i64 ((m+spc (s.drop i):Nat):Int)),(6,.bool (b||(s.drop i).any jn))]) H
 |0,i,m,b,He,h,hm=>by
  have e:i=s.length:=by omega
  subst e;rw [List.drop_length,show spc []=0 from rfl,Nat.add_zero,List.any_nil,Bool.or_false];rw [ak M aY.eq_1];simp (maxSteps:=3000000) (maxDischargeDepth:=6) +contextual -implicitDefEqProofs only [amC M,↓amD,Nat.reduceBEq,Nat.reduceAdd,env,ag,aE,Nat.lt_irrefl]
 |n+1,i,m,b,He,h,hm=>by
  have hi:i<s.length:=by omega
  have hx:s[i]?=some s[i]:=List.getElem?_eq_getElem hi;have hwi:=en (n:=s.length) hi hs;rw [List.drop_eq_getElem_cons hi,HU,List.any_cons];generalize s[i]=c at *
  have hen:=ER c;have hld:=DT c [tv];have hia:=HT q c;cases hc:jn c with
  |true=>
   have ih:=fun He=>Lb hs hq (H0:=H0) k n (i+1) (m+1) true He (by omega) (by omega)
   simp only [kv_cons,kv_nil] at ih;have hev:yy c=ri c:=by unfold yy;rw [hc,sel_true]
   have hl2:oI H .sl (ri c)=some (.int .i64 2):=rfl;rw [hev] at hen hld;rw [hc] at hen;have hw2:IntKind.i64.wrap ((2:Int)-1)=1:=rfl;have hw3:IntKind.i64.wrap ((m:Int)+1)=((m+1:Nat):Int):=by simp only [bN] at hs;rw [eX (by omega) (by omega)];rfl
   rw [if_pos rfl,Bool.true_or,Bool.or_true,← Nat.add_assoc];rw [Bool.true_or] at ih;rw [ak M aY.eq_1];simp (maxSteps:=3000000) (maxDischargeDepth:=6) +contextual -implicitDefEqProofs only [amC M,↓amD,Nat.reduceBEq,Nat.reduceAdd,env,ag,aE,amG,AV.cell,Nat.reduceMul,Nat.reduceLeDiff,hi,hx,hq,hia,hld,hen,hl2,hw2,hw3,hwi,rnc,ih]
  |false=>
   have ih:=fun He=>Lb hs hq (H0:=H0) k n (i+1) m b He (by omega) (by omega)
   simp only [kv_cons,kv_nil] at ih;rw [hc] at hen;rw [if_neg (by simp),Bool.false_or,Nat.zero_add];rw [ak M aY.eq_1];simp (maxSteps:=3000000) (maxDischargeDepth:=6) +contextual -implicitDefEqProofs only [amC M,↓amD,Nat.reduceBEq,Nat.reduceAdd,env,ag,aE,amG,AV.cell,Nat.reduceMul,Nat.reduceLeDiff,hi,hx,hq,hia,hld,hen,hwi,rnc,ih]
def ot(s:Str):List AV:=s.map fun b=>AV.int .u8 (b.toNat:Int)
def FX(s:Str)(i:Nat):List AV:=ot (eM (s.take i))++List.replicate (eM (s.drop i)).length (.int .u8 0)
theorem CP:∀ s:Str,oG (ot s)=some s
 |[]=>rfl
 |c::t=>by
  show (oG (ot t)).map _=_;rw [CP t];simp
theorem HV(A:List AV)(m:Nat)(z x:AV):bC (A++List.replicate (m+1) z) A.length [x]=A++([x]++List.replicate m z):=by
 rw [setRow_cons,setRow_nil,List.set_append_right _ _ (Nat.le_refl _),Nat.sub_self,List.replicate_succ,List.set_cons_zero];simp
theorem HW(A:List AV)(m:Nat)(z x y:AV):bC (A++List.replicate (m+2) z) A.length [x,y]=A++([x,y]++List.replicate m z):=by
 rw [setRow_cons,setRow_cons,setRow_nil,List.set_append_right _ _ (Nat.le_refl _),Nat.sub_self,List.set_append_right _ _ (by omega),show A.length+1-A.length=1 by omega,List.replicate_succ,List.replicate_succ,List.set_cons_zero,List.set_cons_succ,List.set_cons_zero];simp
theorem rj(s:Str):(ot s).length=s.length:=by simp [ot]
theorem CQ(a b:Str):ot (a++b)=ot a++ot b:=by simp [ot]
theorem L4{q:Nat}{tv:AV}{T:TypeId}{s:Str}(hs:s.length≤bN){H H0:List AObj}(hq:H[q]?=some (.cells (sM++[tv]) T))(k:List Fra):∀ (n i:Nat) (He:List AObj),i+n=s.length →
  M.go aD H0 (.c br :: .lp ⟨(some [0,1,12,13,14]),[],false⟩ br He :: .blk 4 :: .c (.lv [12])::k) (kv [(0,.ptr q 0),(1,.str s),(12,.rslice H.length 0 (eM s).length 1 true),(13,.int .i64 ((eM (s.take i)).length:Int)),(14,.int .i64 i)]) (H++[.cells (FX s i) dk]) =
   M.go aD H0 k (kv [(12,.rslice H.length 0 (eM s).length 1 true)]) (H++[.cells (ot (eM s)) dk])
 |0,i,He,h=>by
  have e:i=s.length:=by omega
  subst e;rw [FX,List.take_length,List.drop_length,show eM []=[] from rfl,List.length_nil,List.replicate_zero,List.append_nil];rw [ak M br.eq_1];simp (maxSteps:=3000000) (maxDischargeDepth:=6) +contextual -implicitDefEqProofs only [amC M,↓amD,Nat.reduceBEq,Nat.reduceAdd,env,ag,aE,Nat.lt_irrefl]
 |n+1,i,He,h=>by
  have hi:i<s.length:=by omega
  have hx:s[i]?=some s[i]:=List.getElem?_eq_getElem hi;have hwi:=en (n:=s.length) hi hs;have ih:=fun He=>L4 hs hq (H0:=H0) k n (i+1) He (by omega)
  have htk:s.take (i+1)=s.take i++[s[i]]:=by rw [List.take_add_one,hx];rfl
  have hdr:s.drop i=s[i]::s.drop (i+1):=List.drop_eq_getElem_cons hi;have hsl:=tS s;have hsum:(eM s).length=(eM (s.take i)).length+(eM (s.drop i)).length:=by rw [← List.length_append,← CO,List.take_append_drop]
  have hspc:spc s≤s.length:=List.countP_le_length;have hq1:∀ X,(H++X)[q]?=_:=fun X=>iw hq
  have hbl:=rj (eM (s.take i));unfold FX at ih ⊢;rw [htk,CO] at ih;rw [hdr,po] at hsum ⊢;rw [show eM [s[i]]=(if jn s[i]=true then [92,s[i]] else [s[i]])++eM [] from po _ _,show eM []=[] from rfl,List.append_nil] at ih;generalize s[i]=c at *
  have hen:=ER c;have hld:=DT c [tv];have hia:=HT q c;generalize eM (s.take i)=A at *
  generalize eM (s.drop (i+1))=B at *
  simp only [bN] at hs;cases hc:jn c with
  |true=>
   rw [if_pos hc] at ih hsum;rw [if_pos rfl];rw [CQ] at ih;have hev:yy c=ri c:=by unfold yy;rw [hc,sel_true]
   rw [hev] at hen hld;rw [hc] at hen;simp only [List.length_append,List.length_cons,List.length_nil,List.append_assoc] at ih hsum ⊢;rw [show 0+1+1+B.length=B.length+2 by omega] at hsum ⊢
   have hsll:C8 1 (.rslice H.length 0 (eM s).length 1 true) (some (.int .i64 (A.length:Int))) none none=some (.rslice H.length (A.length*1) ((eM s).length-A.length) 1 true):=by
    simp only [C8,dm];rw [if_pos (Int.natCast_nonneg _)];simp only [Int.toNat_natCast];rw [if_pos ⟨trivial,by omega,by omega⟩,Nat.zero_add]
   have hcp:rcp (H++[.cells (ot A++List.replicate (B.length+2) (.int .u8 0)) dk]) 1 false (.rslice H.length (A.length*1) ((eM s).length-A.length) 1 true) (ri c)=some (.int .i64 2,H++[.cells (ot A++(ot [92,c]++List.replicate B.length (.int .u8 0))) dk]):=by
    have hsr:=HW (ot A) B.length (.int .u8 0) (.int .u8 ((92:UInt8).toNat:Int)) (.int .u8 (c.toNat:Int));rw [hbl] at hsr;simp only [rcp,ri,nZ,aP,List.getElem?_cons_zero];simp only [or_true,if_true];rw [aP];simp only [List.getElem?_cons_zero];rw [if_pos ⟨trivial,by simp [rj];omega,by simp;omega,rfl⟩,hp_set0,List.set_cons_zero,Nat.mul_one,show ((([92,c]:Str).map L3).flatten)=[.int .u8 ((92:UInt8).toNat:Int),.int .u8 (c.toNat:Int)] from rfl,hsr]
    rfl
   have hw2:IntKind.i64.wrap ((A.length:Int)+2)=((A.length+2:Nat):Int):=by rw [eX (by omega) (by omega)];rfl
   simp only [kv_cons,kv_nil] at ih;rw [show A.length+(0+1+1)=A.length+2 by omega] at ih;rw [ak M br.eq_1];simp (maxSteps:=3000000) (maxDischargeDepth:=6) +contextual -implicitDefEqProofs only [amC M,↓amD,Nat.reduceBEq,Nat.reduceAdd,env,ag,aE,amG,AV.cell,Nat.reduceMul,Nat.reduceLeDiff,hi,hx,hq1,hia,hld,hen,hsll,hcp,hw2,hwi,rnc,ih]
  |false=>
   rw [if_neg (by simp [hc])] at ih hsum;rw [if_neg (by simp)];rw [CQ] at ih;rw [hc] at hen;simp only [List.length_append,List.length_cons,List.length_nil,List.append_assoc] at ih hsum ⊢;rw [show 0+1+B.length=B.length+1 by omega] at hsum ⊢
   have hias:pC 1 (.rslice H.length 0 (eM s).length 1 true) (.int .i64 (A.length:Int))=some (.ptr H.length (A.length*1)):=by
    simp only [pC];rw [if_pos ⟨trivial,by omega,by simp;omega⟩];simp
   have hst:stO 1 (H++[.cells (ot A++List.replicate (B.length+1) (.int .u8 0)) dk]) H.length (A.length*1) [.int .u8 (c.toNat:Int)] (some (.cells (ot A++List.replicate (B.length+1) (.int .u8 0)) dk))=some (H++[.cells (ot A++(ot [c]++List.replicate B.length (.int .u8 0))) dk]):=by
    have hsr:=HV (ot A) B.length (.int .u8 0) (.int .u8 (c.toNat:Int));rw [hbl] at hsr;rw [stO_cells (sz:=1) rfl (by simp [rj]) rfl,Nat.mul_one,hsr,hp_set0,List.set_cons_zero];rfl
   have hw2:IntKind.i64.wrap ((A.length:Int)+1)=((A.length+1:Nat):Int):=by rw [eX (by omega) (by omega)];rfl
   simp only [kv_cons,kv_nil] at ih;rw [show A.length+(0+1)=A.length+1 by omega] at ih;rw [ak M br.eq_1];simp (maxSteps:=3000000) (maxDischargeDepth:=6) +contextual -implicitDefEqProofs only [amC M,↓amD,Nat.reduceBEq,Nat.reduceAdd,env,ag,aE,amG,AV.cell,Nat.reduceMul,Nat.reduceLeDiff,hi,hx,hq1,hia,hld,hen,hias,hst,hw2,hwi,rnc,aP,List.getElem?_cons_zero,ih]
end
section
attribute [local congr] aw bw aR aA aQ aH aC al ao aI aJ
variable{E:bc}(M:bM b4 E)
structure HX (E:bc):Prop where
 strings_Replacer_build:E.fn fD=some fI
 strings_Replacer_buildOnce:E.fn bh=some eL
def cX:List Str:=[[92],[92,92],[60],[92,60],[123],[92,123]]
def nf:List Str:=[[123],[60],[92]]
def kI(n:Nat):List AV:=(List.range 256).map fun i=>if (i=123∧1≤n)∨(i=60∧2≤n)∨(i=92∧3≤n) then ri (UInt8.ofNat i) else .slice .nil 1 []
theorem DU:∀ (x y rest:List AV),x.length=y.length→bC (x++rest) 0 y=y++rest:=fun x y=>by
 have key:∀ (y x A rest:List AV),x.length=y.length→bC (A++(x++rest)) A.length y=A++(y++rest):=by
  intro y;induction y with
  |nil=>intro x A rest h;rw [setRow_nil,List.length_eq_zero_iff.1 h]
  |cons v y ih=>
   intro x A rest h;cases x with
   |nil=>simp at h
   |cons u x=>
    rw [setRow_cons,List.set_append_right _ _ (Nat.le_refl _),Nat.sub_self,List.cons_append,List.set_cons_zero];have:=ih x (A++[v]) rest (by simpa using h);simpa using this
 exact fun rest h=>by simpa using key y x [] rest h
theorem je(n:Nat):(kI n).length=256:=by simp [kI]
theorem Lc(v:AV):(List.replicate 257 (AV.slice .nil 1 [])).set 256 v=kI 0++[v]:=by
 have:kI 0=List.replicate 256 (.slice .nil 1 []):=by
  refine List.ext_getElem? fun i => ?_
  unfold kI;rw [List.getElem?_map,List.getElem?_replicate]
  by_cases hi:i<256
  ·rw [List.getElem?_range hi,if_pos hi,Option.map_some,if_neg (by omega)]
  ·rw [List.getElem?_eq_none (by simp;omega),if_neg hi];rfl
 rw [this,show (257:Nat)=256+1 from rfl,List.replicate_succ',List.set_append_right _ _ (by simp)];simp
theorem Ld:kI 3=sM:=by
 unfold kI sM;refine List.map_congr_left fun i hi => ?_
 have hi:i<256:=by simpa using hi
 unfold yy jn;have e:(UInt8.ofNat i).toNat=i:=by simp [UInt8.toNat_ofNat];omega
 have h:∀ k:UInt8,(UInt8.ofNat i == k)=decide (i=k.toNat):=fun k=>by
  rw [Bool.eq_iff_iff,beq_iff_eq,decide_eq_true_eq];exact ⟨fun hh=>by rw [← hh,e],fun hh=>UInt8.toNat_inj.1 (by rw [e,hh])⟩
 rw [h,h,h]
 by_cases h1:i=92
 ·subst h1;rfl
 ·by_cases h2:i=60
  ·subst h2;rfl
  ·by_cases h3:i=123
   ·subst h3;rfl
   ·simp [h1,h2,h3,sel]
theorem Bp(n c:Nat)(hc:c<256)(v:AV):bW none (kI n++[v]) c=some (if (c=123∧1≤n)∨(c=60∧2≤n)∨(c=92∧3≤n) then ri (UInt8.ofNat c) else .slice .nil 1 []):=by
 simp only [bW];rw [List.getElem?_append_left (by rw [je];exact hc)];unfold kI;rw [List.getElem?_map,List.getElem?_range hc];rfl
theorem HY(n c:Nat)(hc:c<256)(h:∀ i,((i=123∧1≤n+1)∨(i=60∧2≤n+1)∨(i=92∧3≤n+1))↔(i=c∨((i=123∧1≤n)∨(i=60∧2≤n)∨(i=92∧3≤n))))(v:AV):(kI n++[v]).set c (ri (UInt8.ofNat c))=kI (n+1)++[v]:=by
 rw [List.set_append_left _ _ (by rw [je];exact hc)];congr 1;refine List.ext_getElem? fun i => ?_
 by_cases hi:i=c
 ·subst hi
  rw [List.getElem?_set_self (by rw [je];exact hc)];unfold kI;rw [List.getElem?_map,List.getElem?_range hc,Option.map_some,if_pos ((h i).2 (.inl rfl))]
 ·rw [List.getElem?_set_ne (fun e=>hi e.symm)]
  unfold kI;rw [List.getElem?_map,List.getElem?_map]
  by_cases h2:i<256
  ·rw [List.getElem?_range h2,Option.map_some,Option.map_some]
   congr 1;have:=h i
   by_cases h3:(i=123∧1≤n)∨(i=60∧2≤n)∨(i=92∧3≤n)
   ·rw [if_pos h3,if_pos (this.2 (.inr h3))]
   ·rw [if_neg h3,if_neg (fun hh=>by rcases this.1 hh with e | e;exact hi e;exact h3 e)]
  ·rw [List.getElem?_eq_none (by simp;omega)];rfl
theorem DV:∀ (a b:List AV),a.length=b.length→bC a 0 b=b:=fun a b h=>by
 have:=DU a b [] h;simpa using this
theorem FY(n:Nat)(v:AV)(hv:v.cell=true):(kI n++[v]).all AV.cell=true:=by
 rw [List.all_append,Bool.and_eq_true];refine ⟨List.all_eq_true.2 fun x hx => ?_,by rw [List.all_cons,hv];rfl⟩;unfold kI at hx;obtain ⟨i,_,rfl⟩:=List.mem_map.1 hx;split<;>rfl
def tvB(q:Nat)(l:List Str):AV:=match l with
 |[]=>.rslice q 0 0 1 true
 |x::l=>.slice (.own q) 1 ((x::l).map bK)
def xB(l:List Str):AObj:=match l with
 |[]=>.cells [.str [],.str [],.str []] aO
 |x::l=>.tok ((x::l).length*1) aO
theorem L5(H:List AObj)(B:AObj)(l:List Str)(hl:l.length≤100)(s:Str):rap false (H++[xB l,B]) aO 1 16 false (tvB H.length l) (.slice .full 1 [[.str s]])=some (tvB H.length (l++[s]),H++[xB (l++[s]),B]):=by
 cases l with
 |nil=>
  have:=EO (row:=bK) (l:=[]) (x:=s) (r:=[.str s]) (sz:=1) (bytes:=16) (e:=aO) H [B] rfl rfl rfl (by simp) (by simp);simp only [List.map_nil,List.length_nil,Nat.zero_mul] at this;have e0:(H++[AObj.cells [.str [],.str [],.str []] aO,B])[H.length]?=some (AObj.cells [.str [],.str [],.str []] aO):=by rw [aP];rfl
  simp only [tvB,xB,rap,e0];rw [hp_set0,List.set_cons_zero];have e:rap false (H++[.tok 0 aO,B]) aO 1 16 false (.slice (.own H.length) 1 []) (.slice .full 1 [[.str s]])=uh (H++[.tok 0 aO,B]) aO 1 16 false (.slice (.own H.length) 1 []) (.slice .full 1 [[.str s]]):=rfl;rw [← e];exact this
 |cons x l=>exact EO (row:=bK) (l:=x::l) (x:=s) (r:=[.str s]) (sz:=1) (bytes:=16) (e:=aO) H [B] rfl rfl rfl (by simp at hl ⊢;omega) (by simp at hl ⊢;omega)
theorem CR(q:Nat)(l:List Str):(tvB q l).cell=true∧cG (tvB q l)=some [tvB q l]:=by
 cases l<;>exact ⟨rfl,rfl⟩
theorem DW(n:Nat)(v:AV):bW none (kI n++[v]) 256=some v:=by
 simp only [bW];rw [List.getElem?_append_right (by rw [je];omega),je];rfl
theorem Mp(H:List AObj)(x:AObj)(n:Nat)(v v':AV)(T:TypeId)(h:v'.cell=true):stO 1 (H++[x,.cells (kI n++[v]) T]) (H.length+1) 256 [v'] (some (.cells (kI n++[v]) T))=some (H++[x,.cells (kI n++[v']) T]):=by
 rw [stO_cells (sz:=1) rfl (by simp [je]) (by simp [h]),setRow_cons,setRow_nil,hp_setk,List.set_append_right _ _ (by rw [je];omega),je];rfl
theorem Lg(H:List AObj)(x:AObj)(n c:Nat)(hc:c<256)(h:∀ i,((i=123∧1≤n+1)∨(i=60∧2≤n+1)∨(i=92∧3≤n+1))↔(i=c∨((i=123∧1≤n)∨(i=60∧2≤n)∨(i=92∧3≤n))))(v:AV)(T:TypeId) :
  stO 1 (H++[x,.cells (kI n++[v]) T]) (H.length+1) c [ri (UInt8.ofNat c)] (some (.cells (kI n++[v]) T))=some (H++[x,.cells (kI (n+1)++[v]) T]):=by
 rw [stO_cells (sz:=1) rfl (by simp [je];omega) rfl,setRow_cons,setRow_nil,hp_setk,HY n c hc h];rfl
theorem FZ(hR:HX E){H:List AObj}{r:Nat}{a b c d:AV}{tg:Tag}{T:TypeId}(hr:H[r]?=some (.cells [a,b,c,d,.slice tg 1 (cX.map bK)] T)) :
  ∃ tg',M.run fD [.ptr r 0] H=some (.ret (.iface aZ (.ptr (H.length+1) 0)),H++[.tok 3 aO,.cells (sM++[.slice tg' 1 (nf.map bK)]) aT]):=by
 refine ⟨.own H.length, ?_⟩;have l4:∀ a b c d e:AV,bW none [a,b,c,d,e] 4=some e:=fun _ _ _ _ _=>rfl
 have hln:∀ G,oI G .sl (.slice tg 1 (cX.map bK))=some (.int .i64 6):=fun _=>rfl
 have x:=fun i hi=>bt (row:=bK) (l:=cX) (tag:=tg) (sz:=1) (k:=.i64) (i:=i) hi
 have x0:pC 1 (.slice tg 1 (cX.map bK)) (.int .i64 0)=some (.vptr 1 (cX.map bK) 0 0):=x 0 (by decide);have x1:pC 1 (.slice tg 1 (cX.map bK)) (.int .i64 1)=some (.vptr 1 (cX.map bK) 1 0):=x 1 (by decide);have x2:pC 1 (.slice tg 1 (cX.map bK)) (.int .i64 2)=some (.vptr 1 (cX.map bK) 2 0):=x 2 (by decide);have x3:pC 1 (.slice tg 1 (cX.map bK)) (.int .i64 3)=some (.vptr 1 (cX.map bK) 3 0):=x 3 (by decide)
 have x4:pC 1 (.slice tg 1 (cX.map bK)) (.int .i64 4)=some (.vptr 1 (cX.map bK) 4 0):=x 4 (by decide);have x5:pC 1 (.slice tg 1 (cX.map bK)) (.int .i64 5)=some (.vptr 1 (cX.map bK) 5 0):=x 5 (by decide);have p0:cX[0]?=some [92]:=rfl;have p1:cX[1]?=some [92,92]:=rfl;have p2:cX[2]?=some [60]:=rfl;have p3:cX[3]?=some [92,60]:=rfl;have p4:cX[4]?=some [123]:=rfl;have p5:cX[5]?=some [92,123]:=rfl;have hsr:∀ s:Str,bK s=[.str s]:=fun _=>rfl
 have hpl:((cX.length:Nat):Int)=6:=rfl;have c62:((6:Int) == 2)=false:=rfl;have d06:decide ((0:Int)<6)=true:=rfl;have d26:decide ((2:Int)<6)=true:=rfl;have d46:decide ((4:Int)<6)=true:=rfl;have d66:decide ((6:Int)<6)=false:=rfl;have g4:decide ((0:Int)≤4)=true:=rfl;have g2:decide ((0:Int)≤2)=true:=rfl;have g0:decide ((0:Int)≤0)=true:=rfl;have gn:decide ((0:Int)≤-2)=false:=rfl;have w01:IntKind.i64.wrap ((0:Int)+1)=1:=rfl
 have w21:IntKind.i64.wrap ((2:Int)+1)=3:=rfl;have w41:IntKind.i64.wrap ((4:Int)+1)=5:=rfl;have w02:IntKind.i64.wrap ((0:Int)+2)=2:=rfl;have w22:IntKind.i64.wrap ((2:Int)+2)=4:=rfl;have w42:IntKind.i64.wrap ((4:Int)+2)=6:=rfl;have m62:IntKind.i64.wrap ((6:Int)-2)=4:=rfl;have m42:IntKind.i64.wrap ((4:Int)-2)=2:=rfl;have m22:IntKind.i64.wrap ((2:Int)-2)=0:=rfl;have m02:IntKind.i64.wrap ((0:Int)-2) = -2:=rfl
 have l1:∀ c:UInt8,((([c]:Str).length:Nat):Int)=1:=fun _=>rfl
 have l2:∀ c d:UInt8,((([c,d]:Str).length:Nat):Int)=2:=fun _ _=>rfl
 have c11:(((1:Nat):Int) == 1)=true:=rfl;have c21:(((2:Nat):Int) == 1)=false:=rfl;have hq3:jq .quo .i64 6 2=some (.int .i64 3):=rfl;have hms:rms H aO 16 [.str []] (.int .i64 0) (.int .i64 3)=some (.rslice H.length 0 0 1 true,H++[.cells [.str [],.str [],.str []] aO]):=rfl
 have haf:uv (fun x=>([(0,256),(256,1)]:List (Nat×Nat))[x]?) (List.replicate 257 (.slice .nil 1 [])) [] (some (256,1)) (some [.rslice H.length 0 0 1 true])=some (kI 0++[tvB H.length []]):=by
  rw [← Lc];rfl
 have hs0:stO 257 (H++[.cells [.str [],.str [],.str []] aO,.cells (List.replicate 257 (.slice .nil 1 [])) aT]) (H.length+1) 0 (kI 0++[tvB H.length []]) (some (.cells (List.replicate 257 (.slice .nil 1 [])) aT))=some (H++[xB [],.cells (kI 0++[tvB H.length []]) aT]):=by
  rw [stO_cells (sz:=257) (by simp [je]) (by simp) (FY 0 _ rfl),hp_setk,DV _ _ (by simp [je])];rfl
 rw [bJ M hR.strings_Replacer_build rfl (c:=fH) rfl,fH];simp (maxSteps:=3000000) (maxDischargeDepth:=6) +contextual -implicitDefEqProofs only [amC M,↓amD,Nat.reduceBEq,Nat.reduceAdd,env,ag,bF,amG,AV.cell,Nat.reduceMul,Nat.reduceLeDiff,rnc,hr,l4,hln,x0,x1,x2,x3,x4,x5,p0,p1,p2,p3,p4,p5,hsr,hpl,c62];rw [ak M cV.eq_1];simp (maxSteps:=3000000) (maxDischargeDepth:=6) +contextual -implicitDefEqProofs only [amC M,↓amD,Nat.reduceBEq,Nat.reduceAdd,env,ag,bF,amG,AV.cell,Nat.reduceMul,Nat.reduceLeDiff,x0,x1,p0,p1,hsr,hpl,d06,l1,l2,c11,c21,w01,w02]
 rw [ak M cV.eq_1];simp (maxSteps:=3000000) (maxDischargeDepth:=6) +contextual -implicitDefEqProofs only [amC M,↓amD,Nat.reduceBEq,Nat.reduceAdd,env,ag,bF,amG,AV.cell,Nat.reduceMul,Nat.reduceLeDiff,x2,x3,p2,p3,hsr,hpl,d26,l1,l2,c11,c21,w21,w22];rw [ak M cV.eq_1];simp (maxSteps:=3000000) (maxDischargeDepth:=6) +contextual -implicitDefEqProofs only [amC M,↓amD,Nat.reduceBEq,Nat.reduceAdd,env,ag,bF,amG,AV.cell,Nat.reduceMul,Nat.reduceLeDiff,x4,x5,p4,p5,hsr,hpl,d46,l1,l2,c11,c21,w41,w42]
 rw [ak M cV.eq_1];simp (maxSteps:=3000000) (maxDischargeDepth:=6) +contextual -implicitDefEqProofs only [amC M,↓amD,Nat.reduceBEq,Nat.reduceAdd,env,ag,bF,amG,AV.cell,Nat.reduceMul,Nat.reduceLeDiff,hsr,hpl,d66,m62,hq3,hms,haf,hs0,aP,hp_getk,hp_set0,hp_setk,List.getElem?_cons_zero,List.getElem?_cons_succ,List.append_assoc,List.cons_append,List.nil_append];have bo:∀ c:UInt8,tt ([c]:Str)[0]?=some (.int .u8 (c.toNat:Int)):=fun _=>rfl
 have iab1:∀ q:Nat,wZ 256 1 (.ptr q 0) (.int .u8 ((123:Nat):Int))=some (.ptr q 123):=fun q=>by simp [wZ]
 have ia2:∀ q:Nat,wZ 256 1 (.ptr q 0) (.int .u8 ((60:Nat):Int))=some (.ptr q 60):=fun q=>by simp [wZ]
 have ia3:∀ q:Nat,wZ 256 1 (.ptr q 0) (.int .u8 ((92:Nat):Int))=some (.ptr q 92):=fun q=>by simp [wZ]
 have n1:((123:UInt8).toNat:Int)=((123:Nat):Int):=rfl;have n2:((60:UInt8).toNat:Int)=((60:Nat):Int):=rfl;have n3:((92:UInt8).toNat:Int)=((92:Nat):Int):=rfl;have eqn:req .sl (.slice .nil 1 []) (.slice .nil 0 [])=some true:=rfl;have k1:∀ v,bW none (kI 0++[v]) 123=some (.slice .nil 1 []):=fun v=>Bp 0 123 (by omega) v
 have k2:∀ v,bW none (kI 1++[v]) 60=some (.slice .nil 1 []):=fun v=>Bp 1 60 (by omega) v
 have k3:∀ v,bW none (kI 2++[v]) 92=some (.slice .nil 1 []):=fun v=>Bp 2 92 (by omega) v
 have hap:=fun l hl s B=>L5 H B l hl s
 have a1:∀ B,rap false (H++[xB [],B]) aO 1 16 false (tvB H.length []) (.slice .full 1 [[.str [123]]])=some (tvB H.length [[123]],H++[xB [[123]],B]):=fun B=>hap [] (by simp) [123] B
 have a2:∀ B,rap false (H++[xB [[123]],B]) aO 1 16 false (tvB H.length [[123]]) (.slice .full 1 [[.str [60]]])=some (tvB H.length [[123],[60]],H++[xB [[123],[60]],B]):=fun B=>hap [[123]] (by simp) [60] B
 have a3:∀ B,rap false (H++[xB [[123],[60]],B]) aO 1 16 false (tvB H.length [[123],[60]]) (.slice .full 1 [[.str [92]]])=some (tvB H.length [[123],[60],[92]],H++[xB [[123],[60],[92]],B]):=fun B=>hap [[123],[60]] (by simp) [92] B
 have v1:∀ G,rZ G (.slice .full 1 [[.int .u8 ((123:Nat):Int)]])=some (.str [123]):=fun _=>rfl
 have v2:∀ G,rZ G (.slice .full 1 [[.int .u8 ((60:Nat):Int)]])=some (.str [60]):=fun _=>rfl
 have v3:∀ G,rZ G (.slice .full 1 [[.int .u8 ((92:Nat):Int)]])=some (.str [92]):=fun _=>rfl
 have tc:=fun l=>(CR H.length l).2
 have sT:=fun x n v l=>Mp H x n v (tvB H.length l) aT (CR H.length l).1
 have sC1:=fun x v=>Lg H x 0 123 (by omega) (fun i=>by omega) v aT
 have sC2:=fun x v=>Lg H x 1 60 (by omega) (fun i=>by omega) v aT
 have sC3:=fun x v=>Lg H x 2 92 (by omega) (fun i=>by omega) v aT
 have cb1:zO (.str [92,123])=some (ri (UInt8.ofNat 123)):=rfl;have cb2:zO (.str [92,60])=some (ri (UInt8.ofNat 60)):=rfl;have cb3:zO (.str [92,92])=some (ri (UInt8.ofNat 92)):=rfl;have rc:∀ c,cG (ri c)=some [ri c]:=fun _=>rfl
 rw [ak M cW.eq_1];simp (maxSteps:=3000000) (maxDischargeDepth:=6) +contextual -implicitDefEqProofs only [amC M,↓amD,Nat.reduceBEq,Nat.reduceAdd,env,ag,bF,amG,AV.cell,Nat.reduceMul,Nat.reduceLeDiff,g4,m42,x4,x5,p4,p5,w41,hsr,bo,n1,iab1,k1,v1,eqn,DW,a1,tc,sT,sC1,cb1,rc,hp_getk,Nat.zero_add,List.getElem?_cons_zero,List.getElem?_cons_succ];rw [ak M cW.eq_1];simp (maxSteps:=3000000) (maxDischargeDepth:=6) +contextual -implicitDefEqProofs only [amC M,↓amD,Nat.reduceBEq,Nat.reduceAdd,env,ag,bF,amG,AV.cell,Nat.reduceMul,Nat.reduceLeDiff,g2,m22,x2,x3,p2,p3,w21,hsr,bo,n2,ia2,k2,v2,eqn,DW,a2,tc,sT,sC2,cb2,rc,hp_getk,List.getElem?_cons_zero,List.getElem?_cons_succ]
 rw [ak M cW.eq_1];simp (maxSteps:=3000000) (maxDischargeDepth:=6) +contextual -implicitDefEqProofs only [amC M,↓amD,Nat.reduceBEq,Nat.reduceAdd,env,ag,bF,amG,AV.cell,Nat.reduceMul,Nat.reduceLeDiff,g0,m02,x0,x1,p0,p1,w01,hsr,bo,n3,ia3,k3,v3,eqn,DW,a3,tc,sT,sC3,cb3,rc,hp_getk,List.getElem?_cons_zero,List.getElem?_cons_succ];rw [ak M cW.eq_1];simp (maxSteps:=3000000) (maxDischargeDepth:=6) +contextual -implicitDefEqProofs only [amC M,↓amD,Nat.reduceBEq,Nat.reduceAdd,env,ag,bF,amG,AV.cell,Nat.reduceMul,Nat.reduceLeDiff,gn]
 rw [Ld];rfl
theorem zA(hR:HX E){H:List AObj}{r:Nat}{a b c d:AV}{tg:Tag}{T:TypeId}(hr:H[r]?=some (.cells [a,b,c,d,.slice tg 1 (cX.map bK)] T)) :
  ∃ tg',M.run bh [.ptr r 0] H=some (.ret (.tuple []),(H++[AObj.tok 3 aO,AObj.cells (sM++[.slice tg' 1 (nf.map bK)]) aT]).set r (AObj.cells [a,b,c,.iface aZ (.ptr (H.length+1) 0),.slice .nil 1 []] T)):=by
 obtain ⟨tg',h1⟩:=FZ M hR hr;refine ⟨tg', ?_⟩;have hl:=gm hr;have g1:∀ X,(H++X)[r]?=_:=fun X=>iw hr
 have gs:∀ (X:List AObj) (o:AObj),((H++X).set r o)[r]?=some o:=fun X o=>List.getElem?_set_self (by simp;omega)
 rw [bJ M hR.strings_Replacer_buildOnce rfl (c:=eK) rfl,eK];simp (maxSteps:=3000000) (maxDischargeDepth:=6) +contextual -implicitDefEqProofs only [amC M,↓amD,Nat.reduceBEq,Nat.reduceAdd,env,ag,lM,amG,AV.cell,Nat.reduceMul,Nat.reduceLeDiff,rnc,h1,g1,gs,List.set_set]
end
section
attribute [local congr] aw bw aR aA aQ aH aC al ao aI aJ
variable{E:bc}(M:bM b4 E)
structure CS (M:bM b4 E):Prop where
 meth:E.meth aZ "Replace" = some bL
 once:∀ (H:List AObj) (r:Nat) (tg:Tag) (T:TypeId),H[r]?=some (.cells [.int .u32 0,.int .i32 0,.int .u32 0,.nilif,.slice tg 1 (cX.map bK)] T) →
  ∃ H' tg' q,M.run iM [.ptr r 0,.fn (.func bh) [.ptr r 0] []] H=some (.ret (.tuple []),H')∧H'[r]?=some (.cells [.int .u32 1,.int .i32 0,.int .u32 0,.iface aZ (.ptr q 0),.slice .nil 1 []] T) ∧
   H'[q]?=some (.cells (sM++[.slice tg' 1 (nf.map bK)]) aT)∧H.length≤H'.length∧∀ i,i<H.length→i≠r→H'[i]?=H[i]?
theorem Lh(hR:wt E)(hX:yx M){q:Nat}{tg:Tag}{s:Str}(hs:s.length≤bN){H H0:List AObj}{T:TypeId}(hq:H[q]?=some (.cells (sM++[.slice tg 1 (nf.map bK)]) T))(k:List Fra):∀ (n i m:Nat) (b:Bool) (He:List AObj),i+n=3→m≤s.length+i*s.length →
  M.go aD H0 (.c aX :: .lp ⟨(some [0,1,5,6,30,31,32]),[],false⟩ aX He :: .blk 0 :: .c (.lv [0,1,5,6])::k) (kv [(0,.ptr q 0),(1,.str s),(5,.int .i64 m),(6,.bool b),(30,.slice tg 1 (nf.map bK)),(31,.int .i64 3),(32,.int .i64 i)]) H =
   M.go aD H0 k (kv [(0,.ptr q 0),(1,.str s),(5,.int .i64 ((m+((nf.drop i).map fun x=>Lib.countByte s (x.getD 0 0)).sum:Nat):Int)),(6,.bool (b||(nf.drop i).any fun x => !(Lib.countByte s (x.getD 0 0) == 0)))]) H
 |0,i,m,b,He,h,hm=>by
  have e:i=3:=by omega
  subst e;have d3:decide (((3:Nat):Int)<3)=false:=rfl;rw [show nf.drop 3=[] from rfl,List.map_nil,List.sum_nil,Nat.add_zero,List.any_nil,Bool.or_false];rw [ak M aX.eq_1];simp (maxSteps:=3000000) (maxDischargeDepth:=6) +contextual -implicitDefEqProofs only [amC M,↓amD,Nat.reduceBEq,Nat.reduceAdd,env,ag,aE,d3]
 |n+1,i,m,b,He,h,hm=>by
  have hi:i<nf.length:=by show i<3;omega
  have hi3:decide ((i:Int)<3)=true:=decide_eq_true (by omega);have hx:nf[i]?=some nf[i]:=List.getElem?_eq_getElem hi
  obtain ⟨c,hc,he⟩:∃ c,nf[i]=[c]∧jn c=true:=by
   have:i=0∨i=1∨i=2:=by omega
   rcases this with rfl | rfl | rfl
   ·exact ⟨123,rfl,rfl⟩
   ·exact ⟨60,rfl,rfl⟩
   ·exact ⟨92,rfl,rfl⟩
  have hwi:IntKind.i64.wrap ((i:Int)+1)=((i+1:Nat):Int):=by rw [eX (by omega) (by omega)];rfl
  have hir:=bt (row:=bK) (l:=nf) (tag:=tg) (sz:=1) (k:=.i64) hi;have hsr:∀ s:Str,bK s=[.str s]:=fun _=>rfl
  have hcn:=fun H=>CN M hR hX s c H
  have hcl:Lib.countByte s c≤s.length:=List.count_le_length;have hi0:tt ([c]:Str)[0]?=some (.int .u8 (c.toNat:Int)):=rfl;have hld:=DT c [.slice tg 1 (nf.map bK)];have hia:=HT q c;have hev:yy c=ri c:=by unfold yy;rw [he,sel_true]
  have hl2:oI H .sl (ri c)=some (.int .i64 2):=rfl;have hw2:IntKind.i64.wrap ((2:Int)-1)=1:=rfl;rw [List.drop_eq_getElem_cons hi,List.map_cons,List.sum_cons,List.any_cons,hc];rw [hc] at hx;rw [hev] at hld;rw [show ([c]:Str).getD 0 0=c from rfl];simp only [bN] at hs;have hm3:i*s.length≤3*s.length:=Nat.mul_le_mul_right _ (by omega);generalize Lib.countByte s c=n1 at *
  cases h0:n1 == 0 with
  |true=>
   have e0:n1=0:=by simpa using h0
   subst e0;have ih:=fun He=>Lh hR hX (by simp only [bN];omega) hq (H0:=H0) k n (i+1) m b He (by omega) (by rw [Nat.add_mul];omega)
   simp only [kv_cons,kv_nil] at ih;have z0:(((0:Nat):Int) == 0)=true:=rfl;rw [Nat.zero_add,Bool.not_true,Bool.false_or];rw [ak M aX.eq_1];simp (maxSteps:=3000000) (maxDischargeDepth:=6) +contextual -implicitDefEqProofs only [amC M,↓amD,Nat.reduceBEq,Nat.reduceAdd,env,ag,aE,amG,AV.cell,Nat.reduceMul,Nat.reduceLeDiff,hi3,hx,hir,hsr,hcn,z0,hwi,ih]
  |false=>
   have ih:=fun He=>Lh hR hX (by simp only [bN];omega) hq (H0:=H0) k n (i+1) (m+n1) true He (by omega) (by rw [Nat.add_mul];omega)
   simp only [kv_cons,kv_nil] at ih
   have z0:((n1:Int) == 0)=false:=by
    rw [beq_eq_false_iff_ne] at h0 ⊢;omega
   have hwm:IntKind.i64.wrap ((n1:Int)*1)=(n1:Int):=by rw [Int.mul_one,eX (by omega) (by omega)]
   have hwa:IntKind.i64.wrap ((m:Int)+(n1:Int))=((m+n1:Nat):Int):=by rw [eX (by omega) (by omega)];rfl
   rw [← Nat.add_assoc,Bool.not_false,Bool.true_or,Bool.or_true];rw [Bool.true_or] at ih;rw [ak M aX.eq_1];simp (maxSteps:=3000000) (maxDischargeDepth:=6) +contextual -implicitDefEqProofs only [amC M,↓amD,Nat.reduceBEq,Nat.reduceAdd,env,ag,aE,amG,AV.cell,Nat.reduceMul,Nat.reduceLeDiff,hi3,hx,hir,hsr,hcn,z0,hq,hi0,hia,hld,hl2,hw2,hwm,hwa,hwi,rnc,amZ,ih]
theorem JI(hR:wt E)(hX:yx M){q:Nat}{tg:Tag}{s:Str}(hs:s.length≤1000000000){H:List AObj}{T:TypeId}(hq:H[q]?=some (.cells (sM++[.slice tg 1 (nf.map bK)]) T)) :
  M.run bL [.ptr q 0,.str s] H=some (.ret (.str (eM s)),H):=by
 have hsm:s.length≤bN:=by simp only [bN];omega
 have hl:=tS s;have hspc:spc s≤s.length:=List.countP_le_length;have hlt:=JG (.slice tg 1 (nf.map bK));have hln:∀ G,oI G .sl (.slice tg 1 (nf.map bK))=some (.int .i64 3):=fun _=>rfl
 have w24:IntKind.i64.wrap ((3:Int)*8)=24:=rfl;have htl:((nf.length:Nat):Int)=3:=rfl
 have hsum:((nf.drop 0).map fun x=>Lib.countByte s (x.getD 0 0)).sum=spc s:=by
  rw [Bo];show Lib.countByte s 123+(Lib.countByte s 60+(Lib.countByte s 92+0))=_;omega
 have hany:((nf.drop 0).any fun x => !(Lib.countByte s (x.getD 0 0) == 0))=s.any jn:=by
  rw [JH,Bo];show (!(Lib.countByte s 123 == 0)||(!(Lib.countByte s 60 == 0)||(!(Lib.countByte s 92 == 0)||false)))=_;generalize Lib.countByte s 123=x;generalize Lib.countByte s 60=y;generalize Lib.countByte s 92=z;rw [Bool.eq_iff_iff];simp;omega
 have half:∀ (k:List Fra),(∀ He,decide ((24:Int)≤(s.length:Int))=true→M.go aD H (.c aX :: .lp ⟨(some [0,1,5,6,30,31,32]),[],false⟩ aX He :: .blk 0 :: .c (.lv [0,1,5,6])::k) (kv [(0,.ptr q 0),(1,.str s),(5,.int .i64 s.length),(6,.bool false),(30,.slice tg 1 (nf.map bK)),(31,.int .i64 3),(32,.int .i64 0)]) H=M.go aD H k (kv [(0,.ptr q 0),(1,.str s),(5,.int .i64 ((eM s).length:Int)),(6,.bool (s.any jn))]) H) ∧
   (∀ He,M.go aD H (.c aY :: .lp ⟨(some [0,1,5,6,10]),[],false⟩ aY He :: .blk 2 :: .c (.lv [0,1,5,6])::k) (kv [(0,.ptr q 0),(1,.str s),(5,.int .i64 s.length),(6,.bool false),(10,.int .i64 0)]) H=M.go aD H k (kv [(0,.ptr q 0),(1,.str s),(5,.int .i64 ((eM s).length:Int)),(6,.bool (s.any jn))]) H):=fun k=>by
  refine ⟨fun He _ => ?_,fun He => ?_⟩
  ·have:=Lh M hR hX hsm (H0:=H) hq k 3 0 s.length false He (by omega) (by omega)
   rw [hsum,hany,← hl,Bool.false_or] at this;exact this
  ·have:=Lb M hsm (H0:=H) hq k s.length 0 s.length false He (by omega) (by omega)
   rw [List.drop_zero,← hl,Bool.false_or] at this;exact this
 have h2:=fun k He=>L4 M hsm (H0:=H) hq k s.length 0 He (by omega)
 simp only [List.take_zero,show eM []=[] from rfl,List.length_nil,List.drop_zero,Int.ofNat_zero,kv_cons,kv_nil] at h2;have hb0:FX s 0=List.replicate (eM s).length (.int .u8 0):=by unfold FX;rw [List.take_zero,List.drop_zero];rfl
 have hms:rms H dk 1 [.int .u8 0] (.int .i64 ((eM s).length:Int)) (.int .i64 ((eM s).length:Int))=some (.rslice H.length 0 (eM s).length 1 true,H++[.cells (FX s 0) dk]):=by
  simp only [rms];rw [if_pos ⟨by omega,by omega,by omega,by omega⟩,hb0];simp [List.flatten_replicate_singleton]
 have hcv:∀ X,rZ (H ++ .cells (ot (eM s)) dk::X) (.rslice H.length 0 (eM s).length 1 true)=some (.str (eM s)):=fun X=>by
  simp only [rZ,aP,List.getElem?_cons_zero];rw [if_pos (by rw [rj];omega),List.drop_zero,List.take_of_length_le (by rw [rj];exact Nat.le_refl _),CP];rfl
 have half1:=fun k He h=>(half k).1 He h
 have half2:=fun k He=>(half k).2 He
 simp only [kv_cons,kv_nil] at half1 half2;rw [bJ M hR.strings_byteStringReplacer_Replace rfl (c:=de) rfl,de];cases hd:decide ((24:Int)≤(s.length:Int)) with
 |true=>
  have half1:=fun k He=>half1 k He hd
  cases ha:s.any jn with
  |false=>
   rw [ha] at half1;rw [Bn ha] at half1 ⊢;simp (maxSteps:=3000000) (maxDischargeDepth:=6) +contextual -implicitDefEqProofs only [amC M,↓amD,Nat.reduceBEq,Nat.reduceAdd,env,ag,aE,amG,AV.cell,Nat.reduceMul,Nat.reduceLeDiff,hq,hlt,hln,htl,w24,rnc,hd,half1,hp_self,cut_refl]
  |true=>
   rw [ha] at half1;simp (maxSteps:=3000000) (maxDischargeDepth:=6) +contextual -implicitDefEqProofs only [amC M,↓amD,Nat.reduceBEq,Nat.reduceAdd,env,ag,aE,amG,AV.cell,Nat.reduceMul,Nat.reduceLeDiff,hq,hlt,hln,htl,w24,rnc,hd,half1,hms,h2,hcv,cut_app,hp_take]
 |false=>
  cases ha:s.any jn with
  |false=>
   rw [ha] at half2;rw [Bn ha] at half2 ⊢;simp (maxSteps:=3000000) (maxDischargeDepth:=6) +contextual -implicitDefEqProofs only [amC M,↓amD,Nat.reduceBEq,Nat.reduceAdd,env,ag,aE,amG,AV.cell,Nat.reduceMul,Nat.reduceLeDiff,hq,hlt,hln,htl,w24,rnc,hd,half2,hp_self,cut_refl]
  |true=>
   rw [ha] at half2;simp (maxSteps:=3000000) (maxDischargeDepth:=6) +contextual -implicitDefEqProofs only [amC M,↓amD,Nat.reduceBEq,Nat.reduceAdd,env,ag,aE,amG,AV.cell,Nat.reduceMul,Nat.reduceLeDiff,hq,hlt,hln,htl,w24,rnc,hd,half2,hms,h2,hcv,cut_app,hp_take]
theorem wu(hR:wt E)(H:List AObj):M.run fh [.slice .full 1 (cX.map bK)] H=some (.ret (.ptr (H.length+1) 0),H++[AObj.tok 6 aO,AObj.cells [.int .u32 0,.int .i32 0,.int .u32 0,.nilif,.slice (.own H.length) 1 (cX.map bK)] jK]):=by
 have hpl:((cX.length:Nat):Int)=6:=rfl;have hrm:jq .rem .i64 6 2=some (.int .i64 0):=rfl;have z01:((0:Int) == 1)=false:=rfl;have hap:rap false H aO 1 16 false (.slice .nil 1 []) (.slice .full 1 (cX.map bK))=some (.slice (.own H.length) 1 (cX.map bK),H++[.tok 6 aO]):=rfl;rw [bJ M hR.strings_NewReplacer rfl (c:=ie) rfl,ie];simp (maxSteps:=3000000) (maxDischargeDepth:=6) +contextual -implicitDefEqProofs only [amC M,↓amD,Nat.reduceBEq,Nat.reduceAdd,env,ag,pK,amG,AV.cell,Nat.reduceMul,Nat.reduceLeDiff,hpl,hrm,z01,hap]
theorem CT(hR:wt E)(hX:yx M)(hE:CS M){s:Str}(hs:s.length≤1000000000){H:List AObj}{r:Nat}{tg:Tag}{T:TypeId}(hr:H[r]?=some (.cells [.int .u32 0,.int .i32 0,.int .u32 0,.nilif,.slice tg 1 (cX.map bK)] T)) :
  ∃ H',M.run dG [.ptr r 0,.str s] H=some (.ret (.str (eM s)),H')∧H.length≤H'.length∧∀ i,i<H.length→i≠r→H'[i]?=H[i]? := by
 obtain ⟨H',tg',q,h1,h2,h3,h4,h5⟩:=hE.once H r tg T hr;refine ⟨H', ?_,h4,h5⟩;have hb:=JI M hR hX hs h3;have hm:=hE.meth;have l3:∀ a b c d e:AV,bW none [a,b,c,d,e] 3=some d:=fun _ _ _ _ _=>rfl
 have hi:AO E (.iface aZ (.ptr q 0)) "Replace" = .fn (.func bL) [.ptr q 0] []:=by
  simp only [AO,hm]
 rw [bJ M hR.strings_Replacer_Replace rfl (c:=fb) rfl,fb];simp (maxSteps:=3000000) (maxDischargeDepth:=6) +contextual -implicitDefEqProofs only [amC M,↓amD,Nat.reduceBEq,Nat.reduceAdd,env,ag,mS,amG,AV.cell,Nat.reduceMul,Nat.reduceLeDiff,rnc,h1,h2,l3,hi,hb]
theorem DX(g:FuncId)(first cap args:List AV)(H:List AObj)(a:AObj)(X:List AObj)(T L:List Nat)(v:AV):uk b4 E .keep (.fn (.func g) first cap) args (H++[a]) T L (some (.ret v,H++a::X))=some (v,H++a::X,T,L):=by
 have h:(H++a::X).take (H++[a]).length=H++[a]:=by
  rw [show H++a::X=(H++[a])++X by simp];exact List.take_left' rfl
 unfold uk rz;simp only [zX h,pF.b,if_true]
theorem Bq(hS:uP E)(hR:wt E)(hX:yx M)(hE:CS M){x:aa}(hk:x.kind=1)(hl:x.text.length≤1000000000)(H:List AObj):M.run eY [.agg x.row] H=some (.ret (.str (eM x.text)),H):=by
 have hn:=fun H=>wu M hR H
 have g0:∀ X,(H++AObj.cells x.row ae::X)[H.length]?=some (.cells x.row ae):=fun X=>by rw [aP];rfl
 obtain ⟨H',h1,h2,h3⟩:=CT M hR hX hE hl (H:=H++[AObj.cells x.row ae]++[AObj.tok 6 aO,AObj.cells [.int .u32 0,.int .i32 0,.int .u32 0,.nilif,.slice (.own (H++[AObj.cells x.row ae]).length) 1 (cX.map bK)] jK]) (r:=(H++[AObj.cells x.row ae]).length+1) (by rw [hp_getk];rfl)
 have hcut:dg H H':=⟨by simp at h2;omega,fun i y hi hy=>.inl (by
  rw [h3 i (by simp;omega) (by simp;omega),List.append_assoc,List.getElem?_append_left hi] at hy;exact hy)⟩
 have htk:H'.take H.length=H:=List.ext_getElem? fun i=>by
  by_cases hi:i<H.length
  ·rw [List.getElem?_take_of_lt hi,h3 i (by simp;omega) (by simp;omega),List.append_assoc,List.getElem?_append_left hi]
  ·rw [List.getElem?_eq_none (by simp;omega),List.getElem?_eq_none (by omega)]
 have hh:=handV_drop hcut (wk_str H.length (eM x.text));rw [htk] at hh;have hsr:∀ s:Str,bK s=[.str s]:=fun _=>rfl
 simp only [cX,List.map_cons,List.map_nil,hsr,List.append_assoc,List.cons_append,List.nil_append,List.length_append,List.length_cons,List.length_nil,Nat.zero_add] at hn h1;rw [bJ M hS.docs_written rfl (c:=iS) rfl,iS];cases hc:x.car<;>simp (maxSteps:=3000000) (maxDischargeDepth:=6) +contextual -implicitDefEqProofs only [amC M,↓amD,Nat.reduceBEq,Nat.reduceAdd,env,ag,dJ,amG,AV.cell,Nat.reduceMul,Nat.reduceLeDiff,List.append_assoc,List.cons_append,List.nil_append,bu,g0,hk,hc,DX,(show ((1:Int) == 2)=false from rfl),(show ((1:Int) == 3)=false from rfl),(show ((1:Int) == 4)=false from rfl),(show ((1:Int) == 5)=false from rfl),hn,h1,hh]
end
section
attribute [local congr] aw bw aR aA aQ aH aC al ao aI aJ
variable{E:bc}(M:bM b4 E)
end
section
attribute [local congr] aw bw aR aA aQ aH aC al ao aI aJ
variable{E:bc}(M:bM b4 E)
theorem tT(c d:UInt8):((c.toNat:Int) == (d.toNat:Int))=(c == d):=by
 rw [Bool.eq_iff_iff,beq_iff_eq,beq_iff_eq];exact ⟨fun h=>UInt8.toNat_inj.1 (by omega),fun h=>by rw [h]⟩
theorem qB(c:UInt8):((c.toNat:Int) == 92)=(c == 92)∧((c.toNat:Int) == 60)=(c == 60)∧((c.toNat:Int) == 123)=(c == 123)∧((c.toNat:Int) == 125)=(c == 125)∧((c.toNat:Int) == 62)=(c == 62)∧((c.toNat:Int) == 47)=(c == 47)∧((c.toNat:Int) == 43)=(c == 43)∧((c.toNat:Int) == 32)=(c == 32)∧((c.toNat:Int) == 10)=(c == 10):=
 ⟨tT c 92,tT c 60,tT c 123,tT c 125,tT c 62,tT c 47,tT c 43,tT c 32,tT c 10⟩
theorem F0(c:UInt8)(t:Str):eM (c::t)=(if ((c == 92)||(c == 60)||(c == 123))=true then [92,c] else [c])++eM t:=rfl
theorem rwl{x:aa}(hl:x.text.length≤140737488351232){H H0:List AObj}{p:Nat}{T:TypeId}(hp:H[p]?=some (.cells x.row T))(k:List Fra):∀ (n i:Nat) (He:List AObj) (a:Str),i+n=x.text.length→a.length≤2*i →
  M.go dB H0 (.c cq :: .lp ⟨(some [1,4,5]),[],false⟩ cq He :: .blk 1 :: .c (.lv [4])::k) (kv [(1,.ptr p 0),(4,.str a),(5,.int .i64 i)]) H=M.go dB H0 k (kv [(4,.str (a++eM (x.text.drop i)))]) H
 |0,i,He,a,h,ha=>by
  obtain rfl:i=x.text.length:=by omega
  rw [List.drop_length,show eM []=[] from rfl,List.append_nil];rw [ak M cq.eq_1];simp (maxSteps:=3000000) (maxDischargeDepth:=6) +contextual -implicitDefEqProofs only [amC M,↓amD,Nat.reduceBEq,Nat.reduceAdd,env,ag,bb,hp,bu,Nat.lt_irrefl]
 |n+1,i,He,a,h,ha=>by
  have hi:i<x.text.length:=by omega
  have hx:x.text[i]?=some x.text[i]:=List.getElem?_eq_getElem hi;have hd:x.text.drop i=x.text[i]::x.text.drop (i+1):=List.drop_eq_getElem_cons hi;rw [hd,F0]
  have hsl:BN (.str x.text) (some (.int .i64 (i:Int))) (some (.int .i64 ((i+1:Nat):Int)))=some (.str [x.text[i]]):=by
   rw [HE (by omega) (by omega),hd,show i+1-i=1 by omega];rfl
  generalize x.text[i]=c at *
  have hws:IntKind.i64.wrap ((i:Int)+1)=((i+1:Nat):Int):=en hi (by simp only [bN];omega);cases hc:(c == 92)||(c == 60)||(c == 123) with
  |true=>
   have ih:=fun He=>rwl (H0:=H0) hl hp k n (i+1) He (a++[92]++[c]) (by omega) (by simp;omega)
   have f1:bj .add a [92]=some (.str (a++[92])):=bp (by simp;omega);have f2:bj .add (a++[92]) [c]=some (.str (a++[92]++[c])):=bp (by simp;omega);rw [if_pos rfl,show a++([92,c]++eM (x.text.drop (i+1)))=a++[92]++[c]++eM (x.text.drop (i+1)) by simp];simp only [kv_cons,kv_nil] at ih ⊢;rw [ak M cq.eq_1];simp (maxSteps:=3000000) (maxDischargeDepth:=6) +contextual -implicitDefEqProofs only [amC M,↓amD,Nat.reduceBEq,Nat.reduceAdd,env,ag,bb,hp,bu,hi,hx,qB,hc,hsl,hws,f1,f2,ih]
  |false=>
   have ih:=fun He=>rwl (H0:=H0) hl hp k n (i+1) He (a++[c]) (by omega) (by simp;omega)
   have f2:bj .add a [c]=some (.str (a++[c])):=bp (by simp;omega);rw [if_neg (by simp),show a++([c]++eM (x.text.drop (i+1)))=a++[c]++eM (x.text.drop (i+1)) by simp];simp only [kv_cons,kv_nil] at ih ⊢;rw [ak M cq.eq_1];simp (maxSteps:=3000000) (maxDischargeDepth:=6) +contextual -implicitDefEqProofs only [amC M,↓amD,Nat.reduceBEq,Nat.reduceAdd,env,ag,bb,hp,bu,hi,hx,qB,hc,hsl,hws,f2,ih]
theorem Br(hS:uP E){x:aa}(hl:x.text.length≤140737488351232)(H:List AObj):M.run fR [.agg x.row] H=some (.ret (.str (wrF x)),H):=by
 rw [bJ M hS.truchmanref01_written rfl (c:=fX) rfl,fX]
 by_cases e2:x.kind=2
 ·cases hc:x.car with
  |true=>
   have F1:bj .add ([60]) [43]=some (.str (60::[43])):=bp (by simp);have F2:bj .add ([60,43]) x.text=some (.str (60::43::x.text)):=bp (by simp;omega);have F3:bj .add (60::43::x.text) [62]=some (.str (60::43::(x.text++[62]))):=bp (by simp;omega);simp (maxSteps:=3000000) (maxDischargeDepth:=6) +contextual -implicitDefEqProofs only [amC M,↓amD,Nat.reduceBEq,Nat.reduceAdd,env,ag,bb,amG,AV.cell,Nat.reduceMul,Nat.reduceLeDiff,bu,aP,e2,hc,(show ((2:Int) == 2)=true from rfl),(show ((2:Int) == 3)=false from rfl),(show ((2:Int) == 4)=false from rfl),(show ((2:Int) == 5)=false from rfl),F1,F2,F3,wrF,jT,cut_app,hp_take]
  |false=>
   have F1:bj .add ([60]) []=some (.str (60::[])):=bp (by simp);have F2:bj .add ([60]) x.text=some (.str (60::x.text)):=bp (by simp;omega);have F3:bj .add (60::x.text) [62]=some (.str (60::(x.text++[62]))):=bp (by simp;omega);simp (maxSteps:=3000000) (maxDischargeDepth:=6) +contextual -implicitDefEqProofs only [amC M,↓amD,Nat.reduceBEq,Nat.reduceAdd,env,ag,bb,amG,AV.cell,Nat.reduceMul,Nat.reduceLeDiff,bu,aP,e2,hc,(show ((2:Int) == 2)=true from rfl),(show ((2:Int) == 3)=false from rfl),(show ((2:Int) == 4)=false from rfl),(show ((2:Int) == 5)=false from rfl),F1,F2,F3,wrF,jT,cut_app,hp_take]
 by_cases e3:x.kind=3
 ·cases hc:x.car with
  |true=>
   have F1:bj .add ([60,47]) [43]=some (.str (60::47::[43])):=bp (by simp);have F2:bj .add ([60,47,43]) x.text=some (.str (60::47::43::x.text)):=bp (by simp;omega);have F3:bj .add (60::47::43::x.text) [62]=some (.str (60::47::43::(x.text++[62]))):=bp (by simp;omega);simp (maxSteps:=3000000) (maxDischargeDepth:=6) +contextual -implicitDefEqProofs only [amC M,↓amD,Nat.reduceBEq,Nat.reduceAdd,env,ag,bb,amG,AV.cell,Nat.reduceMul,Nat.reduceLeDiff,bu,aP,e3,hc,(show ((3:Int) == 2)=false from rfl),(show ((3:Int) == 3)=true from rfl),(show ((3:Int) == 4)=false from rfl),(show ((3:Int) == 5)=false from rfl),F1,F2,F3,wrF,jT,cut_app,hp_take]
  |false=>
   have F1:bj .add ([60,47]) []=some (.str (60::47::[])):=bp (by simp);have F2:bj .add ([60,47]) x.text=some (.str (60::47::x.text)):=bp (by simp;omega);have F3:bj .add (60::47::x.text) [62]=some (.str (60::47::(x.text++[62]))):=bp (by simp;omega);simp (maxSteps:=3000000) (maxDischargeDepth:=6) +contextual -implicitDefEqProofs only [amC M,↓amD,Nat.reduceBEq,Nat.reduceAdd,env,ag,bb,amG,AV.cell,Nat.reduceMul,Nat.reduceLeDiff,bu,aP,e3,hc,(show ((3:Int) == 2)=false from rfl),(show ((3:Int) == 3)=true from rfl),(show ((3:Int) == 4)=false from rfl),(show ((3:Int) == 5)=false from rfl),F1,F2,F3,wrF,jT,cut_app,hp_take]
 by_cases e4:x.kind=4
 ·cases hc:x.car with
  |true=>
   have F2:bj .add ([60]) x.text=some (.str (60::x.text)):=bp (by simp;omega);have F3:bj .add (60::x.text) [47,62]=some (.str (60::(x.text++[47,62]))):=bp (by simp;omega);simp (maxSteps:=3000000) (maxDischargeDepth:=6) +contextual -implicitDefEqProofs only [amC M,↓amD,Nat.reduceBEq,Nat.reduceAdd,env,ag,bb,amG,AV.cell,Nat.reduceMul,Nat.reduceLeDiff,bu,aP,e4,hc,(show ((4:Int) == 2)=false from rfl),(show ((4:Int) == 3)=false from rfl),(show ((4:Int) == 4)=true from rfl),(show ((4:Int) == 5)=false from rfl),F2,F3,wrF,jT,cut_app,hp_take]
  |false=>
   have F2:bj .add ([60]) x.text=some (.str (60::x.text)):=bp (by simp;omega);have F3:bj .add (60::x.text) [47,62]=some (.str (60::(x.text++[47,62]))):=bp (by simp;omega);simp (maxSteps:=3000000) (maxDischargeDepth:=6) +contextual -implicitDefEqProofs only [amC M,↓amD,Nat.reduceBEq,Nat.reduceAdd,env,ag,bb,amG,AV.cell,Nat.reduceMul,Nat.reduceLeDiff,bu,aP,e4,hc,(show ((4:Int) == 2)=false from rfl),(show ((4:Int) == 3)=false from rfl),(show ((4:Int) == 4)=true from rfl),(show ((4:Int) == 5)=false from rfl),F2,F3,wrF,jT,cut_app,hp_take]
 by_cases e5:x.kind=5
 ·cases hc:x.car with
  |true=>
   have F2:bj .add ([123]) x.text=some (.str (123::x.text)):=bp (by simp;omega);have F3:bj .add (123::x.text) [125]=some (.str (123::(x.text++[125]))):=bp (by simp;omega);simp (maxSteps:=3000000) (maxDischargeDepth:=6) +contextual -implicitDefEqProofs only [amC M,↓amD,Nat.reduceBEq,Nat.reduceAdd,env,ag,bb,amG,AV.cell,Nat.reduceMul,Nat.reduceLeDiff,bu,aP,e5,hc,(show ((5:Int) == 2)=false from rfl),(show ((5:Int) == 3)=false from rfl),(show ((5:Int) == 4)=false from rfl),(show ((5:Int) == 5)=true from rfl),F2,F3,wrF,jT,cut_app,hp_take]
  |false=>
   have F2:bj .add ([123]) x.text=some (.str (123::x.text)):=bp (by simp;omega);have F3:bj .add (123::x.text) [125]=some (.str (123::(x.text++[125]))):=bp (by simp;omega);simp (maxSteps:=3000000) (maxDischargeDepth:=6) +contextual -implicitDefEqProofs only [amC M,↓amD,Nat.reduceBEq,Nat.reduceAdd,env,ag,bb,amG,AV.cell,Nat.reduceMul,Nat.reduceLeDiff,bu,aP,e5,hc,(show ((5:Int) == 2)=false from rfl),(show ((5:Int) == 3)=false from rfl),(show ((5:Int) == 4)=false from rfl),(show ((5:Int) == 5)=true from rfl),F2,F3,wrF,jT,cut_app,hp_take]
 have g2:(x.kind == 2)=false:=by simpa using e2
 have g3:(x.kind == 3)=false:=by simpa using e3
 have g4:(x.kind == 4)=false:=by simpa using e4
 have g5:(x.kind == 5)=false:=by simpa using e5
 have hlp:=fun k He=>rwl M hl (H:=H++[.cells x.row ae]) (H0:=H) (p:=H.length) (T:=ae) (by rw [aP];rfl) k x.text.length 0 He [] (by omega) (by simp)
 simp only [kv_cons,kv_nil,Int.ofNat_zero,List.drop_zero,List.nil_append] at hlp;cases hc:x.car with
 |true=>simp (maxSteps:=3000000) (maxDischargeDepth:=6) +contextual -implicitDefEqProofs only [amC M,↓amD,Nat.reduceBEq,Nat.reduceAdd,env,ag,bb,amG,AV.cell,Nat.reduceMul,Nat.reduceLeDiff,bu,aP,hc,g2,g3,g4,g5,hlp,wrF,cut_app,hp_take]
 |false=>simp (maxSteps:=3000000) (maxDischargeDepth:=6) +contextual -implicitDefEqProofs only [amC M,↓amD,Nat.reduceBEq,Nat.reduceAdd,env,ag,bb,amG,AV.cell,Nat.reduceMul,Nat.reduceLeDiff,bu,aP,hc,g2,g3,g4,g5,hlp,wrF,cut_app,hp_take]
end
structure Un where
 r:Int
 hole:Bool
def Un.row(x:Un):List AV:=[.int .i32 x.r,.bool x.hole]
structure Un.ok (n:Nat) (x:Un):Prop where
 triv:True
theorem Un.ok.mono{n m:Nat}{x:Un}(h:x.ok n)(hn:n≤m):x.ok m:=⟨trivial⟩
theorem Un.ok.wk{n:Nat}{x:Un}(h:x.ok n):WkL n x.row x.row:=⟨wk_int _ _ _,wk_bool _ _,trivial⟩
structure Fit where
 cls:Bool
 r:Int
def Fit.row(x:Fit):List AV:=[.bool x.cls,.int .i32 x.r]
structure Fit.ok (n:Nat) (x:Fit):Prop where
 triv:True
theorem Fit.ok.mono{n m:Nat}{x:Fit}(h:x.ok n)(hn:n≤m):x.ok m:=⟨trivial⟩
theorem Fit.ok.wk{n:Nat}{x:Fit}(h:x.ok n):WkL n x.row x.row:=⟨wk_bool _ _,wk_int _ _ _,trivial⟩
section
attribute [local congr] aw bw aR aA aQ aH aC al ao aI aJ
variable{E:bc}(M:bM b4 E)
structure HZ (E:bc):Prop where
 truchmanref01_Plain:E.fn gK=some dU
end
section
attribute [local congr] aw bw aR aA aQ aH aC al ao aI aJ
variable{E:bc}(M:bM b4 E)
end
section
attribute [local congr] aw bw aR aA aQ aH aC al ao aI aJ
variable{E:bc}(M:bM b4 E)
end
section
attribute [local congr] aw bw aR aA aQ aH aC al ao aI aJ
variable{E:bc}(M:bM b4 E)
end
section
attribute [local congr] aw bw aR aA aQ aH aC al ao aI aJ
variable{E:bc}(M:bM b4 E)
end
section
attribute [local congr] aw bw aR aA aQ aH aC al ao aI aJ
variable{E:bc}(M:bM b4 E)
end
section
attribute [local congr] aw bw aR aA aQ aH aC al ao aI aJ
variable{E:bc}(M:bM b4 E)
end
section
attribute [local congr] aw bw aR aA aQ aH aC al ao aI aJ
variable{E:bc}(M:bM b4 E)
end
section
attribute [local congr] aw bw aR aA aQ aH aC al ao aI aJ
variable{E:bc}(M:bM b4 E)
def jQ:List aa→Str
 |[]=>[]
 |x::l=>sel (x.kind == 1) x.text []++jQ l
theorem rpn{H H0:List AObj}{l:List aa}{tg:Tag}(hl:l.length≤bN)(k:List Fra):∀ (n i:Nat) (w:Str) (He:List AObj),i+n=l.length→w.length+(jQ (l.drop i)).length≤1000000 →
  M.go dU H0 (.c cO :: .lp ⟨(some [0,3,4]),[],false⟩ cO He :: .blk 0 :: .c (.lv [3])::k) (kv [(0,.slice tg 3 (l.map aa.row)),(3,.str w),(4,.int .i64 i)]) H =
   M.go dU H0 k (kv [(3,.str (w++jQ (l.drop i)))]) H
 |0,i,w,He,h,hw=>by
  have e:i=l.length:=by omega
  subst e;rw [ak M cO.eq_1];simp (maxSteps:=3000000) (maxDischargeDepth:=6) +contextual -implicitDefEqProofs only [amC M,↓amD,Nat.reduceBEq,Nat.reduceAdd,env,ag,fi,Nat.lt_irrefl,List.drop_length,jQ,List.append_nil]
 |n+1,i,w,He,h,hw=>by
  have hi:i<l.length:=by omega
  have hx:l[i]?=some l[i]:=List.getElem?_eq_getElem hi;have hd:(l.drop i)=l[i]::l.drop (i+1):=List.drop_eq_getElem_cons hi;have hwi:=en (n:=l.length) hi hl;rw [hd,jQ] at hw ⊢;cases h1:l[i].kind == 1 with
  |true=>
   rw [h1,sel_true,List.length_append] at hw;have ih:=fun He=>rpn (H:=H) (H0:=H0) (tg:=tg) hl k n (i+1) (w++l[i].text) He (by omega) (by rw [List.length_append];omega)
   simp only [kv_cons,kv_nil] at ih;have ha:=bp (s:=w) (t:=l[i].text) (by omega);rw [sel_true,← List.append_assoc];rw [ak M cO.eq_1];simp (maxSteps:=3000000) (maxDischargeDepth:=6) +contextual -implicitDefEqProofs only [amC M,↓amD,Nat.reduceBEq,Nat.reduceAdd,env,ag,fi,hi,hx,h1,ih,ha,bt hi,bu,hwi]
  |false=>
   rw [h1,sel_false,List.nil_append] at hw;have ih:=fun He=>rpn (H:=H) (H0:=H0) (tg:=tg) hl k n (i+1) w He (by omega) hw
   simp only [kv_cons,kv_nil] at ih;rw [sel_false,List.nil_append];rw [ak M cO.eq_1];simp (maxSteps:=3000000) (maxDischargeDepth:=6) +contextual -implicitDefEqProofs only [amC M,↓amD,Nat.reduceBEq,Nat.reduceAdd,env,ag,fi,hi,hx,h1,ih,bt hi,bu,hwi]
theorem F4(hU:HZ E){l:List aa}{tg:Tag}(hl:l.length≤bN)(hp:(jQ l).length≤1000000)(H:List AObj):M.run gK [.slice tg 3 (l.map aa.row)] H=some (.ret (.str (jQ l)),H):=by
 rw [bJ M hU.truchmanref01_Plain rfl (c:=gT) rfl,gT];have h1:=fun k He=>rpn M (H:=H) (H0:=H) (tg:=tg) hl k l.length 0 [] He (by omega) (by simpa using hp)
 simp only [kv_cons,kv_nil,Int.ofNat_zero,List.drop_zero,List.nil_append] at h1;simp (maxSteps:=3000000) (maxDischargeDepth:=6) +contextual -implicitDefEqProofs only [amC M,↓amD,Nat.reduceBEq,Nat.reduceAdd,env,ag,fi,h1,hp_self,cut_refl]
end
section
attribute [local congr] aw bw aR aA aQ aH aC al ao aI aJ
variable{E:bc}(M:bM b4 E)
def ES(v:AV):List AV:=[v]
end
section
attribute [local congr] aw bw aR aA aQ aH aC al ao aI aJ
variable{E:bc}(M:bM b4 E)
end
section
attribute [local congr] aw bw aR aA aQ aH aC al ao aI aJ
variable{E:bc}(M:bM b4 E)
structure UntE (E:bc):Prop where
 seq:E.seq mO=wC
 sar:E.sar mO=1
theorem L6{α:Type}{row:α→List AV}{l:List α}{x:α}{r:List AV}{sz bytes t:Nat}{e:TypeId}{H:List AObj}(ht:H[t]?=some (.tok (l.length*sz) e))(h1:r.length=sz)(h2:r.all AV.cell=true)(h3:r.map AV.strip=row x)
  (hl:(l.length+1)*bytes≤140737488355328) (hl2:l.length+1≤4611686018427387904) :
  rap false H e sz bytes false (.slice (.own t) sz (l.map row)) (.slice .full sz [r])=some (.slice (.own t) sz ((l++[x]).map row),H.set t (.tok ((l++[x]).length*sz) e)):=by
 simp only [rap,uh,nZ,List.length_map,List.length_cons,List.length_nil,Nat.zero_add,or_true,if_true,hl,hl2,xJ h1 h2,and_true,true_and,ht,List.map_cons,List.map_nil,h3,List.map_append,List.length_append,Nat.add_mul,Nat.one_mul];rw [Nat.add_mul,Nat.one_mul] at hl;rw [if_pos hl]
end
section
attribute [local congr] aw bw aR aA aQ aH aC al ao aI aJ
variable{E:bc}(M:bM b4 E)
end
section
attribute [local congr] aw bw aR aA aQ aH aC al ao aI aJ
variable{E:bc}(M:bM b4 E)
def sb(p:Sl aa):List AV:=[.slice p.tag 3 (p.l.map aa.row)]
theorem qPl:(∀ p:Sl aa,bW none (sb p) 0=some (.slice p.tag 3 (p.l.map aa.row)))∧(∀ p:Sl aa,oc 1 (sb p)=some (sb p))∧(∀ p:Sl aa,(sb p).length=1):=⟨fun _=>rfl,fun _=>rfl,fun _=>rfl⟩
def ou(n:Nat):List aa→Nat
 |[]=>n
 |x::l=>if n<5000 then ou (n+x.text.length) l else n
def tU(n:Nat):List (Sl aa)→Nat
 |[]=>n
 |p::ps=>tU (ou (n+p.l.length) p.l) ps
def yA(ps:List (Sl aa)):Bool:=decide (2500<tU 0 ps)
theorem Bs:∀ (l:List aa) (n:Nat),5000≤n→ou n l=n
 |[],n,_=>rfl
 |x::l,n,h=>by rw [ou,if_neg (by omega)]
theorem ET:∀ (l:List aa) (n:Nat),(∀ x∈l,x.text.length≤bN)→n<5000→ou n l≤bN+5000
 |[],n,_,hn=>by rw [ou];simp only [bN];omega
 |x::l,n,h,hn=>by
  rw [ou,if_pos hn];have h1:=h x List.mem_cons_self
  by_cases h2:n+x.text.length<5000
  ·exact ET l (n+x.text.length) (fun y hy=>h y (List.mem_cons_of_mem _ hy)) h2
  ·rw [Bs l _ (by omega)];omega
theorem H6(l:List aa)(n:Nat)(h:∀ x∈l,x.text.length≤bN):ou n l≤n+bN+5000:=by
 by_cases hn:n<5000
 ·have:=ET l n h hn;omega
 ·rw [Bs l n (by omega)];omega
theorem uR:∀ (l:List aa) (n:Nat),n≤ou n l
 |[],n=>Nat.le_refl _
 |x::l,n=>by
  rw [ou];split
  ·have:=uR l (n+x.text.length);omega
  ·exact Nat.le_refl _
theorem Ae:∀ (ps:List (Sl aa)) (n:Nat),n≤tU n ps
 |[],n=>Nat.le_refl _
 |p::ps,n=>by
  rw [tU];have h1:=uR p.l (n+p.l.length);have h2:=Ae ps (ou (n+p.l.length) p.l);omega
def rk(l:List aa):Nat:=(l.map fun x=>x.text.length).sum
theorem EU:∀ (l:List aa) (n:Nat),ou n l≤2500→ou n l=n+rk l
 |[],n,_=>by simp [ou,rk]
 |x::l,n,h=>by
  have h0:n<5000:=by have:=uR (x::l) n;omega
  rw [ou,if_pos h0] at h ⊢;rw [EU l _ h,rk,rk,List.map_cons,List.sum_cons];omega
def H7(ps:List (Sl aa)):Nat:=(ps.map fun p=>p.l.length+rk p.l).sum
theorem EV:∀ (ps:List (Sl aa)) (n:Nat),tU n ps≤2500→tU n ps=n+H7 ps
 |[],n,_=>by simp [tU,H7]
 |p::ps,n,h=>by
  rw [tU] at h ⊢;have h0:=Ae ps (ou (n+p.l.length) p.l);rw [EV ps _ h,EU p.l _ (by omega),H7,H7,List.map_cons,List.sum_cons];omega
theorem Af{p:Sl aa}(h:yA [p]=false):p.l.length+rk p.l≤2500:=by
 have h1:tU 0 [p]≤2500:=by have:=of_decide_eq_false h;omega
 have h2:=EV [p] 0 h1;simp only [H7,List.map_cons,List.map_nil,List.sum_cons,List.sum_nil] at h2;omega
theorem CU{l:List aa}{x:aa}(h:x∈l):x.text.length≤rk l:=by
 induction l with
 |nil=>cases h
 |cons y l ih=>
  rw [rk,List.map_cons,List.sum_cons];rcases List.mem_cons.1 h with rfl | h
  ·omega
  ·have:=ih h;unfold rk at this;omega
theorem yB:∀ l:List aa,(jQ l).length≤rk l
 |[]=>by simp [jQ]
 |x::l=>by
  have h2:=yB l;rw [jQ,List.length_append,rk,List.map_cons,List.sum_cons];unfold rk at h2;cases x.kind == 1
  ·rw [sel_false,List.length_nil];omega
  ·rw [sel_true];omega
theorem lgi{H H0:List AObj}{ps:List (Sl aa)}{tg:Tag}{j:Nat}{p:Sl aa}(hp:ps[j]?=some p)(hj:j<ps.length)(hpl:p.l.length≤bN)(hpt:∀ x∈p.l,x.text.length≤bN)(hc:dg H0 H)(k:List Fra):∀ (n i:Nat) (n2:Nat) (hn:n2≤1000000000000000000) (He:List AObj),i+n=(p.l).length →
  M.go cS H0 (.c cZ :: .lp ⟨(some [0,3,4,5]),[],false⟩ cZ He :: .blk 2 :: .c (.lv [0,3,4])::k) (kv [(0,.slice tg 1 (ps.map sb)),(3,.int .i64 n2),(4,.int .i64 j),(5,.int .i64 i)]) H =
   (M.go cS H0 k (kv [(0,.slice tg 1 (ps.map sb)),(3,.int .i64 (ou n2 (p.l.drop i):Nat)),(4,.int .i64 j)]) (H))
 |0,i,n2,hn,He,h=>by
  have e:i=(p.l).length:=by omega
  subst e;rw [ak M cZ.eq_1];simp (maxSteps:=3000000) (maxDischargeDepth:=6) +contextual -implicitDefEqProofs only [amC M,↓amD,Nat.reduceBEq,Nat.reduceAdd,env,ag,dx,Nat.lt_irrefl,List.drop_length,hp,hpl,qPl,bt hj,ou]
 |n+1,i,n2,hn,He,h=>by
  have hi:i<(p.l).length:=by omega
  have hx:(p.l)[i]?=some (p.l)[i]:=List.getElem?_eq_getElem hi;have hd:((p.l).drop i)=(p.l)[i]::(p.l).drop (i+1):=List.drop_eq_getElem_cons hi;have hm:(p.l)[i]∈(p.l):=List.getElem_mem hi;have ih:=fun n2 hn He=>lgi (H:=H) (H0:=H0) (ps:=ps) (tg:=tg) (j:=j) (p:=p) (hp:=hp) (hj:=hj) (hpl:=hpl) (hpt:=hpt) hc k n (i+1) n2 hn He (by omega)
  simp only [kv_cons,kv_nil] at ih;have hij:=bt (row:=sb) (tag:=tg) (sz:=1) (k:=.i64) hj;have hir:=bt (row:=aa.row) (tag:=p.tag) (sz:=3) (k:=.i64) hi;have hwi:=en (n:=p.l.length) hi hpl;have hmt:=hpt _ hm
  by_cases h5:n2<5000
  ·have d5:decide ((n2:Int)<5000)=true:=decide_eq_true (by omega)
   have hw2:IntKind.i64.wrap ((n2:Int)+(p.l[i].text.length:Int))=((n2+p.l[i].text.length:Nat):Int):=by rw [eX (by omega) (by simp only [bN] at hmt;omega)];omega
   have ih:=ih (n2+p.l[i].text.length) (by simp only [bN] at hmt;omega);rw [hd,ou,if_pos h5];rw [ak M cZ.eq_1];simp (maxSteps:=3000000) (maxDischargeDepth:=6) +contextual -implicitDefEqProofs only [amC M,↓amD,Nat.reduceBEq,Nat.reduceAdd,env,ag,dx,hi,hx,hp,hd,d5,ih,hij,hir,hwi,hw2,qPl,bu]
  ·have d5:decide ((n2:Int)<5000)=false:=decide_eq_false (by omega)
   rw [Bs _ _ (by omega)];rw [ak M cZ.eq_1];simp (maxSteps:=3000000) (maxDischargeDepth:=6) +contextual -implicitDefEqProofs only [amC M,↓amD,Nat.reduceBEq,Nat.reduceAdd,env,ag,dx,hi,hx,hp,hd,d5,hij,hir,qPl,bu]
theorem lgo{H H0:List AObj}{ps:List (Sl aa)}{tg:Tag}(hps:ps.length≤100)(hpl:∀ p∈ps,p.l.length≤bN∧∀ x∈p.l,x.text.length≤bN)(hc:dg H0 H)(k:List Fra):∀ (n i:Nat) (n2:Nat) (hn:n2≤i*300000000000000) (He:List AObj),i+n=ps.length →
  M.go cS H0 (.c dI :: .lp ⟨(some [0,3,4]),[],false⟩ dI He :: .blk 0 :: .c (.lv [3])::k) (kv [(0,.slice tg 1 (ps.map sb)),(3,.int .i64 n2),(4,.int .i64 i)]) H =
   (M.go cS H0 k (kv [(3,.int .i64 (tU n2 (ps.drop i):Nat))]) (H))
 |0,i,n2,hn,He,h=>by
  have e:i=ps.length:=by omega
  subst e;rw [ak M dI.eq_1];simp (maxSteps:=3000000) (maxDischargeDepth:=6) +contextual -implicitDefEqProofs only [amC M,↓amD,Nat.reduceBEq,Nat.reduceAdd,env,ag,dx,Nat.lt_irrefl,List.drop_length,tU]
 |n+1,i,n2,hn,He,h=>by
  have hi:i<ps.length:=by omega
  have hx:ps[i]?=some ps[i]:=List.getElem?_eq_getElem hi;have hd:(ps.drop i)=ps[i]::ps.drop (i+1):=List.drop_eq_getElem_cons hi;have hm:ps[i]∈ps:=List.getElem_mem hi;have ih:=fun n2 hn He=>lgo (H:=H) (H0:=H0) (ps:=ps) (tg:=tg) (hps:=hps) (hpl:=hpl) hc k n (i+1) n2 hn He (by omega)
  simp only [kv_cons,kv_nil] at ih;have hij:=bt (row:=sb) (tag:=tg) (sz:=1) (k:=.i64) hi;have hwi:=en (n:=ps.length) hi (by simp only [bN];omega);have hq:=hpl _ hm;have hq1:ps[i].l.length≤140737488351232:=hq.1;have hw2:IntKind.i64.wrap ((n2:Int)+(ps[i].l.length:Int))=((n2+ps[i].l.length:Nat):Int):=by rw [eX (by omega) (by omega)];omega
  have hb:=H6 ps[i].l (n2+ps[i].l.length) hq.2;have hz:=fun k He=>lgi M (H:=H) (H0:=H0) (ps:=ps) (tg:=tg) (j:=i) (p:=ps[i]) hx hi hq.1 hq.2 hc k ps[i].l.length 0 (n2+ps[i].l.length) (by omega) He (by omega)
  have ih:=ih (ou (n2+ps[i].l.length) ps[i].l) (by simp only [bN] at hb;omega);simp only [kv_cons,kv_nil,Int.ofNat_zero,List.drop_zero] at hz;rw [hd,tU];rw [ak M dI.eq_1];simp (maxSteps:=3000000) (maxDischargeDepth:=6) +contextual -implicitDefEqProofs only [amC M,↓amD,Nat.reduceBEq,Nat.reduceAdd,env,ag,dx,hi,hx,ih,hz,hij,hwi,hw2,qPl,List.length_map]
theorem H8(hB:kH E){ps:List (Sl aa)}{tg:Tag}(hps:ps.length≤100)(hpl:∀ p∈ps,p.l.length≤bN∧∀ x∈p.l,x.text.length≤bN)(H:List AObj) :
  M.run fv [.slice tg 1 (ps.map sb)] H=some (.ret (.bool (yA ps)),H):=by
 rw [bJ M hB.truchmanlaw01_long rfl (c:=iO) rfl,iO];have h1:=fun k He=>lgo M (tg:=tg) hps hpl (cut_refl H) k ps.length 0 0 (by omega) He (by omega)
 simp only [kv_cons,kv_nil,Int.ofNat_zero,List.drop_zero] at h1;have h2:decide ((2500:Int)<(tU 0 ps:Int))=decide (2500<tU 0 ps):=by rw [Bool.eq_iff_iff];simp;omega
 simp (maxSteps:=3000000) (maxDischargeDepth:=6) +contextual -implicitDefEqProofs only [amC M,↓amD,Nat.reduceBEq,Nat.reduceAdd,env,ag,dx,h1,h2,yA]
theorem F5(hB:kH E){l:Sl aa}(h:l.ok 0 (aa.ok 0))(H:List AObj):M.run fv [.slice .full 1 [[.slice l.tag.strip 3 (l.l.map aa.row)]]] H=some (.ret (.bool (yA [l])),H):=
 H8 M hB (tg:=.full) (ps:=[⟨l.tag.strip,l.l⟩]) (by simp) (fun p hp=>by
  rw [List.mem_singleton] at hp;subst hp;exact ⟨h.len,fun x hx=>(h.all x hx).text⟩) H
end
section
attribute [local congr] aw bw aR aA aQ aH aC al ao aI aJ
variable{E:bc}(M:bM b4 E)
structure CutE (E:bc):Prop where
def pcC(l:List aa):List AV:=(l.map aa.row).flatten
theorem EW(l m:List aa):pcC (l++m)=pcC l++pcC m:=by simp [pcC]
theorem JJ(x:aa):pcC [x]=[.int .u8 x.kind,.str x.text,.bool x.car]:=rfl
theorem Bt:∀ l:List aa,(pcC l).length=l.length*3
 |[]=>rfl
 |x::l=>by
  have:=Bt l;rw [show pcC (x::l)=pcC [x]++pcC l from EW [x] l,List.length_append,this,JJ,List.length_cons];simp;omega
def PcV(H:List AObj)(v:AV)(l:List aa):Prop:=(l=[]∧v = .slice .nil 3 [])∨(l≠[]∧∃ Q,v = .rslice Q 0 l.length 3 true∧H[Q]?=some (.cells (pcC l) ae))
def below(q:Nat)(v:AV):Prop:=∀ Q o n e r,v = .rslice Q o n e r→Q<q
def EX(q:Nat)(v:AV):Prop:=∀ Q o n e r,v = .rslice Q o n e r→q≤Q
def OpV(H:List AObj)(v:AV)(l:List Str):Prop:=(l=[]∧v = .slice .nil 1 [])∨∃ O junk,v = .rslice O 0 l.length 1 true∧H[O]?=some (.cells (rT l++junk) aO)
def DY(l:List aa)(p:aa):List aa:=
 match l.getLast? with
 |some x=>sel (p.kind == 1&&x.kind == 1) (l.dropLast++[{ x with text:=x.text++p.text }]) (l++[p])
 |none=>[p]
structure CSt where
 done:List (List aa)
 cur:List aa
 pos:List Int
 place:Nat
 due:Bool
 opn:List Str
def free(R:Nat→Prop)(v:AV):Prop:=∀ Q o n e r,v = .rslice Q o n e r→¬ R Q
structure DZ (R:Nat→Prop) (c:Nat) (H:List AObj) (S:CSt) (P q:Nat) (vs:List AV) (v:AV) (ta:Tag) (ov:AV):Prop where
 hn:¬ R c
 hP:¬ R P
 rl:∀ i,R i→i<H.length
 cell:H[c]?=some (.cells [.rslice P 0 (S.done.length+1) 1 true,.slice ta 1 (S.pos.map KP),.int .i64 S.place,.bool S.due,ov] jC)
 par:H[P]?=some (.cells (vs++[v]) a8)
 len:vs.length=S.done.length
 dn:∀ (i:Nat) (w:AV) (l:List aa),vs[i]?=some w→S.done[i]?=some l→PcV H w l∧below q w∧free R w
 cr:PcV H v S.cur
 ab:EX q v
 pr:free R v
 ql:q≤H.length
 op:OpV H ov S.opn
 oa:free R ov
 tg:ta = .any∨ta = .some∨S.pos=[]∨∃ t,ta = .own t
def yC(R:Nat→Prop)(c:Nat)(H:List AObj)(S:CSt):Prop:=∃ P q vs v ta ov,DZ R c H S P q vs v ta ov
structure Frm (R:Nat→Prop) (H H':List AObj):Prop where
 len:H.length≤H'.length
 low:∀ i,R i→H'[i]?=H[i]?
 it:∀ (i:Nat) s pos,H[i]?=some (.siter s pos)→H'[i]?=some (.siter s pos)
theorem Frm.refl(R:Nat→Prop)(H:List AObj):Frm R H H:=⟨Nat.le_refl _,fun _ _=>rfl,fun _ _ _ h=>h⟩
theorem Frm.trans{R:Nat→Prop}{A B C:List AObj}(h:Frm R A B)(k:Frm R B C):Frm R A C:=⟨Nat.le_trans h.len k.len,fun i hi=>(k.low i hi).trans (h.low i hi),fun i s p e=>k.it i s p (h.it i s p e)⟩
theorem Frm.mono{R R':Nat→Prop}{A B:List AObj}(h:Frm R A B)(hr:∀ i,R' i→R i):Frm R' A B:=⟨h.len,fun i hi=>h.low i (hr i hi),h.it⟩
theorem Frm.app{R:Nat→Prop}(H X:List AObj)(hn:∀ i,R i→i<H.length):Frm R H (H++X):=⟨by simp,fun i hi=>List.getElem?_append_left (hn i hi),fun i s p h=>iw h⟩
theorem Frm.set{R:Nat→Prop}{H:List AObj}{k:Nat}{cs:List AV}{T:TypeId}(x:AObj)(hk:¬ R k)(h:H[k]?=some (.cells cs T)):Frm R H (H.set k x):=
 ⟨by simp,fun i hi=>List.getElem?_set_ne (fun e=>hk (by rw [e];exact hi)),fun i s p e=>by
  rw [List.getElem?_set_ne (fun ek=>by subst ek;rw [h] at e;cases e)];exact e⟩
theorem PcV.stay{H H':List AObj}{v:AV}{l:List aa}(h:PcV H v l)(hs:∀ (Q:Nat) (cs:List AV),v = .rslice Q 0 l.length 3 true→H[Q]?=some (AObj.cells cs ae)→H'[Q]?=some (AObj.cells cs ae)):PcV H' v l:=by
 rcases h with h | ⟨h1,Q,h2,h3⟩
 ·exact .inl h
 ·exact .inr ⟨h1,Q,h2,hs Q _ h2 h3⟩
theorem OpV.stay{H H':List AObj}{v:AV}{l:List Str}(h:OpV H v l)(hs:∀ (O:Nat) (cs:List AV),H[O]?=some (AObj.cells cs aO)→H'[O]?=some (AObj.cells cs aO)):OpV H' v l:=by
 rcases h with h | ⟨O,junk,h1,h2⟩
 ·exact .inl h
 ·exact .inr ⟨O,junk,h1,hs O _ h2⟩
theorem L7:ae≠jC:=by decide
theorem L8:ae≠a8:=by decide
theorem CV:aO≠ae:=by decide
theorem Km:aO≠a8:=by decide
theorem L9:a8≠jC:=by decide
theorem Ag(p:aa):lE 3 [p.row]=true:=rfl
theorem H9{H:List AObj}{v:AV}{l:List aa}(h:PcV H v l):v.cell=true∧cG v=some [v]:=by
 rcases h with ⟨rfl,rfl⟩ | ⟨_,Q,rfl,_⟩<;>exact ⟨rfl,rfl⟩
theorem Ma{G:List AObj}{v:AV}{l:List aa}(h:PcV G v l)(hl:l.length≤100000000)(p:aa) :
  ∃ G',rap true G ae 3 32 false v (.slice .full 3 [p.row])=some (.rslice G.length 0 (l.length+1) 3 true,G')∧G'[G.length]?=some (.cells (pcC (l++[p])) ae)∧G'.length=G.length+1∧∀ i,i<G.length→(∀ Q,v = .rslice Q 0 l.length 3 true→i≠Q)→G'[i]?=G[i]? := by
 rcases h with ⟨rfl,rfl⟩ | ⟨_,Q,rfl,hg⟩
 ·refine ⟨G++[.cells (pcC [p]) ae], ?_,by rw [aP];rfl,by simp,fun i hi _=>List.getElem?_append_left hi⟩
  simp only [rap,mH,nZ,or_true,if_true,Ag];rw [if_pos (by simp)];rfl
 ·have hlt:=gm hg
  have hlen:l.length*3≤(pcC l).length:=by rw [Bt];omega
  refine ⟨G.set Q .dead++[.cells (pcC (l++[p])) ae], ?_, ?_,by simp,fun i hi hne => ?_⟩
  ·simp only [rap,mH,nZ,or_true,if_true,Ag,hg]
   rw [if_pos ⟨trivial,trivial,hlen,by simp;omega,by simp;omega⟩];rw [List.take_of_length_le (by rw [Bt];omega),EW];rfl
  ·rw [show G.length=(G.set Q .dead).length by simp,aP];rfl
  ·rw [List.getElem?_append_left (by simp;omega),List.getElem?_set_ne (fun e=>hne Q rfl e.symm)]
end
section
attribute [local congr] aw bw aR aA aQ aH aC al ao aI aJ
variable{E:bc}(M:bM b4 E)
theorem Mq{H:List AObj}{i j:Nat}{cs ds:List AV}{T T':TypeId}(h1:H[i]?=some (.cells cs T))(h2:H[j]?=some (.cells ds T'))(hT:T≠T'):i≠j:=fun e=>by
 subst e;rw [h1] at h2;injection h2 with h2;injection h2 with _ h3;exact hT h3
theorem Ia{H:List AObj}{v:AV}{l:List aa}(h:PcV H v l){Q:Nat}(e:v = .rslice Q 0 l.length 3 true):∃ cs,H[Q]?=some (.cells cs ae):=by
 rcases h with ⟨_,h⟩ | ⟨_,Q',h1,h2⟩
 ·rw [h] at e;cases e
 ·rw [h1] at e;cases e;exact ⟨_,h2⟩
def StK(H H':List AObj):Prop:=∀ (O:Nat) (cs:List AV),H[O]?=some (AObj.cells cs aO)→H'[O]?=some (AObj.cells cs aO)
theorem DZ.turned{R:Nat→Prop}{c:Nat}{H H2:List AObj}{S:CSt}{P q:Nat}{vs:List AV}{v w:AV}{ta:Tag}{ov:AV}(h:DZ R c H S P q vs v ta ov){cur:List aa}
  (hlen:H.length≤H2.length) (hs:∀ i y,H[i]?=some y→(∀ Q,v = .rslice Q 0 S.cur.length 3 true→i≠Q)→i≠P→H2[i]?=some y)
  (hpar:H2[P]?=some (.cells (vs++[w]) a8)) (hw:PcV H2 w cur) (hwa:EX q w) (hwf:free R w):DZ R c H2 { S with cur:=cur } P q vs w ta ov∧Frm R H H2∧StK H H2:=by
 have hP:=h.par
 have nq:∀ (i:Nat) (cs:List AV) (T:TypeId),H[i]?=some (.cells cs T)→T≠ae→∀ Q,v = .rslice Q 0 S.cur.length 3 true→i≠Q:=fun i cs T hi hT Q e ei=>by
  obtain ⟨ds,hd⟩:=Ia h.cr e;subst ei;rw [hi] at hd;cases hd;exact hT rfl
 have np:∀ (i:Nat) (cs:List AV) (T:TypeId),H[i]?=some (.cells cs T)→T≠a8→i≠P:=fun i cs T hi hT ei=>by
  subst ei;rw [hi] at hP;cases hP;exact hT rfl
 have hlow:∀ i,R i→H2[i]?=H[i]? := fun i hi=>by
  have hin:=h.rl i hi;rw [List.getElem?_eq_getElem hin];refine hs i _ (List.getElem?_eq_getElem hin) (fun Q e ei => ?_) (fun e => ?_)
  ·exact h.pr Q _ _ _ _ e (ei ▸ hi)
  ·exact h.hP (e ▸ hi)
 refine ⟨⟨h.hn,h.hP,fun i hi=>Nat.lt_of_lt_of_le (h.rl i hi) hlen,hs c _ h.cell (nq c _ _ h.cell L7.symm) (np c _ _ h.cell L9.symm),hpar,h.len,fun i w' l hi hl => ?_,hw,hwa,hwf,Nat.le_trans h.ql hlen,h.op.stay fun O cs hO=>hs O _ hO (nq O _ _ hO CV) (np O _ _ hO Km),h.oa,h.tg⟩,⟨hlen,hlow,fun i s pos hi=>hs i _ hi (fun Q e ei => ?_) (fun e => ?_)⟩,fun O cs hO=>hs O _ hO (nq O _ _ hO CV) (np O _ _ hO Km)⟩
 ·obtain ⟨h1,h2,h3⟩:=h.dn i w' l hi hl
  refine ⟨h1.stay fun Q cs e hQ=>hs Q _ hQ (fun Q' e' ei => ?_) (np Q _ _ hQ L8),h2,h3⟩;have a1:=h2 Q _ _ _ _ e;have a2:=h.ab Q' _ _ _ _ e';omega
 ·obtain ⟨ds,hd⟩:=Ia h.cr e
  subst ei;rw [hi] at hd;cases hd
 ·subst e;rw [hi] at hP;cases hP
theorem Ah(l:List aa)(x p:aa):DY (l++[x]) p=sel (p.kind == 1&&x.kind == 1) (l++[{ x with text:=x.text++p.text }]) (l++[x]++[p]):=by
 unfold DY;rw [List.getLast?_concat,List.dropLast_concat]
end
section
attribute [local congr] aw bw aR aA aQ aH aC al ao aI aJ
variable{E:bc}(M:bM b4 E)
end
section
attribute [local congr] aw bw aR aA aQ aH aC al ao aI aJ
variable{E:bc}(M:bM b4 E)
theorem DZ.app{R:Nat→Prop}{c:Nat}{H:List AObj}{S:CSt}{P q:Nat}{vs:List AV}{v:AV}{ta:Tag}{ov:AV}(h:DZ R c H S P q vs v ta ov)(X:List AObj):DZ R c (H++X) S P q vs v ta ov:=
 ⟨h.hn,h.hP,fun i hi=>by have:=h.rl i hi;simp;omega,iw h.cell,iw h.par,h.len,fun i w l hi hl=>⟨(h.dn i w l hi hl).1.stay fun Q cs _ hQ=>iw hQ,(h.dn i w l hi hl).2⟩,h.cr.stay fun Q cs _ hQ=>iw hQ,h.ab,h.pr,by have:=h.ql;simp;omega,h.op.stay fun O cs hO=>iw hO,h.oa,h.tg⟩
theorem yC.app{R:Nat→Prop}{c:Nat}{H:List AObj}{S:CSt}(h:yC R c H S)(X:List AObj):yC R c (H++X) S:=by
 obtain ⟨P,q,vs,v,ta,ov,h⟩:=h;exact ⟨P,q,vs,v,ta,ov,h.app X⟩
theorem yC.le{R:Nat→Prop}{c:Nat}{H:List AObj}{S:CSt}(h:yC R c H S):c<H.length∧∀ i,R i→i<H.length:=by
 obtain ⟨P,q,vs,v,ta,ov,h⟩:=h;exact ⟨gm h.cell,h.rl⟩
theorem Mb{R:Nat→Prop}{G:List AObj}{v:AV}{l:List Str}(h:OpV G v l)(ha:free R v)(hn:∀ i,R i→i<G.length)(hl:l.length≤100000000)(s:Str) :
  ∃ v' G',rap true G aO 1 16 false v (.slice .full 1 [[.str s]])=some (v',G')∧OpV G' v' (l++[s])∧free R v'∧v'.cell=true∧cG v'=some [v']∧Frm R G G'∧∀ (i:Nat) (cs:List AV) (T:TypeId),G[i]?=some (AObj.cells cs T)→T≠aO→G'[i]?=some (AObj.cells cs T):=by
 rcases h with ⟨rfl,rfl⟩ | ⟨O,junk,rfl,hg⟩
 ·refine ⟨.rslice G.length 0 1 1 true,G++[.cells [.str s] aO], ?_,.inr ⟨G.length,[],rfl,by rw [aP];rfl⟩,fun Q o n e r eq hR=>(by cases eq;have:=hn _ hR;omega),rfl,rfl,Frm.app _ _ hn,fun i cs T hi _=>iw hi⟩
  simp only [rap,mH,nZ,or_true,if_true,kU];rw [if_pos (by simp)];rfl
 ·have hlt:=gm hg
  have hO:=ha O _ _ _ _ rfl;have hlen:l.length*1≤(rT l++junk).length:=by rw [List.length_append,oq];omega
  refine ⟨.rslice G.length 0 (l.length+1) 1 true,G.set O .dead++[.cells (rT (l++[s])) aO], ?_,.inr ⟨G.length,[],by simp, ?_⟩,fun Q o n e r eq hR=>(by cases eq;have:=hn _ hR;omega),rfl,rfl,⟨by simp,fun i hi => ?_,fun i s pos hi => ?_⟩,fun i cs T hi hT => ?_⟩
  ·simp only [rap,mH,nZ,or_true,if_true,kU,hg]
   rw [if_pos ⟨trivial,trivial,hlen,by simp;omega,by simp;omega⟩];simp only [Nat.mul_one];rw [List.take_left' (by rw [oq]),yu];rfl
  ·rw [List.append_nil,show G.length=(G.set O .dead).length by simp,aP];rfl
  ·have:=hn i hi
   rw [List.getElem?_append_left (by simp;omega),List.getElem?_set_ne (fun e:O=i=>hO (by rw [e];exact hi))]
  ·have:=(List.getElem?_eq_some_iff.1 hi).1
   rw [List.getElem?_append_left (by simp;omega),List.getElem?_set_ne (fun e=>by subst e;rw [hg] at hi;cases hi)];exact hi
  ·have:=gm hi
   rw [List.getElem?_append_left (by simp;omega),List.getElem?_set_ne (Mq hg hi hT.symm)];exact hi
structure CBd (S:CSt):Prop where
 opn:S.opn.length≤100000
 opt:∀ s∈S.opn,s.length≤100000000
 done:S.done.length≤100000
 cur:S.cur.length≤100000
 txt:∀ x∈S.cur,x.text.length≤100000000
def R1(R:Nat→Prop)(k:Nat):Nat→Prop:=fun i=>R i∨i=k
theorem yC.more{R:Nat→Prop}{c:Nat}{H:List AObj}{S:CSt}(h:yC R c H S)(x:AObj):yC (R1 R H.length) c (H++[x]) S:=by
 obtain ⟨P,q,vs,v,ta,ov,h⟩:=h;have h2:=h.app [x]
 have fr:∀ (w:AV) (l:List aa),PcV H w l→free R w→free (R1 R H.length) w:=fun w l hp hf Q o n e r eq hR=>by
  rcases hR with hR | hR
  ·exact hf Q o n e r eq hR
  ·rcases hp with ⟨_,hv⟩ | ⟨_,Q',hv,hQ⟩
   ·rw [hv] at eq;cases eq
   ·rw [hv] at eq;cases eq;have:=gm hQ;omega
 refine ⟨P,q,vs,v,ta,ov,⟨fun hR => ?_,fun hR => ?_,fun i hi => ?_,h2.cell,h2.par,h2.len,fun i w l hi hl=>⟨(h2.dn i w l hi hl).1,(h2.dn i w l hi hl).2.1,fr w l (h.dn i w l hi hl).1 (h.dn i w l hi hl).2.2⟩,h2.cr,h2.ab,fr v _ h.cr h.pr,h2.ql,h2.op,fun Q o n e r eq hR => ?_,h2.tg⟩⟩
 ·rcases hR with hR | hR
  ·exact h.hn hR
  ·have:=gm h.cell;omega
 ·rcases hR with hR | hR
  ·exact h.hP hR
  ·have:=gm h.par;omega
 ·rcases hi with hi | hi
  ·have:=h.rl i hi;simp;omega
  ·simp;omega
 ·rcases hR with hR | hR
  ·exact h.oa Q o n e r eq hR
  ·rcases h.op with ⟨_,hv⟩ | ⟨O,junk,hv,hO⟩
   ·rw [hv] at eq;cases eq
   ·rw [hv] at eq;cases eq;have:=gm hO;omega
theorem yC.mono{R R':Nat→Prop}{c:Nat}{H:List AObj}{S:CSt}(h:yC R c H S)(hr:∀ i,R' i→R i):yC R' c H S:=by
 obtain ⟨P,q,vs,v,ta,ov,h⟩:=h;exact ⟨P,q,vs,v,ta,ov,⟨fun hR=>h.hn (hr _ hR),fun hR=>h.hP (hr _ hR),fun i hi=>h.rl i (hr i hi),h.cell,h.par,h.len,fun i w l hi hl=>⟨(h.dn i w l hi hl).1,(h.dn i w l hi hl).2.1,fun Q o n e r eq hR=>(h.dn i w l hi hl).2.2 Q o n e r eq (hr _ hR)⟩,h.cr,h.ab,fun Q o n e r eq hR=>h.pr Q o n e r eq (hr _ hR),h.ql,h.op,fun Q o n e r eq hR=>h.oa Q o n e r eq (hr _ hR),h.tg⟩⟩
end
section
attribute [local congr] aw bw aR aA aQ aH aC al ao aI aJ
variable{E:bc}(M:bM b4 E)
end
section
attribute [local congr] aw bw aR aA aQ aH aC al ao aI aJ
variable{E:bc}(M:bM b4 E)
structure CBm (m:Nat) (S:CSt):Prop where
 opn:S.opn.length≤m
 opt:∀ s∈S.opn,s.length≤m
 done:S.done.length≤m
 cur:S.cur.length≤2*m
 txt:∀ x∈S.cur,x.text.length≤m
 place:S.place≤m
theorem CBm.mono{m n:Nat}{S:CSt}(h:CBm m S)(hn:m≤n):CBm n S:=⟨Nat.le_trans h.opn hn,fun s hs=>Nat.le_trans (h.opt s hs) hn,Nat.le_trans h.done hn,by have:=h.cur;omega,fun x hx=>Nat.le_trans (h.txt x hx) hn,Nat.le_trans h.place hn⟩
theorem CBm.bd{m:Nat}{S:CSt}(h:CBm m S)(hm:m≤50000):CBd S:=⟨by have:=h.opn;omega,fun s hs=>by have:=h.opt s hs;omega,by have:=h.done;omega,by have:=h.cur;omega,fun x hx=>by have:=h.txt x hx;omega⟩
theorem Ib(l:List aa)(p:aa):(DY l p).length≤l.length+1:=by
 rcases List.eq_nil_or_concat l with rfl | ⟨t,x,rfl⟩
 ·simp [DY]
 ·rw [List.concat_eq_append,Ah]
  cases p.kind == 1&&x.kind == 1<;>simp [sel_true,sel_false]
theorem Ic{l:List aa}{p:aa}{m w:Nat}(h:∀ x∈l,x.text.length≤m)(hp:p.text.length≤w):∀ x∈DY l p,x.text.length≤m+w:=by
 intro y hy;rcases List.eq_nil_or_concat l with rfl | ⟨t,x,rfl⟩
 ·simp [DY] at hy;subst hy;omega
 ·rw [List.concat_eq_append] at hy h
  rw [Ah] at hy;cases hk:p.kind == 1&&x.kind == 1 with
  |true=>
   rw [hk,sel_true] at hy;rcases List.mem_append.1 hy with hy | hy
   ·have:=h y (List.mem_append_left _ hy);omega
   ·rw [List.mem_singleton] at hy;subst hy
    have:=h x (by simp);simp only [List.length_append];omega
  |false=>
   rw [hk,sel_false] at hy;rcases List.mem_append.1 hy with hy | hy
   ·have:=h y hy;omega
   ·rw [List.mem_singleton] at hy;subst hy;omega
end
section
attribute [local congr] aw bw aR aA aQ aH aC al ao aI aJ
variable{E:bc}(M:bM b4 E)
end
section
attribute [local congr] aw bw aR aA aQ aH aC al ao aI aJ
variable{E:bc}(M:bM b4 E)
end
section
attribute [local congr] aw bw aR aA aQ aH aC al ao aI aJ
variable{E:bc}(M:bM b4 E)
end
section
attribute [local congr] aw bw aR aA aQ aH aC al ao aI aJ
variable{E:bc}(M:bM b4 E)
end
section
attribute [local congr] aw bw aR aA aQ aH aC al ao aI aJ
variable{E:bc}(M:bM b4 E)
structure wv (t:Nat) (R:Nat→Prop) (H:List AObj) (S:CSt) (q:Nat) (vs:List AV) (v ov:AV):Prop where
 rl:∀ i,R i→i<H.length
 tr:¬ R t
 tok:H[t]?=some (.tok (vs.length*1) a8)
 len:vs.length=S.done.length
 dn:∀ (i:Nat) (w:AV) (l:List aa),vs[i]?=some w→S.done[i]?=some l→PcV H w l∧below q w∧free R w
 cr:PcV H v S.cur
 ab:EX q v
 pr:free R v
 ql:q≤H.length
 op:OpV H ov S.opn
 oa:free R ov
structure zB (R:Nat→Prop) (H H':List AObj):Prop where
 len:H.length≤H'.length
 low:∀ i,R i→H'[i]?=H[i]?
theorem zB.refl(R:Nat→Prop)(H:List AObj):zB R H H:=⟨Nat.le_refl _,fun _ _=>rfl⟩
theorem zB.trans{R:Nat→Prop}{A B C:List AObj}(h:zB R A B)(k:zB R B C):zB R A C:=⟨Nat.le_trans h.len k.len,fun i hi=>(k.low i hi).trans (h.low i hi)⟩
theorem wv.turned{t:Nat}{R:Nat→Prop}{H H2:List AObj}{S:CSt}{q:Nat}{vs:List AV}{v w ov:AV}(h:wv t R H S q vs v ov){cur:List aa}(hlen:H.length≤H2.length)(hs:∀ (i:Nat) (y:AObj),H[i]?=some y→(∀ Q,v = .rslice Q 0 S.cur.length 3 true→i≠Q)→H2[i]?=some y)
  (hw:PcV H2 w cur) (hwa:EX q w) (hwf:free R w):wv t R H2 { S with cur:=cur } q vs w ov∧zB R H H2:=by
 have nq:∀ (i:Nat) (y:AObj),H[i]?=some y→(∀ cs,y≠.cells cs ae)→∀ Q,v = .rslice Q 0 S.cur.length 3 true→i≠Q:=fun i y hi hy Q e ei=>by
  obtain ⟨ds,hd⟩:=Ia h.cr e;subst ei;rw [hi] at hd;cases hd;exact hy ds rfl
 refine ⟨⟨fun i hi=>Nat.lt_of_lt_of_le (h.rl i hi) hlen,h.tr,hs t _ h.tok (nq t _ h.tok fun cs e=>by cases e),h.len,fun i w' l hi hl => ?_,hw,hwa,hwf,Nat.le_trans h.ql hlen,h.op.stay fun O cs hO=>hs O _ hO (nq O _ hO fun ds e=>by injection e with _ e;exact CV e),h.oa⟩,⟨hlen,fun i hi => ?_⟩⟩
 ·obtain ⟨h1,h2,h3⟩:=h.dn i w' l hi hl
  refine ⟨h1.stay fun Q cs e hQ=>hs Q _ hQ fun Q' e' ei => ?_,h2,h3⟩;have a1:=h2 Q _ _ _ _ e;have a2:=h.ab Q' _ _ _ _ e';omega
 ·have hin:=h.rl i hi
  rw [List.getElem?_eq_getElem hin];exact hs i _ (List.getElem?_eq_getElem hin) fun Q e ei=>h.pr Q _ _ _ _ e (ei ▸ hi)
theorem wv.more{t:Nat}{R:Nat→Prop}{H:List AObj}{S:CSt}{q:Nat}{vs:List AV}{v ov:AV}(h:wv t R H S q vs v ov)(hl:S.cur.length≤100000000)(p:aa) :
  ∃ w G,rap true H ae 3 32 false v (.slice .full 3 [p.row])=some (w,G)∧wv t R G { S with cur:=S.cur++[p] } q vs w ov∧zB R H G:=by
 obtain ⟨G,a1,a2,a3,a4⟩:=Ma h.cr hl p
 obtain ⟨b1,b2⟩:=h.turned (H2:=G) (cur:=S.cur++[p]) (w:=.rslice H.length 0 (S.cur.length+1) 3 true) (by omega) (fun i y hi hne=>by
  rw [a4 i (List.getElem?_eq_some_iff.1 hi).1 hne];exact hi) (.inr ⟨by simp,H.length,by simp,a2⟩) (fun Q o n e r eq=>by cases eq;exact h.ql) (fun Q o n e r eq hR=>by cases eq;have:=h.rl _ hR;omega)
 exact ⟨_,G,a1,b1,b2⟩
theorem F6{H:List AObj}{v:AV}{l:List aa}(h:PcV H v l):v.strip=v:=by
 rcases h with ⟨rfl,rfl⟩ | ⟨_,Q,rfl,_⟩<;>rfl
theorem wv.push{t:Nat}{R:Nat→Prop}{H:List AObj}{S:CSt}{q:Nat}{vs:List AV}{v ov:AV}(h:wv t R H S q vs v ov)(hd:S.done.length≤100000000) :
  rap false H a8 1 24 false (.slice (.own t) 1 (vs.map ES)) (.slice .full 1 [[v]])=some (.slice (.own t) 1 ((vs++[v]).map ES),H.set t (.tok ((vs++[v]).length*1) a8)) ∧
   wv t R (H.set t (.tok ((vs++[v]).length*1) a8)) { S with done:=S.done++[S.cur],cur:=[] } H.length (vs++[v]) (.slice .nil 3 []) ov∧zB R H (H.set t (.tok ((vs++[v]).length*1) a8)):=by
 have htl:=(List.getElem?_eq_some_iff.1 h.tok).1
 have hs:∀ {i:Nat}{cs:List AV}{T:TypeId},H[i]?=some (.cells cs T)→(H.set t (.tok ((vs++[v]).length*1) a8))[i]?=some (.cells cs T):=fun {i cs T} hi=>by
  rw [List.getElem?_set_ne (fun e=>by subst e;have:=h.tok;rw [hi] at this;cases this)];exact hi
 have hvs:=h.len;refine ⟨L6 (row:=ES) (l:=vs) (x:=v) (r:=[v]) (sz:=1) (bytes:=24) h.tok rfl (by simp [(H9 h.cr).1]) (by simp [F6 h.cr,ES]) (by omega) (by omega),⟨fun i hi=>by simpa using h.rl i hi,h.tr,List.getElem?_set_self htl,by simp [hvs],fun i w l hi hl => ?_,.inl ⟨rfl,rfl⟩,fun Q o n e r eq=>(by cases eq),fun Q o n e r eq=>(by cases eq),by simp,h.op.stay fun O cs hO=>hs hO,h.oa⟩,⟨by simp,fun i hi=>List.getElem?_set_ne (fun e:t=i=>h.tr (by rw [e];exact hi))⟩⟩
 by_cases hlt:i<vs.length
 ·rw [List.getElem?_append_left hlt] at hi
  rw [List.getElem?_append_left (by omega)] at hl;obtain ⟨d1,d2,d3⟩:=h.dn i w l hi hl;exact ⟨d1.stay fun Q cs _ hQ=>hs hQ,fun Q o n e r eq=>Nat.lt_of_lt_of_le (d2 Q o n e r eq) h.ql,d3⟩
 ·have hi2:i=vs.length:=by
   have:=(List.getElem?_eq_some_iff.1 hi).1;simp at this;omega
  subst hi2;rw [List.getElem?_append_right (Nat.le_refl _),Nat.sub_self,List.getElem?_cons_zero] at hi;rw [List.getElem?_append_right (by omega),show vs.length-S.done.length=0 by omega,List.getElem?_cons_zero] at hl;cases hi;cases hl;refine ⟨h.cr.stay fun Q cs _ hQ=>hs hQ,fun Q o n e r eq => ?_,h.pr⟩;rcases h.cr with ⟨_,hv⟩ | ⟨_,Q',hv,hQ⟩
  ·rw [hv] at eq;cases eq
  ·rw [hv] at eq;cases eq;exact gm hQ
end
section
attribute [local congr] aw bw aR aA aQ aH aC al ao aI aJ
variable{E:bc}(M:bM b4 E)
theorem wv.open{t:Nat}{R:Nat→Prop}{H:List AObj}{S:CSt}{q:Nat}{vs:List AV}{v ov:AV}(h:wv t R H S q vs v ov)(hl:S.opn.length≤100000)(s:Str) :
  ∃ w G,rap true H aO 1 16 false ov (.slice .full 1 [[.str s]])=some (w,G)∧wv t R G { S with opn:=S.opn++[s] } q vs v w∧zB R H G:=by
 obtain ⟨w,G,a1,a2,a3,a4,a5,a6,a7⟩:=Mb h.op h.oa h.rl (by omega) s
 have tk:G[t]?=some (.tok (vs.length*1) a8):=by
  have htok:=h.tok
  have:∀ O,ov≠.rslice O 0 S.opn.length 1 true∨t≠O:=fun O=>by
   rcases h.op with ⟨_,e⟩ | ⟨O',junk,e,hO⟩
   ·left;rw [e];intro h;cases h
   ·by_cases ht:t=O
    ·left;rw [e];intro h2;cases h2;rw [ht,hO] at htok;cases htok
    ·exact .inr ht
  rcases h.op with ⟨e0,e⟩ | ⟨O',junk,e,hO⟩
  ·rw [e] at a1
   simp only [rap,mH,nZ,or_true,if_true,kU] at a1;rw [if_pos (by simp)] at a1;cases a1;exact iw htok
  ·rw [e] at a1
   have hlen:S.opn.length*1≤(rT S.opn++junk).length:=by rw [List.length_append,oq];omega
   simp only [rap,mH,nZ,or_true,if_true,kU,hO] at a1;rw [if_pos ⟨trivial,trivial,hlen,by simp;omega,by simp;omega⟩] at a1;cases a1;have htl:=(List.getElem?_eq_some_iff.1 htok).1;rw [List.getElem?_append_left (by simp;omega),List.getElem?_set_ne (fun e=>by subst e;rw [hO] at htok;cases htok)];exact htok
 exact ⟨w,G,a1,⟨fun i hi=>by have:=h.rl i hi;have:=a6.len;omega,h.tr,tk,h.len,fun i w' l hi hl=>⟨(h.dn i w' l hi hl).1.stay fun Q cs _ hQ=>a7 Q _ _ hQ CV.symm,(h.dn i w' l hi hl).2⟩,h.cr.stay fun Q cs _ hQ=>a7 Q _ _ hQ CV.symm,h.ab,h.pr,by have:=h.ql;have:=a6.len;omega,a2,a3⟩,⟨a6.len,a6.low⟩⟩
end
section
attribute [local congr] aw bw aR aA aQ aH aC al ao aI aJ
variable{E:bc}(M:bM b4 E)
end
section
attribute [local congr] aw bw aR aA aQ aH aC al ao aI aJ
variable{E:bc}(M:bM b4 E)
end
section
attribute [local congr] aw bw aR aA aQ aH aC al ao aI aJ
variable{E:bc}(M:bM b4 E)
def Mr(pos:List Int)(T:CSt):Bool:=decide (T.done.length<pos.length)&&((T.place:Int) == pos.getD T.done.length 0)
structure RelC (pos:List Int) (S T:CSt):Prop where
 done:S.done=T.done
 cur:S.cur=T.cur
 opn:S.opn=T.opn
 place:S.place=T.place
 due:S.due=Mr pos T
 pos:S.pos=pos.drop (T.done.length+(if S.due=true then 1 else 0))
end
section
attribute [local congr] aw bw aR aA aQ aH aC al ao aI aJ
variable{E:bc}(M:bM b4 E)
theorem OpV.own{H H':List AObj}{v:AV}{l:List Str}(h:OpV H v l)(hs:∀ (O:Nat) (y:AObj),v = .rslice O 0 l.length 1 true→H[O]?=some y→H'[O]?=some y):OpV H' v l:=by
 rcases h with h | ⟨O,junk,h1,h2⟩
 ·exact .inl h
 ·exact .inr ⟨O,junk,h1,hs O _ h1 h2⟩
end
section
attribute [local congr] aw bw aR aA aQ aH aC al ao aI aJ
variable{E:bc}(M:bM b4 E)
end
section
attribute [local congr] aw bw aR aA aQ aH aC al ao aI aJ
variable{E:bc}(M:bM b4 E)
def F7(m:Nat)(cur:List aa):Prop:=cur.length≤m∧∀ x∈cur,x.text.length≤m
theorem F7.put{m:Nat}{cur:List aa}(h:F7 m cur)(p:aa):F7 (m+(p.text.length+1)) (DY cur p):=
 ⟨by have:=Ib cur p;have:=h.1;omega,fun x hx=>by have:=Ic h.2 (Nat.le_refl p.text.length) x hx;omega⟩
theorem F7.mono{m n:Nat}{cur:List aa}(h:F7 m cur)(hn:m≤n):F7 n cur:=⟨Nat.le_trans h.1 hn,fun x hx=>Nat.le_trans (h.2 x hx) hn⟩
end
section
attribute [local congr] aw bw aR aA aQ aH aC al ao aI aJ
variable{E:bc}(M:bM b4 E)
end
section
attribute [local congr] aw bw aR aA aQ aH aC al ao aI aJ
variable{E:bc}(M:bM b4 E)
theorem JK(n:Nat)(l:List Str):gJ n (l.map bK):=by
 rw [rowsWk_map];exact fun _ _=>⟨wk_str _ _,trivial⟩
end
section
attribute [local congr] aw bw aR aA aQ aH aC al ao aI aJ
variable{E:bc}(M:bM b4 E)
end
section
attribute [local congr] aw bw aR aA aQ aH aC al ao aI aJ
variable{E:bc}(M:bM b4 E)
end
section
attribute [local congr] aw bw aR aA aQ aH aC al ao aI aJ
variable{E:bc}(M:bM b4 E)
theorem EY(hB:sL E)(hX:wj M)(H L:List AObj){w s:Str}{a:AV}(ha:a = .nilp∨a = .ptr (H.length+1) 0)(h:w.length+s.length≤140737488355328) :
  M.run bU [.ptr (H.length+1) 0,.str s] (H++(bTok w::da a H.length w aq::L))=some (.ret (.tuple [.int .i64 s.length,.nilif]),H++(bTok (w++s)::da (.ptr (H.length+1) 0) H.length (w++s) aq::L)):=by
 rcases ha with rfl | rfl
 ·exact uN M (T:=0) hB hX H L h
 ·exact uO M hB hX H L h
theorem JL{α:Type}(H:List α)(x y z:α):(H++[x,y])++[z]=H++[x,y,z]:=by simp
end
def NA:Bool→List aa→Prop
 |_,[]=>True
 |p,x::l=>(p&&(x.kind == 1))=false∧NA (x.kind == 1) l
def JM(x:aa):Bool := !(x.kind == 1)||(!(x.text == [])&&sa x.text)
def nxt(st:List Str)(x:aa):List Str:=if x.kind == 2 then x.text::st else if x.kind == 3 then st.tail else st
def okW(b e:Bool)(st:List Str)(x:aa):Bool:=
 !rh x&&(!DQ x&&(JM x&&(!DS x&&(mY b e x&&(!((x.kind == 3) && !tR st x.text) && !((x.kind == 2)&&decide ((16:Int)<((x.text::st).length:Int))))))))
def Wok:List aa→Bool→Bool→List Str→Prop
 |[],_,_,_=>True
 |x::l,b,e,st=>okW b e st x=true∧Wok l (b || !dt x) (e||cA x) (nxt st x)
def sF(st:List Str)(l:List aa):List Str:=l.foldl nxt st
theorem k23{x:aa}(h:(x.kind == 2)=true):(x.kind == 1)=false∧(x.kind == 3)=false∧(x.kind == 5)=false:=by
 rw [eq_of_beq h];exact ⟨rfl,rfl,rfl⟩
theorem EZ(x:aa)(st:List Str):(if x.kind == 2 then x.text::stP x st else stP x st)=nxt st x:=by
 unfold stP nxt;cases c2:x.kind == 2 with
 |true=>simp [(k23 c2).2.1]
 |false=>simp only [Bool.false_eq_true,if_false]
theorem Ie{p:Bool}{x:aa}:CH p x=false↔JM x=true∧(p&&(x.kind == 1))=false:=by
 unfold CH JM;cases x.kind == 1<;>cases x.text == []<;>cases sa x.text<;>cases p<;>simp
theorem CW:∀ (l:List aa) (p b e:Bool) (st:List Str),wm l p b e st=0↔NA p l∧Wok l b e st∧sF st l=[]
 |[],p,b,e,st=>by
  unfold wm NA Wok sF;cases st<;>simp [sel]<;>omega
 |x::l,p,b,e,st=>by
  have ih:=CW l (x.kind == 1) (b || !dt x) (e||cA x) (nxt st x);rw [wm,NA,Wok,show sF st (x::l)=sF (nxt st x) l from rfl];unfold okW;cases c1:rh x with
  |true=>simp [sel]
  |false=>
  cases c2:DQ x with
  |true=>simp [sel]
  |false=>
  cases c3:CH p x with
  |true=>
   have h3:¬ (JM x=true∧(p&&(x.kind == 1))=false):=fun h=>by rw [Ie.2 h] at c3;cases c3
   simp only [sel];constructor
   ·intro h;cases h
   ·rintro ⟨⟨h1,_⟩,⟨h2,_⟩,_⟩
    simp only [Bool.and_eq_true] at h2;exact absurd ⟨h2.2.2.1,h1⟩ h3
  |false=>
  obtain ⟨t1,t2⟩:=Ie.1 c3;rw [t1,t2];cases c4:DS x with
  |true=>simp [sel]
  |false=>
  cases c5:mY b e x with
  |false=>simp [sel]
  |true=>
  cases c6:(x.kind == 3) && !tR st x.text with
  |true=>simp [sel]
  |false=>
  cases c7:x.kind == 2 with
  |false=>
   have hs:stP x st=nxt st x:=by have:=EZ x st;rwa [c7,if_neg (by simp)] at this
   rw [hs];simp only [sel,Bool.not_false,Bool.true_and,Bool.false_and,true_and];exact ih
  |true=>
   have hs:x.text::stP x st=nxt st x:=by have:=EZ x st;rwa [c7,if_pos rfl] at this
   have hp:stP x st=st:=by unfold stP;rw [if_neg (by rw [(k23 c7).2.1];simp)]
   have h2:nxt st x=x.text::st:=by rw [← hs,hp]
   rw [hs,h2];rw [h2] at ih;cases c8:decide ((16:Int)<((x.text::st).length:Int)) with
   |true=>simp [sel]
   |false=>
    simp only [sel,Bool.not_false,Bool.true_and,true_and];exact ih
theorem D0(l:List aa):jd l=0↔l.length≤512∧NA false l∧Wok l false false []∧sF [] l=[]:=by
 unfold jd;cases c:decide ((512:Int)<(l.length:Int)) with
 |true=>
  have:=of_decide_eq_true c;simp only [sel];constructor
  ·intro h;cases h
  ·intro h;omega
 |false=>
  have:=of_decide_eq_false c;rw [sel_false,CW];constructor
  ·intro h;exact ⟨by omega,h⟩
  ·intro h;exact h.2
section
attribute [local congr] aw bw aR aA aQ aH aC al ao aI aJ
variable{E:bc}(M:bM b4 E)
structure If (E:bc):Prop where
 truchmanref01_form:E.fn iH=some eA
theorem E1:∀ {l:List aa}{b e:Bool}{st:List Str},Wok l b e st→∀ x∈l,rh x=false
 |y::l,b,e,st,h,x,hx=>by
  rcases List.mem_cons.1 hx with rfl | hx
  ·have:=h.1
   unfold okW at this;simp only [Bool.and_eq_true,Bool.not_eq_true'] at this;exact this.1
  ·exact E1 h.2 x hx
theorem vm{l:List aa}(h:jd l=0):∀ x∈l,rh x=false:=E1 ((D0 l).1 h).2.2.1
def jf(l:List aa):Str:=(l.map wrF).flatten
theorem sN(x:aa)(l:List aa):jf (x::l)=wrF x++jf l:=rfl
theorem JN{x:aa}(h:rh x=false):(wrF x).length≤2*x.text.length+4:=by
 have hp:(jT x).length≤1:=by unfold jT;cases x.car<;>simp [sel]
 have he:=tS x.text;have hs:spc x.text≤x.text.length:=List.countP_le_length
 have hk:x.kind=1∨x.kind=2∨x.kind=3∨x.kind=4∨x.kind=5:=by
  unfold rh at h;simp at h;omega
 unfold wrF;rcases hk with k | k | k | k | k<;>(rw [k];simp [sel];try omega)
theorem Ai:∀ {l:List aa},(∀ x∈l,rh x=false)→(jf l).length≤2*rk l+4*l.length
 |[],_=>Nat.zero_le _
 |x::l,h=>by
  have h1:=JN (h x (by simp));have h2:=Ai (l:=l) fun y hy=>h y (by simp [hy])
  rw [sN,List.length_append,rk,List.map_cons,List.sum_cons,List.length_cons];unfold rk at h2;omega
theorem Bu(hS:uP E)(hR:wt E)(hX:yx M)(hE:CS M){x:aa}(hx:rh x=false)(hl:x.text.length≤1000000000)(H:List AObj):M.run eY [.agg x.row] H=some (.ret (.str (wrF x)),H):=by
 cases k:x.kind == 1 with
 |true=>
  have e:=eq_of_beq k;rw [Bq M hS hR hX hE e hl H];unfold wrF;rw [e];rfl
 |false=>
  have hk:JF x=true:=by
   have:x.kind=2∨x.kind=3∨x.kind=4∨x.kind=5:=by
    unfold rh at hx
    have:x.kind≠1:=by simpa using k
    simp at hx;omega
   unfold JF;rcases this with k | k | k | k<;>(rw [k];rfl)
  exact CM M hS hk (by omega) H
theorem rfr(hS:uP E){l:List aa}{tg:Tag}(hl:l.length≤bN)(hxs:∀ x∈l,x.text.length≤1000000){H H0:List AObj}(k:List Fra):∀ (n i:Nat) (w:Str) (He:List AObj),i+n=l.length→w.length+(jf (l.drop i)).length≤100000000 →
  M.go eA H0 (.c dK :: .lp ⟨(some [0,3,4]),[],false⟩ dK He :: .blk 0 :: .c (.lv [3])::k) (kv [(0,.slice tg 3 (l.map aa.row)),(3,.str w),(4,.int .i64 i)]) H=M.go eA H0 k (kv [(3,.str (w++jf (l.drop i)))]) H
 |0,i,w,He,h,hw0=>by
  have e:i=l.length:=by omega
  subst e;rw [List.drop_length,show jf []=[] from rfl,List.append_nil];rw [ak M dK.eq_1];simp (maxSteps:=3000000) (maxDischargeDepth:=6) +contextual -implicitDefEqProofs only [amC M,↓amD,Nat.reduceBEq,Nat.reduceAdd,env,ag,iU,Nat.lt_irrefl]
 |n+1,i,w,He,h,hw0=>by
  have hi:i<l.length:=by omega
  have hx:l[i]?=some l[i]:=List.getElem?_eq_getElem hi;have hwi:=en (n:=l.length) hi hl;have hir:=bt (row:=aa.row) (tag:=tg) (sz:=3) (k:=.i64) hi;have hm:=hxs _ (List.getElem_mem hi);have hwr:=fun H=>Br M hS (x:=l[i]) (by omega) H
  rw [List.drop_eq_getElem_cons hi,sN] at hw0 ⊢;rw [List.length_append] at hw0;have ha:bj .add w (wrF l[i])=some (.str (w++wrF l[i])):=bp (by omega);rw [← List.append_assoc];have ih:=fun He=>rfr hS hl hxs (tg:=tg) (H:=H) (H0:=H0) k n (i+1) (w++wrF l[i]) He (by omega) (by rw [List.length_append];omega)
  simp only [kv_cons,kv_nil] at ih;rw [ak M dK.eq_1];simp (maxSteps:=3000000) (maxDischargeDepth:=6) +contextual -implicitDefEqProofs only [amC M,↓amD,Nat.reduceBEq,Nat.reduceAdd,env,ag,iU,amG,AV.cell,Nat.reduceMul,Nat.reduceLeDiff,hi,hx,hir,hwi,bu,hwr,ha,ih]
end
section
attribute [local congr] aw bw aR aA aQ aH aC al ao aI aJ
variable{E:bc}(M:bM b4 E)
structure pq (E:bc):Prop where
 truchmanlaw01_vast:E.fn fw=some ew
 slices_IndexFunc_api_Piece_api_Piece:E.fn cQ=some aW
 slices_ContainsFunc_api_Piece_api_Piece:E.fn bO=some cE
 docs_whole_1:E.fn mM=some mU
 docs_whole:E.fn oT=some o5
 docs_raw_1:E.fn oV=some o7
 docs_raw:E.fn sn=some ss
 docs_Check:E.fn mb=some ku
 truchmanref01_Whole:E.fn gP=some dY
 truchmanref01_bare:E.fn iK=some eD
 truchmanref01_inBlock:E.fn fQ=some fW
 truchmanref01_Check:E.fn fg=some dX
 truchmanref01_Same:E.fn iG=some ey
def vsN(m:Nat)(l:List aL):Nat:=l.foldl (fun m b=>m+b.pieces.l.length+(jQ b.pieces.l).length) m
def vsB(l:List aL):Bool:=l.any fun b=>yA [b.pieces]
def Aj(l:List aL):Bool:=sel (vsB (l.take 300)) true (decide (3500<vsN l.length (l.take 300)))
theorem vst(hB:kH E)(hU:HZ E){bl:List aL}{tg:Tag}(hbl:bl.length≤bN)(hok:∀ b∈bl,b.pieces.ok 0 (aa.ok 0)){H0 H:List AObj}(hc:dg H0 H){p:Nat}(hp:H[p]?=some (.cells [.slice tg 2 (bl.map aL.row)] ah))(k:List Fra):∀ (n i m:Nat) (He:List AObj),i+n=(bl.take 300).length→m≤bN+i*10000 →
  M.go ew H0 (.c ct :: .lp ⟨(some [1,3,4]),[],false⟩ ct He :: .blk 0 :: .c (.lv [3])::k) (kv [(1,.ptr p 0),(3,.int .i64 m),(4,.int .i64 i)]) H =
   sel (vsB ((bl.take 300).drop i)) (some (.ret (.bool true),H.take H0.length)) (M.go ew H0 k (kv [(3,.int .i64 (vsN m ((bl.take 300).drop i):Nat))]) H)
 |0,i,m,He,h,hm=>by
  rw [List.drop_of_length_le (by omega),show vsB []=false from rfl,sel_false,show vsN m []=m from rfl];rw [List.length_take] at h;have l1:∀ x:AV,bW none [x] 0=some x:=fun _=>rfl
  by_cases hi:i<bl.length
  ·have d3:decide ((i:Int)<300)=false:=decide_eq_false (by omega)
   rw [ak M ct.eq_1];simp (maxSteps:=3000000) (maxDischargeDepth:=6) +contextual -implicitDefEqProofs only [amC M,↓amD,Nat.reduceBEq,Nat.reduceAdd,env,ag,dy,hp,l1,List.length_map,hi,d3]
  ·rw [ak M ct.eq_1]
   simp (maxSteps:=3000000) (maxDischargeDepth:=6) +contextual -implicitDefEqProofs only [amC M,↓amD,Nat.reduceBEq,Nat.reduceAdd,env,ag,dy,hp,l1,List.length_map,hi]
 |n+1,i,m,He,h,hm=>by
  have hit:i<(bl.take 300).length:=by omega
  have hi:i<bl.length:=by rw [List.length_take] at hit;omega
  have h3:i<300:=by rw [List.length_take] at hit;omega
  have hx:bl[i]?=some bl[i]:=List.getElem?_eq_getElem hi;have hd:((bl.take 300).drop i)=bl[i]::(bl.take 300).drop (i+1):=by rw [List.drop_eq_getElem_cons hit,List.getElem_take]
  have d3:decide ((i:Int)<300)=true:=decide_eq_true (by omega);have l1:∀ x:AV,bW none [x] 0=some x:=fun _=>rfl
  have hwi:=en (n:=bl.length) hi hbl;have hir:=bt (row:=aL.row) (tag:=tg) (sz:=2) (k:=.i64) hi;have hk:=hok _ (List.getElem_mem hi);have hlg:=fun H=>F5 M hB hk H
  rw [hd,show vsB (bl[i]::(bl.take 300).drop (i+1))=(yA [bl[i].pieces]||vsB ((bl.take 300).drop (i+1))) from rfl];cases c0:yA [bl[i].pieces] with
  |true=>
   rw [Bool.true_or,sel_true];rw [ak M ct.eq_1];simp (maxSteps:=3000000) (maxDischargeDepth:=6) +contextual -implicitDefEqProofs only [amC M,↓amD,Nat.reduceBEq,Nat.reduceAdd,env,ag,dy,amG,AV.cell,Nat.reduceMul,Nat.reduceLeDiff,hp,l1,List.length_map,hi,hx,d3,hir,eI,qE,hlg,c0,hc]
  |false=>
   have hlo:=Af c0;have hpl:=yB bl[i].pieces.l;have hpr:=fun H=>F4 M hU (l:=bl[i].pieces.l) (tg:=bl[i].pieces.tag) hk.len (by omega) H
   have hw1:IntKind.i64.wrap ((m:Int)+(bl[i].pieces.l.length:Int))=((m+bl[i].pieces.l.length:Nat):Int):=by rw [eX (by omega) (by simp only [bN] at hm;omega)];omega
   have hw2:IntKind.i64.wrap (((m+bl[i].pieces.l.length:Nat):Int)+((jQ bl[i].pieces.l).length:Int))=((m+bl[i].pieces.l.length+(jQ bl[i].pieces.l).length:Nat):Int):=by rw [eX (by omega) (by simp only [bN] at hm;omega)];omega
   have ih:=fun He=>vst hB hU hbl hok hc hp k n (i+1) (m+bl[i].pieces.l.length+(jQ bl[i].pieces.l).length) He (by omega) (by omega)
   simp only [kv_cons,kv_nil] at ih;rw [Bool.false_or,show vsN m (bl[i]::(bl.take 300).drop (i+1))=vsN (m+bl[i].pieces.l.length+(jQ bl[i].pieces.l).length) ((bl.take 300).drop (i+1)) from rfl];rw [ak M ct.eq_1];simp (maxSteps:=3000000) (maxDischargeDepth:=6) +contextual -implicitDefEqProofs only [amC M,↓amD,Nat.reduceBEq,Nat.reduceAdd,env,ag,dy,amG,AV.cell,Nat.reduceMul,Nat.reduceLeDiff,hp,l1,List.length_map,hi,hx,d3,hir,eI,qE,hlg,c0,hpr,hw1,hw2,hwi,ih]
theorem CX(hB:kH E)(hU:HZ E)(hS:pq E){d:Docu}(hd:d.ok 0)(H:List AObj):M.run fw [.agg d.row] H=some (.ret (.bool (Aj d.blocks.l)),H):=by
 have gx:=aP H [AObj.cells d.row ah];rw [List.getElem?_cons_zero] at gx;have h1:=fun k He=>vst M hB hU hd.blocks.len (fun b hb=>(hd.blocks.all b hb).pieces) (cut_app H [AObj.cells d.row ah]) gx k (d.blocks.l.take 300).length 0 d.blocks.l.length He (by omega) (by have:=hd.blocks.len;omega)
 simp only [kv_cons,kv_nil,Int.ofNat_zero,List.drop_zero,hp_take] at h1;have l1:∀ x:AV,bW none [x] 0=some x:=fun _=>rfl
 have h2:decide ((3500:Int)<(vsN d.blocks.l.length (d.blocks.l.take 300):Int))=decide (3500<vsN d.blocks.l.length (d.blocks.l.take 300)):=by rw [Bool.eq_iff_iff];simp;omega
 rw [bJ M hS.truchmanlaw01_vast rfl (c:=iP) rfl,iP];unfold Aj;cases c:vsB (d.blocks.l.take 300) with
 |true=>
  simp only [c,sel_true] at h1;simp (maxSteps:=3000000) (maxDischargeDepth:=6) +contextual -implicitDefEqProofs only [amC M,↓amD,Nat.reduceBEq,Nat.reduceAdd,env,ag,dy,amG,AV.cell,Nat.reduceMul,Nat.reduceLeDiff,gx,jR,List.length_map,h1]
 |false=>
  simp only [c,sel_false] at h1;simp (maxSteps:=3000000) (maxDischargeDepth:=6) +contextual -implicitDefEqProofs only [amC M,↓amD,Nat.reduceBEq,Nat.reduceAdd,env,ag,dy,amG,AV.cell,Nat.reduceMul,Nat.reduceLeDiff,gx,jR,List.length_map,h1,h2,hp_take,cut_app]
end
section
attribute [local congr] aw bw aR aA aQ aH aC al ao aI aJ
variable{E:bc}(M:bM b4 E)
theorem ixp(hS:pq E){g:FuncId}{q:aa→Bool}(hg:∀ (x:aa) H,M.run g [.agg x.row] H=some (.ret (.bool (q x)),H)){G H0:List AObj}(hc:dg H0 G){l:List aa}{tg:Tag}(hb:l.length≤bN):∀ (n i:Nat),i+n=l.length →
  sel ((l.drop i).any q) (∃ j:Nat,∀ (k:List Fra) (He:List AObj),M.go aW H0 (.c au :: .lp ⟨(some [0,1,7,8]),[],false⟩ au He :: .blk 0 :: .c (.lv [])::k) (kv [(0,.slice tg 3 (l.map aa.row)),(1,.fn (.func g) [] []),(7,.int .i64 l.length),(8,.int .i64 i)]) G=some (.ret (.int .i64 j),G.take H0.length))
   (∀ (k:List Fra) (He:List AObj),M.go aW H0 (.c au :: .lp ⟨(some [0,1,7,8]),[],false⟩ au He :: .blk 0 :: .c (.lv [])::k) (kv [(0,.slice tg 3 (l.map aa.row)),(1,.fn (.func g) [] []),(7,.int .i64 l.length),(8,.int .i64 i)]) G=M.go aW H0 k .leaf G)
 |0,i,h=>by
  have e:i=l.length:=by omega
  subst e;rw [List.drop_length,List.any_nil,sel_false];intro k He;rw [ak M au.eq_1];simp (maxSteps:=3000000) (maxDischargeDepth:=6) +contextual -implicitDefEqProofs only [amC M,↓amD,Nat.reduceBEq,Nat.reduceAdd,env,ag,bH,Nat.lt_irrefl]
 |n+1,i,h=>by
  have hi:i<l.length:=by omega
  have hx:l[i]?=some l[i]:=List.getElem?_eq_getElem hi;have hd:(l.drop i)=l[i]::l.drop (i+1):=List.drop_eq_getElem_cons hi;have hf:=hg l[i];have hia:=bt (row:=aa.row) (tag:=tg) (sz:=3) (k:=.i64) hi;have hwi:=en (n:=l.length) hi hb;rw [hd,List.any_cons];cases hbg:q l[i] with
  |true=>
   rw [Bool.true_or,sel_true];refine ⟨i,fun k He => ?_⟩;rw [ak M au.eq_1];simp (maxSteps:=3000000) (maxDischargeDepth:=6) +contextual -implicitDefEqProofs only [amC M,↓amD,Nat.reduceBEq,Nat.reduceAdd,env,ag,bH,hi,hx,hia,bu,hf,hbg,hc]
  |false=>
   have ih:=ixp hS hg hc (tg:=tg) hb n (i+1) (by omega);rw [Bool.false_or]
   have step:∀ (k:List Fra) (He:List AObj),M.go aW H0 (.c au :: .lp ⟨(some [0,1,7,8]),[],false⟩ au He :: .blk 0 :: .c (.lv [])::k) (kv [(0,.slice tg 3 (l.map aa.row)),(1,.fn (.func g) [] []),(7,.int .i64 l.length),(8,.int .i64 i)]) G=M.go aW H0 (.c au :: .lp ⟨(some [0,1,7,8]),[],false⟩ au G :: .blk 0 :: .c (.lv [])::k) (kv [(0,.slice tg 3 (l.map aa.row)),(1,.fn (.func g) [] []),(7,.int .i64 l.length),(8,.int .i64 ((i+1:Nat):Int))]) G:=fun k He=>by
    rw [ak M au.eq_1];simp (maxSteps:=3000000) (maxDischargeDepth:=6) +contextual -implicitDefEqProofs only [amC M,↓amD,Nat.reduceBEq,Nat.reduceAdd,env,ag,bH,hi,hx,hia,bu,hf,hbg,hwi]
   cases ha:(l.drop (i+1)).any q with
   |true=>
    rw [ha,sel_true] at ih;rw [sel_true];obtain ⟨j,ih⟩:=ih;exact ⟨j,fun k He=>by rw [step k He,ih k G]⟩
   |false=>
    rw [ha,sel_false] at ih;rw [sel_false];exact fun k He=>by rw [step k He,ih k G]
theorem E2(hS:pq E){g:FuncId}{q:aa→Bool}(hg:∀ (x:aa) H,M.run g [.agg x.row] H=some (.ret (.bool (q x)),H)){l:List aa}{tg:Tag}(hb:l.length≤bN)(G:List AObj) :
  M.run bO [.slice tg 3 (l.map aa.row),.fn (.func g) [] []] G=some (.ret (.bool (l.any q)),G):=by
 have h:=ixp M hS hg (cut_refl G) (tg:=tg) hb l.length 0 (by omega);rw [List.drop_zero] at h
 have hi:∃ z:Int,decide ((0:Int)≤z)=l.any q∧M.run cQ [.slice tg 3 (l.map aa.row),.fn (.func g) [] []] G=some (.ret (.int .i64 z),G):=by
  cases ha:l.any q with
  |true=>
   rw [ha,sel_true] at h;obtain ⟨j,h⟩:=h;simp only [kv_cons,kv_nil,Int.ofNat_zero] at h;refine ⟨(j:Int),decide_eq_true (by omega), ?_⟩;rw [bJ M hS.slices_IndexFunc_api_Piece_api_Piece rfl (c:=bG) rfl,bG];simp (maxSteps:=3000000) (maxDischargeDepth:=6) +contextual -implicitDefEqProofs only [amC M,↓amD,Nat.reduceBEq,Nat.reduceAdd,env,ag,bH,List.length_map,h,hp_self]
  |false=>
   rw [ha,sel_false] at h;simp only [kv_cons,kv_nil,Int.ofNat_zero] at h;refine ⟨-1,rfl, ?_⟩;rw [bJ M hS.slices_IndexFunc_api_Piece_api_Piece rfl (c:=bG) rfl,bG];simp (maxSteps:=3000000) (maxDischargeDepth:=6) +contextual -implicitDefEqProofs only [amC M,↓amD,Nat.reduceBEq,Nat.reduceAdd,env,ag,bH,List.length_map,h,hp_self,cut_refl]
 obtain ⟨z,z1,z2⟩:=hi;rw [bJ M hS.slices_ContainsFunc_api_Piece_api_Piece rfl (c:=cD) rfl,cD];simp (maxSteps:=3000000) (maxDischargeDepth:=6) +contextual -implicitDefEqProofs only [amC M,↓amD,Nat.reduceBEq,Nat.reduceAdd,env,ag,gr,z2,z1]
theorem D1(hS:pq E)(x:aa)(H:List AObj):M.run mM [.agg x.row] H=some (.ret (.bool x.car),H):=by
 have gx:=aP H [AObj.cells x.row ae];rw [List.getElem?_cons_zero] at gx;rw [bJ M hS.docs_whole_1 rfl (c:=mT) rfl,mT];simp (maxSteps:=3000000) (maxDischargeDepth:=6) +contextual -implicitDefEqProofs only [amC M,↓amD,Nat.reduceBEq,Nat.reduceAdd,env,ag,xX,amG,AV.cell,Nat.reduceMul,Nat.reduceLeDiff,gx,bu,hp_take,cut_app]
theorem Ig(hS:pq E)(x:aa)(H:List AObj):M.run oV [.agg x.row] H=some (.ret (.bool (!(x.kind == 1))),H):=by
 have gx:=aP H [AObj.cells x.row ae];rw [List.getElem?_cons_zero] at gx;rw [bJ M hS.docs_raw_1 rfl (c:=o6) rfl,o6];simp (maxSteps:=3000000) (maxDischargeDepth:=6) +contextual -implicitDefEqProofs only [amC M,↓amD,Nat.reduceBEq,Nat.reduceAdd,env,ag,Be,amG,AV.cell,Nat.reduceMul,Nat.reduceLeDiff,gx,bu,hp_take,cut_app]
def kV(l:List aa):Bool := !(l.any (·.car))
def ow(l:List aa):Bool := !(l.any fun x => !(x.kind == 1))
theorem F8(hS:pq E){l:List aa}{tg:Tag}(hb:l.length≤bN)(H:List AObj):M.run oT [.slice tg 3 (l.map aa.row)] H=some (.ret (.bool (kV l)),H):=by
 have h1:=fun H=>E2 M hS (q:=fun x=>x.car) (fun x H=>D1 M hS x H) (tg:=tg) hb H
 rw [bJ M hS.docs_whole rfl (c:=o4) rfl,o4];simp (maxSteps:=3000000) (maxDischargeDepth:=6) +contextual -implicitDefEqProofs only [amC M,↓amD,Nat.reduceBEq,Nat.reduceAdd,env,ag,Bd,h1,kV]
theorem JO(hS:pq E){b:aL}(hb:b.pieces.l.length≤bN)(H:List AObj):M.run sn [.agg b.row] H=some (.ret (.bool (!(b.kind == 6)||ow b.pieces.l)),H):=by
 have gx:=aP H [AObj.cells b.row aV];rw [List.getElem?_cons_zero] at gx;have h1:=fun H=>E2 M hS (q:=fun x => !(x.kind == 1)) (fun x H=>Ig M hS x H) (l:=b.pieces.l) (tg:=b.pieces.tag) hb H
 rw [bJ M hS.docs_raw rfl (c:=sr) rfl,sr];cases c:b.kind == 6 with
 |true=>simp (maxSteps:=3000000) (maxDischargeDepth:=6) +contextual -implicitDefEqProofs only [amC M,↓amD,Nat.reduceBEq,Nat.reduceAdd,env,ag,xW,amG,AV.cell,Nat.reduceMul,Nat.reduceLeDiff,gx,eI,c,h1,ow,hp_take,cut_app,Bool.not_true,Bool.false_or]
 |false=>simp (maxSteps:=3000000) (maxDischargeDepth:=6) +contextual -implicitDefEqProofs only [amC M,↓amD,Nat.reduceBEq,Nat.reduceAdd,env,ag,xW,amG,AV.cell,Nat.reduceMul,Nat.reduceLeDiff,gx,eI,c,hp_take,cut_app,Bool.not_false,Bool.true_or]
def tV(b:aL):Int:=sel (decide (b.kind<1)||decide (6<b.kind)) 1 (sel (jd b.pieces.l == 0) (sel (kV b.pieces.l) (sel (!(b.kind == 6)||ow b.pieces.l) 0 1) 8) (jd b.pieces.l))
def kC:List aL→Int
 |[]=>0
 |b::l=>sel (tV b == 0) (kC l) (tV b)
def jg(l:List aL):Int:=sel (decide ((256:Int)<(l.length:Int))) 3 (kC l)
theorem dck(hB:kH E)(hX:Bm M)(hS:pq E){bl:Sl aL}{m0:Nat}(hok:bl.ok m0 (aL.ok m0))(hsz:∀ b∈bl.l,b.pieces.l.length≤1000000∧pB b.pieces.l){H0 H:List AObj}(hc:dg H0 H)(hm:m0≤H.length)(k:List Fra):∀ (n i:Nat),i+n=bl.l.length →
  M.go ku H0 (.c dj :: .lp ⟨(some [11,12,13]),[],true⟩ dj H :: .blk 0 :: .c (.lv [])::k) (kv [(11,.slice bl.tag 2 (bl.l.map aL.row)),(12,.int .i64 bl.l.length),(13,.int .i64 i)]) H =
   sel (kC (bl.l.drop i) == 0) (M.go ku H0 k (kv []) H) (some (.ret (.int .u8 (kC (bl.l.drop i))),H.take H0.length))
 |0,i,h=>by
  have e:i=bl.l.length:=by omega
  subst e;rw [List.drop_length,kC,show ((0:Int) == 0)=true from rfl,sel_true];rw [ak M dj.eq_1];simp (maxSteps:=3000000) (maxDischargeDepth:=6) +contextual -implicitDefEqProofs only [amC M,↓amD,Nat.reduceBEq,Nat.reduceAdd,env,ag,ee,Nat.lt_irrefl]
 |n+1,i,h=>by
  have hi:i<bl.l.length:=by omega
  have hx:bl.l[i]?=some bl.l[i]:=List.getElem?_eq_getElem hi;have hd:(bl.l.drop i)=bl.l[i]::bl.l.drop (i+1):=List.drop_eq_getElem_cons hi;have hwi:=en (n:=bl.l.length) hi hok.len;have hir:=bt (row:=aL.row) (tag:=bl.tag) (sz:=2) (k:=.i64) hi;obtain ⟨z1,z2⟩:=hsz _ (List.getElem_mem hi);have w1:Wk H.length (.slice bl.tag 2 (bl.l.map aL.row)) (.slice bl.tag 2 (bl.l.map aL.row)):=(hok.mono hm (fun _ h=>h.mono hm)).wk (fun _ h=>h.wk)
  have ih:=dck hB hX hS hok hsz hc hm k n (i+1) (by omega);simp only [kv_cons,kv_nil] at ih;have gx:=aP H [AObj.cells bl.l[i].row aV];rw [List.getElem?_cons_zero] at gx;have h1:=fun H=>wq M hB hX (l:=bl.l[i].pieces) z1 z2 H
  have h2:=fun H=>F8 M hS (l:=bl.l[i].pieces.l) (tg:=bl.l[i].pieces.tag) (by simp only [bN];omega) H
  have h3:=fun H=>JO M hS (b:=bl.l[i]) (by simp only [bN];omega) H
  have hct:∀ X,dg H0 (H++X):=fun X=>⟨by have:=hc.1;simp;omega,fun i x hi hx=>hc.2 i x hi (by rwa [List.getElem?_append_left (by have:=hc.1;omega)] at hx)⟩
  have htk:∀ X,(H++X).take H0.length=H.take H0.length:=fun X=>List.take_append_of_le_length hc.1
  rw [hd,kC];generalize hbb:bl.l[i]=b at *
  unfold tV;cases c1:decide (b.kind<1) with
  |true=>
   rw [Bool.true_or,sel_true,show ((1:Int) == 0)=false from rfl,sel_false,show ((1:Int) == 0)=false from rfl,sel_false];rw [ak M dj.eq_1];simp (maxSteps:=3000000) (maxDischargeDepth:=6) +contextual -implicitDefEqProofs only [amC M,↓amD,Nat.reduceBEq,Nat.reduceAdd,env,ag,ee,amG,AV.cell,Nat.reduceMul,Nat.reduceLeDiff,hi,hx,hbb,hir,eI,gx,c1,hct,htk]
  |false=>
  cases c2:decide (6<b.kind) with
  |true=>
   rw [Bool.false_or,sel_true,show ((1:Int) == 0)=false from rfl,sel_false,show ((1:Int) == 0)=false from rfl,sel_false];rw [ak M dj.eq_1];simp (maxSteps:=3000000) (maxDischargeDepth:=6) +contextual -implicitDefEqProofs only [amC M,↓amD,Nat.reduceBEq,Nat.reduceAdd,env,ag,ee,amG,AV.cell,Nat.reduceMul,Nat.reduceLeDiff,hi,hx,hbb,hir,eI,gx,c1,c2,hct,htk]
  |false=>
  rw [Bool.false_or,sel_false];cases c3:jd b.pieces.l == 0 with
  |false=>
   rw [sel_false,c3,sel_false,c3,sel_false];rw [ak M dj.eq_1];simp (maxSteps:=3000000) (maxDischargeDepth:=6) +contextual -implicitDefEqProofs only [amC M,↓amD,Nat.reduceBEq,Nat.reduceAdd,env,ag,ee,amG,AV.cell,Nat.reduceMul,Nat.reduceLeDiff,hi,hx,hbb,hir,eI,gx,c1,c2,h1,c3,hct,htk,Bool.not_false]
  |true=>
  rw [sel_true];cases c4:kV b.pieces.l with
  |false=>
   rw [sel_false,show ((8:Int) == 0)=false from rfl,sel_false,show ((8:Int) == 0)=false from rfl,sel_false];rw [ak M dj.eq_1];simp (maxSteps:=3000000) (maxDischargeDepth:=6) +contextual -implicitDefEqProofs only [amC M,↓amD,Nat.reduceBEq,Nat.reduceAdd,env,ag,ee,amG,AV.cell,Nat.reduceMul,Nat.reduceLeDiff,hi,hx,hbb,hir,eI,gx,c1,c2,h1,c3,h2,c4,hct,htk,Bool.not_false,Bool.not_true]
  |true=>
  rw [sel_true];cases c5:(!(b.kind == 6)||ow b.pieces.l) with
  |false=>
   rw [sel_false,show ((1:Int) == 0)=false from rfl,sel_false,show ((1:Int) == 0)=false from rfl,sel_false];rw [ak M dj.eq_1];simp (maxSteps:=3000000) (maxDischargeDepth:=6) +contextual -implicitDefEqProofs only [amC M,↓amD,Nat.reduceBEq,Nat.reduceAdd,env,ag,ee,amG,AV.cell,Nat.reduceMul,Nat.reduceLeDiff,hi,hx,hbb,hir,eI,gx,c1,c2,h1,c3,h2,c4,h3,c5,hct,htk,Bool.not_false,Bool.not_true]
  |true=>
   rw [sel_true,show ((0:Int) == 0)=true from rfl,sel_true];rw [ak M dj.eq_1];simp (maxSteps:=3000000) (maxDischargeDepth:=6) +contextual -implicitDefEqProofs only [amC M,↓amD,Nat.reduceBEq,Nat.reduceAdd,env,ag,ee,amG,AV.cell,Nat.reduceMul,Nat.reduceLeDiff,hi,hx,hbb,hir,eI,gx,c1,c2,h1,c3,h2,c4,h3,c5,hct,hwi,ih,w1,cut_app,hp_take,Bool.not_false,Bool.not_true]
theorem yD(hB:kH E)(hX:Bm M)(hS:pq E){d:Docu}{m0:Nat}(hd:d.ok m0)(hsz:d.blocks.l.length≤256→∀ b∈d.blocks.l,b.pieces.l.length≤1000000∧pB b.pieces.l)(H:List AObj)(hm:m0≤H.length:=by exact Nat.zero_le _) :
  M.run mb [.agg d.row] H=some (.ret (.int .u8 (jg d.blocks.l)),H):=by
 have gx:=aP H [AObj.cells d.row ah];rw [List.getElem?_cons_zero] at gx;rw [bJ M hS.docs_Check rfl (c:=oZ) rfl,oZ];unfold jg;cases c0:decide ((256:Int)<(d.blocks.l.length:Int)) with
 |true=>simp (maxSteps:=3000000) (maxDischargeDepth:=6) +contextual -implicitDefEqProofs only [amC M,↓amD,Nat.reduceBEq,Nat.reduceAdd,env,ag,ee,amG,AV.cell,Nat.reduceMul,Nat.reduceLeDiff,gx,jR,List.length_map,c0,hp_take,cut_app]
 |false=>
  have h1:=fun k=>dck M hB hX hS hd.blocks (hsz (by have:=of_decide_eq_false c0;omega)) (cut_app H [AObj.cells d.row ah]) (by simp;omega) k d.blocks.l.length 0 (by omega)
  simp only [kv_cons,kv_nil,Int.ofNat_zero,List.drop_zero,hp_take] at h1;cases c1:kC d.blocks.l == 0 with
  |false=>
   simp only [c1,sel_false] at h1;simp (maxSteps:=3000000) (maxDischargeDepth:=6) +contextual -implicitDefEqProofs only [amC M,↓amD,Nat.reduceBEq,Nat.reduceAdd,env,ag,ee,amG,AV.cell,Nat.reduceMul,Nat.reduceLeDiff,gx,jR,List.length_map,c0,h1]
  |true=>
   simp only [c1,sel_true] at h1;have e1:kC d.blocks.l=0:=by simpa using c1
   simp (maxSteps:=3000000) (maxDischargeDepth:=6) +contextual -implicitDefEqProofs only [amC M,↓amD,Nat.reduceBEq,Nat.reduceAdd,env,ag,ee,amG,AV.cell,Nat.reduceMul,Nat.reduceLeDiff,gx,jR,List.length_map,c0,h1,e1,hp_take,cut_app]
end
section
attribute [local congr] aw bw aR aA aQ aH aC al ao aI aJ
variable{E:bc}(M:bM b4 E)
theorem rwh{l:List aa}{tg:Tag}(hl:l.length≤bN){H H0:List AObj}(hc:dg H0 H)(k:List Fra):∀ (n i:Nat) (He:List AObj),i+n=l.length →
  M.go dY H0 (.c cP :: .lp ⟨(some [0,3]),[],false⟩ cP He :: .blk 0 :: .c (.lv [])::k) (kv [(0,.slice tg 3 (l.map aa.row)),(3,.int .i64 i)]) H=sel (kV (l.drop i)) (M.go dY H0 k (kv []) H) (some (.ret (.bool false),H.take H0.length))
 |0,i,He,h=>by
  have e:i=l.length:=by omega
  subst e;rw [List.drop_length,show kV []=true from rfl,sel_true];rw [ak M cP.eq_1];simp (maxSteps:=3000000) (maxDischargeDepth:=6) +contextual -implicitDefEqProofs only [amC M,↓amD,Nat.reduceBEq,Nat.reduceAdd,env,ag,dZ,Nat.lt_irrefl,List.length_map]
 |n+1,i,He,h=>by
  have hi:i<l.length:=by omega
  have hx:l[i]?=some l[i]:=List.getElem?_eq_getElem hi;have hd:(l.drop i)=l[i]::l.drop (i+1):=List.drop_eq_getElem_cons hi;have hwi:=en (n:=l.length) hi hl;have hir:=bt (row:=aa.row) (tag:=tg) (sz:=3) (k:=.i64) hi;have ih:=fun He=>rwh hl hc (tg:=tg) k n (i+1) He (by omega)
  simp only [kv_cons,kv_nil] at ih;rw [hd,show kV (l[i]::l.drop (i+1))=(!l[i].car&&kV (l.drop (i+1))) by unfold kV;rw [List.any_cons,Bool.not_or]];cases c:l[i].car with
  |true=>
   rw [Bool.not_true,Bool.false_and,sel_false];rw [ak M cP.eq_1];simp (maxSteps:=3000000) (maxDischargeDepth:=6) +contextual -implicitDefEqProofs only [amC M,↓amD,Nat.reduceBEq,Nat.reduceAdd,env,ag,dZ,List.length_map,hi,hx,hir,bu,c,hc]
  |false=>
   rw [Bool.not_false,Bool.true_and];rw [ak M cP.eq_1];simp (maxSteps:=3000000) (maxDischargeDepth:=6) +contextual -implicitDefEqProofs only [amC M,↓amD,Nat.reduceBEq,Nat.reduceAdd,env,ag,dZ,List.length_map,hi,hx,hir,bu,c,hwi,ih]
theorem D2(hS:pq E){l:List aa}{tg:Tag}(hl:l.length≤bN)(H:List AObj):M.run gP [.slice tg 3 (l.map aa.row)] H=some (.ret (.bool (kV l)),H):=by
 have h1:=fun k He=>rwh M (tg:=tg) hl (cut_refl H) k l.length 0 He (by omega)
 simp only [kv_cons,kv_nil,Int.ofNat_zero,List.drop_zero,hp_self] at h1;rw [bJ M hS.truchmanref01_Whole rfl (c:=ij) rfl,ij];cases c:kV l with
 |true=>
  simp only [c,sel_true] at h1;simp (maxSteps:=3000000) (maxDischargeDepth:=6) +contextual -implicitDefEqProofs only [amC M,↓amD,Nat.reduceBEq,Nat.reduceAdd,env,ag,dZ,h1,hp_self,cut_refl]
 |false=>
  simp only [c,sel_false] at h1;simp (maxSteps:=3000000) (maxDischargeDepth:=6) +contextual -implicitDefEqProofs only [amC M,↓amD,Nat.reduceBEq,Nat.reduceAdd,env,ag,dZ,h1]
theorem rba{l:List aa}{tg:Tag}(hl:l.length≤bN){H H0:List AObj}(hc:dg H0 H)(k:List Fra):∀ (n i:Nat) (He:List AObj),i+n=l.length →
  M.go eD H0 (.c c9 :: .lp ⟨(some [0,3]),[],false⟩ c9 He :: .blk 0 :: .c (.lv [])::k) (kv [(0,.slice tg 3 (l.map aa.row)),(3,.int .i64 i)]) H=sel (ow (l.drop i)) (M.go eD H0 k (kv []) H) (some (.ret (.bool false),H.take H0.length))
 |0,i,He,h=>by
  have e:i=l.length:=by omega
  subst e;rw [List.drop_length,show ow []=true from rfl,sel_true];rw [ak M c9.eq_1];simp (maxSteps:=3000000) (maxDischargeDepth:=6) +contextual -implicitDefEqProofs only [amC M,↓amD,Nat.reduceBEq,Nat.reduceAdd,env,ag,eE,Nat.lt_irrefl,List.length_map]
 |n+1,i,He,h=>by
  have hi:i<l.length:=by omega
  have hx:l[i]?=some l[i]:=List.getElem?_eq_getElem hi;have hd:(l.drop i)=l[i]::l.drop (i+1):=List.drop_eq_getElem_cons hi;have hwi:=en (n:=l.length) hi hl;have hir:=bt (row:=aa.row) (tag:=tg) (sz:=3) (k:=.i64) hi;have ih:=fun He=>rba hl hc (tg:=tg) k n (i+1) He (by omega)
  simp only [kv_cons,kv_nil] at ih;rw [hd,show ow (l[i]::l.drop (i+1))=((l[i].kind == 1)&&ow (l.drop (i+1))) by unfold ow;rw [List.any_cons,Bool.not_or,Bool.not_not]];cases c:l[i].kind == 1 with
  |false=>
   rw [Bool.false_and,sel_false];rw [ak M c9.eq_1];simp (maxSteps:=3000000) (maxDischargeDepth:=6) +contextual -implicitDefEqProofs only [amC M,↓amD,Nat.reduceBEq,Nat.reduceAdd,env,ag,eE,List.length_map,hi,hx,hir,bu,c,hc,Bool.not_false]
  |true=>
   rw [Bool.true_and];rw [ak M c9.eq_1];simp (maxSteps:=3000000) (maxDischargeDepth:=6) +contextual -implicitDefEqProofs only [amC M,↓amD,Nat.reduceBEq,Nat.reduceAdd,env,ag,eE,List.length_map,hi,hx,hir,bu,c,hwi,ih,Bool.not_true]
theorem Ih(hS:pq E){l:List aa}{tg:Tag}(hl:l.length≤bN)(H:List AObj):M.run iK [.slice tg 3 (l.map aa.row)] H=some (.ret (.bool (ow l)),H):=by
 have h1:=fun k He=>rba M (tg:=tg) hl (cut_refl H) k l.length 0 He (by omega)
 simp only [kv_cons,kv_nil,Int.ofNat_zero,List.drop_zero,hp_self] at h1;rw [bJ M hS.truchmanref01_bare rfl (c:=iZ) rfl,iZ];cases c:ow l with
 |true=>
  simp only [c,sel_true] at h1;simp (maxSteps:=3000000) (maxDischargeDepth:=6) +contextual -implicitDefEqProofs only [amC M,↓amD,Nat.reduceBEq,Nat.reduceAdd,env,ag,eE,h1,hp_self,cut_refl]
 |false=>
  simp only [c,sel_false] at h1;simp (maxSteps:=3000000) (maxDischargeDepth:=6) +contextual -implicitDefEqProofs only [amC M,↓amD,Nat.reduceBEq,Nat.reduceAdd,env,ag,eE,h1]
def inB(k:Int)(l:List aa):Int:=sel (kV l) (sel (!(k == 6)||ow l) 0 1) 8
theorem CY(hS:pq E){l:List aa}{tg:Tag}{kd:Int}(hl:l.length≤bN)(H:List AObj):M.run fQ [.int .u8 kd,.slice tg 3 (l.map aa.row)] H=some (.ret (.int .u8 (inB kd l)),H):=by
 have h1:=fun H=>D2 M hS (tg:=tg) hl H
 have h2:=fun H=>Ih M hS (tg:=tg) hl H
 rw [bJ M hS.truchmanref01_inBlock rfl (c:=fV) rfl,fV];unfold inB;cases c1:kV l with
 |false=>
  rw [sel_false];simp (maxSteps:=3000000) (maxDischargeDepth:=6) +contextual -implicitDefEqProofs only [amC M,↓amD,Nat.reduceBEq,Nat.reduceAdd,env,ag,eH,h1,c1,Bool.not_false]
 |true=>
  rw [sel_true];cases c2:kd == 6 with
  |false=>
   rw [Bool.not_false,Bool.true_or,sel_true];simp (maxSteps:=3000000) (maxDischargeDepth:=6) +contextual -implicitDefEqProofs only [amC M,↓amD,Nat.reduceBEq,Nat.reduceAdd,env,ag,eH,h1,c1,c2,Bool.not_true]
  |true=>
   rw [Bool.not_true,Bool.false_or];cases c3:ow l with
   |true=>
    rw [sel_true];simp (maxSteps:=3000000) (maxDischargeDepth:=6) +contextual -implicitDefEqProofs only [amC M,↓amD,Nat.reduceBEq,Nat.reduceAdd,env,ag,eH,h1,c1,c2,h2,c3,Bool.not_true]
   |false=>
    rw [sel_false];simp (maxSteps:=3000000) (maxDischargeDepth:=6) +contextual -implicitDefEqProofs only [amC M,↓amD,Nat.reduceBEq,Nat.reduceAdd,env,ag,eH,h1,c1,c2,h2,c3,Bool.not_true,Bool.not_false]
theorem Ii(b:aL):tV b=sel (decide (b.kind<1)||decide (6<b.kind)) 1 (sel (jd b.pieces.l == 0) (inB b.kind b.pieces.l) (jd b.pieces.l)):=rfl
theorem rck(hB:kH E)(hS:pq E){bl:Sl aL}{m0:Nat}(hok:bl.ok m0 (aL.ok m0))(hsz:∀ b∈bl.l,b.pieces.l.length≤1000000∧pB b.pieces.l){H0 H:List AObj}(hc:dg H0 H){p:Nat}(hp:H[p]?=some (.cells [.slice bl.tag 2 (bl.l.map aL.row)] ah))(k:List Fra):∀ (n i:Nat),i+n=bl.l.length →
  M.go dX H0 (.c bI :: .lp ⟨(some [1,3]),[],true⟩ bI H :: .blk 0 :: .c (.lv [])::k) (kv [(1,.ptr p 0),(3,.int .i64 i)]) H =
   sel (kC (bl.l.drop i) == 0) (M.go dX H0 k (kv []) H) (some (.ret (.int .u8 (kC (bl.l.drop i))),H.take H0.length))
 |0,i,h=>by
  have e:¬ i<bl.l.length:=by omega
  have l1:∀ x:AV,bW none [x] 0=some x:=fun _=>rfl
  rw [List.drop_of_length_le (by omega),kC,show ((0:Int) == 0)=true from rfl,sel_true];rw [ak M bI.eq_1];simp (maxSteps:=3000000) (maxDischargeDepth:=6) +contextual -implicitDefEqProofs only [amC M,↓amD,Nat.reduceBEq,Nat.reduceAdd,env,ag,bT,hp,l1,e,List.length_map]
 |n+1,i,h=>by
  have hi:i<bl.l.length:=by omega
  have hx:bl.l[i]?=some bl.l[i]:=List.getElem?_eq_getElem hi;have hd:(bl.l.drop i)=bl.l[i]::bl.l.drop (i+1):=List.drop_eq_getElem_cons hi;have hwi:=en (n:=bl.l.length) hi hok.len;have hir:=bt (row:=aL.row) (tag:=bl.tag) (sz:=2) (k:=.i64) hi;have l1:∀ x:AV,bW none [x] 0=some x:=fun _=>rfl
  have hp1:∀ X,(H++X)[p]?=_:=fun X=>iw hp
  have hpl:=gm hp;obtain ⟨z1,z2⟩:=hsz _ (List.getElem_mem hi);have w1:Wk H.length (.ptr p 0) (.ptr p 0):=wk_ptr hpl;have ih:=rck hB hS hok hsz hc hp k n (i+1) (by omega);simp only [kv_cons,kv_nil] at ih;have gx:=aP H [AObj.cells bl.l[i].row aV];rw [List.getElem?_cons_zero] at gx;have h1:=fun H=>uQ M hB (l:=bl.l[i].pieces) z1 z2 H
  have h2:=fun H=>CY M hS (l:=bl.l[i].pieces.l) (tg:=bl.l[i].pieces.tag) (kd:=bl.l[i].kind) (by simp only [bN];omega) H
  have hct:∀ X,dg H0 (H++X):=fun X=>⟨by have:=hc.1;simp;omega,fun i x hi hx=>hc.2 i x hi (by rwa [List.getElem?_append_left (by have:=hc.1;omega)] at hx)⟩
  have htk:∀ X,(H++X).take H0.length=H.take H0.length:=fun X=>List.take_append_of_le_length hc.1
  rw [hd,kC];generalize hbb:bl.l[i]=b at *
  rw [Ii];cases c1:decide (b.kind<1) with
  |true=>
   rw [Bool.true_or,sel_true,show ((1:Int) == 0)=false from rfl,sel_false,show ((1:Int) == 0)=false from rfl,sel_false];rw [ak M bI.eq_1];simp (maxSteps:=3000000) (maxDischargeDepth:=6) +contextual -implicitDefEqProofs only [amC M,↓amD,Nat.reduceBEq,Nat.reduceAdd,env,ag,bT,amG,AV.cell,Nat.reduceMul,Nat.reduceLeDiff,hp,hp1,l1,List.length_map,hi,hx,hbb,hir,eI,gx,c1,hct,htk]
  |false=>
  cases c2:decide (6<b.kind) with
  |true=>
   rw [Bool.false_or,sel_true,show ((1:Int) == 0)=false from rfl,sel_false,show ((1:Int) == 0)=false from rfl,sel_false];rw [ak M bI.eq_1];simp (maxSteps:=3000000) (maxDischargeDepth:=6) +contextual -implicitDefEqProofs only [amC M,↓amD,Nat.reduceBEq,Nat.reduceAdd,env,ag,bT,amG,AV.cell,Nat.reduceMul,Nat.reduceLeDiff,hp,hp1,l1,List.length_map,hi,hx,hbb,hir,eI,gx,c1,c2,hct,htk]
  |false=>
  rw [Bool.false_or,sel_false];cases c3:jd b.pieces.l == 0 with
  |false=>
   rw [sel_false,c3,sel_false,c3,sel_false];rw [ak M bI.eq_1];simp (maxSteps:=3000000) (maxDischargeDepth:=6) +contextual -implicitDefEqProofs only [amC M,↓amD,Nat.reduceBEq,Nat.reduceAdd,env,ag,bT,amG,AV.cell,Nat.reduceMul,Nat.reduceLeDiff,hp,hp1,l1,List.length_map,hi,hx,hbb,hir,eI,gx,c1,c2,h1,c3,hct,htk,Bool.not_false]
  |true=>
  rw [sel_true];cases c4:inB b.kind b.pieces.l == 0 with
  |false=>
   rw [sel_false,c4,sel_false];rw [ak M bI.eq_1];simp (maxSteps:=3000000) (maxDischargeDepth:=6) +contextual -implicitDefEqProofs only [amC M,↓amD,Nat.reduceBEq,Nat.reduceAdd,env,ag,bT,amG,AV.cell,Nat.reduceMul,Nat.reduceLeDiff,hp,hp1,l1,List.length_map,hi,hx,hbb,hir,eI,gx,c1,c2,h1,c3,h2,c4,hct,htk,Bool.not_false]
  |true=>
   rw [sel_true];rw [ak M bI.eq_1];simp (maxSteps:=3000000) (maxDischargeDepth:=6) +contextual -implicitDefEqProofs only [amC M,↓amD,Nat.reduceBEq,Nat.reduceAdd,env,ag,bT,amG,AV.cell,Nat.reduceMul,Nat.reduceLeDiff,hp,hp1,l1,List.length_map,hi,hx,hbb,hir,eI,gx,c1,c2,h1,c3,h2,c4,hwi,ih,w1,cut_app,hp_take,Bool.not_true]
theorem yE(hB:kH E)(hS:pq E){d:Docu}{m0:Nat}(hd:d.ok m0)(hsz:d.blocks.l.length≤256→∀ b∈d.blocks.l,b.pieces.l.length≤1000000∧pB b.pieces.l)(H:List AObj) :
  M.run fg [.agg d.row] H=some (.ret (.int .u8 (jg d.blocks.l)),H):=by
 have gx:=aP H [AObj.cells d.row ah];rw [List.getElem?_cons_zero] at gx;rw [bJ M hS.truchmanref01_Check rfl (c:=gU) rfl,gU];unfold jg;cases c0:decide ((256:Int)<(d.blocks.l.length:Int)) with
 |true=>simp (maxSteps:=3000000) (maxDischargeDepth:=6) +contextual -implicitDefEqProofs only [amC M,↓amD,Nat.reduceBEq,Nat.reduceAdd,env,ag,bT,amG,AV.cell,Nat.reduceMul,Nat.reduceLeDiff,gx,jR,List.length_map,c0,hp_take,cut_app]
 |false=>
  have h1:=fun k=>rck M hB hS hd.blocks (hsz (by have:=of_decide_eq_false c0;omega)) (cut_app H [AObj.cells d.row ah]) gx k d.blocks.l.length 0 (by omega)
  simp only [kv_cons,kv_nil,Int.ofNat_zero,List.drop_zero,hp_take] at h1;cases c1:kC d.blocks.l == 0 with
  |false=>
   simp only [c1,sel_false] at h1;simp (maxSteps:=3000000) (maxDischargeDepth:=6) +contextual -implicitDefEqProofs only [amC M,↓amD,Nat.reduceBEq,Nat.reduceAdd,env,ag,bT,amG,AV.cell,Nat.reduceMul,Nat.reduceLeDiff,gx,jR,List.length_map,c0,h1]
  |true=>
   simp only [c1,sel_true] at h1;have e1:kC d.blocks.l=0:=by simpa using c1
   simp (maxSteps:=3000000) (maxDischargeDepth:=6) +contextual -implicitDefEqProofs only [amC M,↓amD,Nat.reduceBEq,Nat.reduceAdd,env,ag,bT,amG,AV.cell,Nat.reduceMul,Nat.reduceLeDiff,gx,jR,List.length_map,c0,h1,e1,hp_take,cut_app]
end
end Go.Am
