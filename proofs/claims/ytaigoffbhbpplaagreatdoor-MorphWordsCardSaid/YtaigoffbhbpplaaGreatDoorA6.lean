import Derived.Test.YtaigoffbhbpplaaGreatDoorA5
import Derived.Lib.Bytealg
/-
  Part 6 of the tool: an abstract machine over the model, proved sound, and what it says of the functions that the law reaches. Condition: none but those that each theorem names.
-/
set_option linter.unusedVariables false
set_option linter.unusedSimpArgs false
set_option maxRecDepth 100000
set_option maxHeartbeats 4000000
namespace Go.Am
open Go.RowKit
section
attribute [local congr] al br aJ ao aH aA aq ah aj aC aD
variable{E:aX}(M:bR bN E)
structure uB (E:aX):Prop where
 truchmanref02_trait:E.fn lT=some jE
 truchmanref02_Class:E.fn eu=some jB
 truchmanref02_in:E.fn nU=some lE
 truchmanref02_bundle:E.fn iP=some iW
 truchmanref02_traits:E.fn nT=some dS
 truchmanref02_classes:E.fn nm=some dF
 truchmanref02_Unify:E.fn pC=some da
 truchmanref02_entries:E.fn nn=some bz
 truchmanref02_Check:E.fn pA=some c9
theorem Qr{H H0:List AObj}{l:Lex}{n0:Nat}(hl:l.ok n0){v:Str}{p:Nat}{T:TypeId}(hp:H[p]?=some (.cells l.row T))(hc:b4 H0 H)(k:List Fra):∀ (n i:Nat) (He:List AObj),i+n=(l.traits.l).length →
  M.go jE H0 (.c iA :: .lp ⟨(some [1,2,5]),[],false⟩ iA He :: .blk 0 :: .c (.lv [])::k) (kv [(1,.str v),(2,.ptr p 0),(5,.int .i64 i)]) H =
   orE (bS (yZ fun t=>t.name == v) i (l.traits.l.drop i)) (H.take H0.length) (M.go jE H0 k .leaf H)
 |0,i,He,h=>by
  have e:i=(l.traits.l).length:=by omega
  subst e;rw [ag M iA.eq_1];simp (maxSteps:=3000000) (maxDischargeDepth:=6) +contextual -implicitDefEqProofs only [amC M,↓amD,Nat.reduceBEq,Nat.reduceAdd,env,ab,pZ,Nat.lt_irrefl,List.drop_length,bH,hp]
 |n+1,i,He,h=>by
  have hi:i<(l.traits.l).length:=by omega
  have hx:(l.traits.l)[i]?=some (l.traits.l)[i]:=ZC hi;have hd:((l.traits.l).drop i)=(l.traits.l)[i]::(l.traits.l).drop (i+1):=ZD hi;have hm:(l.traits.l)[i]∈(l.traits.l):=ZJ hi;have ih:=fun He=>Qr (H:=H) (H0:=H0) (l:=l) (n0:=n0) (hl:=hl) (v:=v) (p:=p) (T:=T) (hp:=hp) hc k n (i+1)  He (by omega)
  simp only [kv_cons,kv_nil] at ih;rw [ag M iA.eq_1];simp (maxSteps:=3000000) (maxDischargeDepth:=6) +contextual -implicitDefEqProofs only [amC M,↓amD,Nat.reduceBEq,Nat.reduceAdd,env,ab,pZ,hx,hd,hi,ih,aZ hi hl.traits.len,aF hi,bH,qB,hp,yZ,hc]
theorem IE(hR:uB E){l:Lex}{n:Nat}(hl:l.ok n)(v:Str)(H:List AObj):M.run lT [.agg l.row,.str v] H=some (.ret (.int .i64 (v8 (fun t=>t.name == v) 0 l.traits.l)),H):=by
 rw [aN M hR.truchmanref02_trait rfl (c:=pY) rfl,pY];have h1:=fun k He=>Qr M (H:=H++[.cells l.row ae]) hl (v:=v) (p:=H.length) (T:=ae) (by rw [cI];rfl) (cut_app H _) k l.traits.l.length 0 He (by omega)
 simp only [kv_cons,kv_nil,Int.ofNat_zero,List.drop_zero] at h1;simp (maxSteps:=3000000) (maxDischargeDepth:=6) +contextual -implicitDefEqProofs only [amC M,↓amD,Nat.reduceBEq,Nat.reduceAdd,env,ab,pZ,h1,cut_app];exact pr _ _ 0 H
theorem Qs{H H0:List AObj}{l:Lex}{n0:Nat}(hl:l.ok n0){v:Str}{p:Nat}{T:TypeId}(hp:H[p]?=some (.cells l.row T))(hc:b4 H0 H)(k:List Fra):∀ (n i:Nat) (He:List AObj),i+n=(l.classes.l).length →
  M.go jB H0 (.c iw :: .lp ⟨(some [1,2,5]),[],false⟩ iw He :: .blk 0 :: .c (.lv [])::k) (kv [(1,.str v),(2,.ptr p 0),(5,.int .i64 i)]) H =
   orE (bS (yZ fun t=>t.name == v) i (l.classes.l.drop i)) (H.take H0.length) (M.go jB H0 k .leaf H)
 |0,i,He,h=>by
  have e:i=(l.classes.l).length:=by omega
  subst e;rw [ag M iw.eq_1];simp (maxSteps:=3000000) (maxDischargeDepth:=6) +contextual -implicitDefEqProofs only [amC M,↓amD,Nat.reduceBEq,Nat.reduceAdd,env,ab,pT,Nat.lt_irrefl,List.drop_length,bH,hp]
 |n+1,i,He,h=>by
  have hi:i<(l.classes.l).length:=by omega
  have hx:(l.classes.l)[i]?=some (l.classes.l)[i]:=ZC hi;have hd:((l.classes.l).drop i)=(l.classes.l)[i]::(l.classes.l).drop (i+1):=ZD hi;have hm:(l.classes.l)[i]∈(l.classes.l):=ZJ hi;have ih:=fun He=>Qs (H:=H) (H0:=H0) (l:=l) (n0:=n0) (hl:=hl) (v:=v) (p:=p) (T:=T) (hp:=hp) hc k n (i+1)  He (by omega)
  simp only [kv_cons,kv_nil] at ih;rw [ag M iw.eq_1];simp (maxSteps:=3000000) (maxDischargeDepth:=6) +contextual -implicitDefEqProofs only [amC M,↓amD,Nat.reduceBEq,Nat.reduceAdd,env,ab,pT,hx,hd,hi,ih,aZ hi hl.classes.len,aF hi,bH,iN,hp,yZ,hc]
theorem w7(hR:uB E){l:Lex}{n:Nat}(hl:l.ok n)(v:Str)(H:List AObj):M.run eu [.agg l.row,.str v] H=some (.ret (.int .i64 (v8 (fun t=>t.name == v) 0 l.classes.l)),H):=by
 rw [aN M hR.truchmanref02_Class rfl (c:=pS) rfl,pS];have h1:=fun k He=>Qs M (H:=H++[.cells l.row ae]) hl (v:=v) (p:=H.length) (T:=ae) (by rw [cI];rfl) (cut_app H _) k l.classes.l.length 0 He (by omega)
 simp only [kv_cons,kv_nil,Int.ofNat_zero,List.drop_zero] at h1;simp (maxSteps:=3000000) (maxDischargeDepth:=6) +contextual -implicitDefEqProofs only [amC M,↓amD,Nat.reduceBEq,Nat.reduceAdd,env,ab,pT,h1,cut_app];exact pr _ _ 0 H
def inF(v:Str):Nat→Str→Option AV:=fun _ s=>sel (v == s) (some (.bool true)) none
theorem NA(v:Str):∀ (l:List Str) (i:Nat) (H:List AObj),orE (bS (inF v) i l) H (some (.ret (.bool false),H))=some (.ret (.bool (l.any fun s=>v == s)),H)
 |[],_,_=>rfl
 |s::l,i,H=>by
  rw [lj,inF,List.any_cons,DK,B3,Bo,Bp,yx,NA v l];cases v == s<;>rfl
theorem Ah(a b:Str):(a == b)=(b == a):=BEq.comm
theorem YO{H H0:List AObj}{v:Str}{tg:Tag}{l:List Str}(hs:l.length≤aQ)(hc:b4 H0 H)(k:List Fra):∀ (n i:Nat) (He:List AObj),i+n=l.length →
  M.go lE H0 (.c jT :: .lp ⟨(some [0,1,5]),[],false⟩ jT He :: .blk 0 :: .c (.lv [])::k) (kv [(0,.slice tg 1 (l.map bJ)),(1,.str v),(5,.int .i64 i)]) H =
   orE (bS (inF v) i (l.drop i)) (H.take H0.length) (M.go lE H0 k .leaf H)
 |0,i,He,h=>by
  have e:i=l.length:=by omega
  subst e;rw [ag M jT.eq_1];simp (maxSteps:=3000000) (maxDischargeDepth:=6) +contextual -implicitDefEqProofs only [amC M,↓amD,Nat.reduceBEq,Nat.reduceAdd,env,ab,sB,Nat.lt_irrefl,List.drop_length]
 |n+1,i,He,h=>by
  have hi:i<l.length:=by omega
  have hx:l[i]?=some l[i]:=ZC hi;have hd:(l.drop i)=l[i]::l.drop (i+1):=ZD hi;have hm:l[i]∈l:=ZJ hi;have ih:=fun He=>YO (H:=H) (H0:=H0) (v:=v) (tg:=tg) (l:=l) (hs:=hs) hc k n (i+1)  He (by omega)
  simp only [kv_cons,kv_nil] at ih;rw [ag M jT.eq_1];simp (maxSteps:=3000000) (maxDischargeDepth:=6) +contextual -implicitDefEqProofs only [amC M,↓amD,Nat.reduceBEq,Nat.reduceAdd,env,ab,sB,hx,hd,hi,ih,aZ hi hs,aF hi,Ju,inF,hc,Ah v]
theorem LX(hR:uB E){v:Str}{tg:Tag}{l:List Str}(hs:l.length≤aQ)(H:List AObj):M.run nU [.slice tg 1 (l.map bJ),.str v] H=some (.ret (.bool (l.any fun s=>v == s)),H):=by
 rw [aN M hR.truchmanref02_in rfl (c:=sA) rfl,sA];have h1:=fun k He=>YO M (tg:=tg) (v:=v) hs (cut_refl H) k l.length 0 He (by omega)
 simp only [kv_cons,kv_nil,Int.ofNat_zero,List.drop_zero] at h1;simp (maxSteps:=3000000) (maxDischargeDepth:=6) +contextual -implicitDefEqProofs only [amC M,↓amD,Nat.reduceBEq,Nat.reduceAdd,env,ab,sB,h1];exact NA _ _ 0 H
theorem rbl{H H0:List AObj}(hR:uB E){l:Lex}{n0:Nat}(hl:l.ok n0){b:List aI}{tg:Tag}(hb:b.length≤aQ){p:Nat}{T:TypeId}(hp:H[p]?=some (.cells l.row T))(hc:b4 H0 H)(k:List Fra):∀ (n i:Nat) (He:List AObj),i+n=b.length →
  M.go iW H0 (.c dy :: .lp ⟨(some [1,2,5]),[],false⟩ dy He :: .blk 0 :: .c (.lv [])::k) (kv [(1,.slice tg 2 (b.map aI.row)),(2,.ptr p 0),(5,.int .i64 i)]) H =
   orE (bS (qV (Cm l b)) i (b.drop i)) (H.take H0.length) (M.go iW H0 k .leaf H)
 |0,i,He,h=>by
  have e:i=b.length:=by omega
  subst e;rw [ag M dy.eq_1];simp (maxSteps:=3000000) (maxDischargeDepth:=6) +contextual -implicitDefEqProofs only [amC M,↓amD,Nat.reduceBEq,Nat.reduceAdd,env,ab,iX,Nat.lt_irrefl,List.drop_length]
 |n+1,i,He,h=>by
  have hi:i<b.length:=by omega
  have hx:b[i]?=some b[i]:=ZC hi;have hd:(b.drop i)=b[i]::b.drop (i+1):=ZD hi;have hm:b[i]∈b:=ZJ hi;have ih:=fun He=>rbl (H:=H) (H0:=H0) (hR:=hR) (l:=l) (n0:=n0) (hl:=hl) (b:=b) (tg:=tg) (hb:=hb) (p:=p) (T:=T) (hp:=hp) hc k n (i+1)  He (by omega)
  simp only [kv_cons,kv_nil] at ih;have hcf:=fun H=>IE M hR hl b[i].name H
  rcases oX (fun t:aK=>t.name == b[i].name) l.traits.l 0 with ⟨h1,h2⟩ | ⟨j,t,h1,h2,h3⟩
  ·rw [h1] at hcf
   rw [ag M dy.eq_1];simp (maxSteps:=3000000) (maxDischargeDepth:=6) +contextual -implicitDefEqProofs only [amC M,↓amD,Nat.reduceBEq,Nat.reduceAdd,env,ab,iX,hx,hd,hi,ih,hcf,bH,sO,hp,aF hi,mM,Cm,h2,VO,qE,hc]
  ·rw [h1,Z4] at hcf
   have hj:j<l.traits.l.length:=(ZB.1 h2).1;have htm:t∈l.traits.l:=ZG h2;cases i with
   |zero=>
    rw [ag M dy.eq_1];simp (maxSteps:=3000000) (maxDischargeDepth:=6) +contextual -implicitDefEqProofs only [amC M,↓amD,Nat.reduceBEq,Nat.reduceAdd,env,ab,iX,hx,hd,hi,ih,hcf,bH,sO,qB,hp,aF hi,Tg hi,mM,Cm,h2,h3,GA,YM,C6,qE,hc,aF hj,LX M hR (hl.traits.all t htm).values.len,aZ hi hb]
   |succ i=>
    have hx1:b[i]?=some b[i]:=ZC (by omega);rw [ag M dy.eq_1];simp (maxSteps:=3000000) (maxDischargeDepth:=6) +contextual -implicitDefEqProofs only [amC M,↓amD,Nat.reduceBEq,Nat.reduceAdd,env,ab,iX,hx,hd,hi,ih,hcf,bH,sO,qB,hp,aF hi,mM,Cm,h2,h3,GA,YN,qX hx1,hx1,aF (show i<b.length by omega),EB (show i+1≤aQ by omega),qE,hc,aF hj,LX M hR (hl.traits.all t htm).values.len,aZ hi hb]
theorem xC(hR:uB E){l:Lex}{b:List aI}{tg:Tag}{n:Nat}(hl:l.ok n)(hb:b.length≤aQ)(H:List AObj) :
  M.run iP [.agg l.row,.slice tg 2 (b.map aI.row)] H=some (.ret (.int .u8 (mN l b)),H):=by
 rw [aN M hR.truchmanref02_bundle rfl (c:=oz) rfl,oz];have h1:=fun k He=>rbl M hR (H:=H++[.cells l.row ae]) hl (tg:=tg) hb (p:=H.length) (T:=ae) (by rw [cI];rfl) (cut_app H _) k b.length 0 He (by omega)
 simp only [kv_cons,kv_nil,Int.ofNat_zero,List.drop_zero] at h1;simp (maxSteps:=3000000) (maxDischargeDepth:=6) +contextual -implicitDefEqProofs only [amC M,↓amD,Nat.reduceBEq,Nat.reduceAdd,env,ab,iX,h1,cut_app,sK,qs,mN,lq]
end
section
attribute [local congr] al br aJ ao aH aA aq ah aj aC aD
variable{E:aX}(M:bR bN E)
theorem TG{α:Type}{p:α→Bool}:∀ {l:List α}{i:Nat}{x:α},l[i]?=some x→p x=true→∀ s:Nat,decide (v8 p s l<((s+i:Nat):Int))=(l.take i).any p
 |[],_,_,h,_,_=>by simp at h
 |y::l,0,x,h,hp,s=>by
  obtain rfl:y=x:=by simpa using h
  simp only [v8,hp,sel,List.take_zero,List.any_nil,Nat.add_zero];exact decide_eq_false (by omega)
 |y::l,i+1,x,h,hp,s=>by
  rw [List.take_succ_cons,List.any_cons,v8];cases hy:p y with
  |true=>simp only [sel,Bool.true_or];exact decide_eq_true (by omega)
  |false=>
   have:=TG (l:=l) (i:=i) (x:=x) (by simpa using h) hp (s+1);rw [Bool.false_or,← this];simp only [sel];congr 2;omega
theorem Qt{α:Type}{p:α→Bool}{l:List α}{i:Nat}{x:α}(h:l[i]?=some x)(hp:p x=true):decide (v8 p 0 l<(i:Int))=(l.take i).any p:=by
 have:=TG h hp 0;rwa [Z4] at this
theorem rtv{H H0:List AObj}(hN:bu E)(hR:uB E){t:aK}{n0:Nat}(ht:t.ok n0){p q:Nat}{T:TypeId}(hq:H[q]?=some (.cells t.row T)){i0:Nat}(hc:b4 H0 H)(k:List Fra):∀ (n i:Nat) (He:List AObj),i+n=(t.values.l).length →
  M.go dS H0 (.c gv :: .lp ⟨(some [1,3,4,5]),[],false⟩ gv He :: .blk 3 :: .c (.lv [1,3])::k) (kv [(1,.ptr p 0),(3,.int .i64 i0),(4,.ptr q 0),(5,.int .i64 i)]) H =
   orE (bS (qV (TF t)) i (t.values.l.drop i)) (H.take H0.length) (M.go dS H0 k (kv [(1,.ptr p 0),(3,.int .i64 i0)]) H)
 |0,i,He,h=>by
  have e:i=(t.values.l).length:=by omega
  subst e;rw [ag M gv.eq_1];simp (maxSteps:=3000000) (maxDischargeDepth:=6) +contextual -implicitDefEqProofs only [amC M,↓amD,Nat.reduceBEq,Nat.reduceAdd,env,ab,iV,Nat.lt_irrefl,List.drop_length,qB,hq]
 |n+1,i,He,h=>by
  have hi:i<(t.values.l).length:=by omega
  have hx:(t.values.l)[i]?=some (t.values.l)[i]:=ZC hi;have hd:((t.values.l).drop i)=(t.values.l)[i]::(t.values.l).drop (i+1):=ZD hi;have hm:(t.values.l)[i]∈(t.values.l):=ZJ hi;have ih:=fun He=>rtv (H:=H) (H0:=H0) (hN:=hN) (hR:=hR) (t:=t) (n0:=n0) (ht:=ht) (p:=p) (q:=q) (T:=T) (hq:=hq) (i0:=i0) hc k n (i+1)  He (by omega)
  simp only [kv_cons,kv_nil] at ih;rw [ag M gv.eq_1];simp (maxSteps:=3000000) (maxDischargeDepth:=6) +contextual -implicitDefEqProofs only [amC M,↓amD,Nat.reduceBEq,Nat.reduceAdd,env,ab,iV,hx,hd,hi,ih,aZ hi ht.values.len,aF hi,qB,Ju,hq,Fh M hN (ht.values.all _ hm),EA hi,LX M hR (yy ht.values.len i),mM,TF,qE,hc]
theorem rtr{H H0:List AObj}(hN:bu E)(hR:uB E){l:Lex}{n0:Nat}(hl:l.ok n0){p:Nat}{T:TypeId}(hp:H[p]?=some (.cells l.row T))(hc:b4 H0 H)(k:List Fra):∀ (n i:Nat),i+n=(l.traits.l).length →
  M.go dS H0 (.c gy :: .lp ⟨(some [1,3]),[],true⟩ gy H :: .blk 0 :: .c (.lv [])::k) (kv [(1,.ptr p 0),(3,.int .i64 i)]) H =
   orE (bS (qV (BF l)) i (l.traits.l.drop i)) (H.take H0.length) (M.go dS H0 k .leaf H)
 |0,i,h=>by
  have e:i=(l.traits.l).length:=by omega
  subst e;rw [ag M gy.eq_1];simp (maxSteps:=3000000) (maxDischargeDepth:=6) +contextual -implicitDefEqProofs only [amC M,↓amD,Nat.reduceBEq,Nat.reduceAdd,env,ab,iV,Nat.lt_irrefl,List.drop_length,bH,hp]
 |n+1,i,h=>by
  have hi:i<(l.traits.l).length:=by omega
  have hx:(l.traits.l)[i]?=some (l.traits.l)[i]:=ZC hi;have hd:((l.traits.l).drop i)=(l.traits.l)[i]::(l.traits.l).drop (i+1):=ZD hi;have hm:(l.traits.l)[i]∈(l.traits.l):=ZJ hi;have ih:=rtr (H:=H) (H0:=H0) (hN:=hN) (hR:=hR) (l:=l) (n0:=n0) (hl:=hl) (p:=p) (T:=T) (hp:=hp) hc k n (i+1)  (by omega);simp only [kv_cons,kv_nil] at ih;have hp':=fun L=>bZ (L:=L) hp
  have w1:Wk H.length (.ptr p 0) (.ptr p 0):=wk_ptr (ZB.1 hp).1;have ht:=hl.traits.all _ hm;have h0:=fun k He=>rtv M (H:=H++[.cells l.traits.l[i].row bO]) (H0:=H0) hN hR ht (p:=p) (q:=H.length) (T:=bO) (by rw [cI];rfl) (i0:=i) (tr hc _) k l.traits.l[i].values.l.length 0 He (by omega)
  simp only [kv_cons,kv_nil,Int.ofNat_zero,List.drop_zero] at h0;rw [ag M gy.eq_1];simp (maxSteps:=3000000) (maxDischargeDepth:=6) +contextual -implicitDefEqProofs only [amC M,↓amD,Nat.reduceBEq,Nat.reduceAdd,env,ab,iV,hx,hd,hi,ih,amG,AV.cell,hp,hp',w1,h0,aZ hi hl.traits.len,aF hi,bH,qB,Fh M hN ht.name,IE M hR hl,Qt (p:=fun t:aK=>t.name == l.traits.l[i].name) hx (by simp),mM,BF,qE,D1,hc]
theorem FR(hN:bu E)(hR:uB E){l:Lex}{n:Nat}(hl:l.ok n)(H:List AObj):M.run nT [.agg l.row] H=some (.ret (.int .u8 (sL l)),H):=by
 rw [aN M hR.truchmanref02_traits rfl (c:=ow) rfl,ow];have h1:=fun k=>rtr M hN hR (H:=H++[.cells l.row ae]) hl (p:=H.length) (T:=ae) (by rw [cI];rfl) (cut_app H _) k l.traits.l.length 0 (by omega)
 simp only [kv_cons,kv_nil,Int.ofNat_zero,List.drop_zero] at h1;simp (maxSteps:=3000000) (maxDischargeDepth:=6) +contextual -implicitDefEqProofs only [amC M,↓amD,Nat.reduceBEq,Nat.reduceAdd,env,ab,iV,h1,bH,cut_app,sK,qs,sL,lq]
theorem Fi(s:Str):(!qW eW s)=(!ofF [] s||decide (6<(s.length:Int))):=by
 rw [GP,qW];cases s.all eW with
 |false=>simp
 |true=>simp only [Bool.and_true,Bool.not_true,Bool.false_or];rw [Bool.eq_iff_iff];simp
theorem rcs{H H0:List AObj}(hN:bu E)(hR:uB E){l:Lex}{c:aG}{n0:Nat}(hl:l.ok n0)(hco:c.ok n0){p q:Nat}{T T2:TypeId}(hp:H[p]?=some (.cells l.row T))(hq:H[q]?=some (.cells c.row T2)){i0:Nat}(hc:b4 H0 H)(k:List Fra):∀ (n i:Nat),i+n=(c.slots.l).length →
  M.go dF H0 (.c fI :: .lp ⟨(some [1,3,4,5]),[],true⟩ fI H :: .blk 3 :: .c (.lv [1,3])::k) (kv [(1,.ptr p 0),(3,.int .i64 i0),(4,.ptr q 0),(5,.int .i64 i)]) H =
   orE (bS (qV fun _ s=>xA l s) i (c.slots.l.drop i)) (H.take H0.length) (M.go dF H0 k (kv [(1,.ptr p 0),(3,.int .i64 i0)]) H)
 |0,i,h=>by
  have e:i=(c.slots.l).length:=by omega
  subst e;rw [ag M fI.eq_1];simp (maxSteps:=3000000) (maxDischargeDepth:=6) +contextual -implicitDefEqProofs only [amC M,↓amD,Nat.reduceBEq,Nat.reduceAdd,env,ab,iv,Nat.lt_irrefl,List.drop_length,iN,hq]
 |n+1,i,h=>by
  have hi:i<(c.slots.l).length:=by omega
  have hx:(c.slots.l)[i]?=some (c.slots.l)[i]:=ZC hi;have hd:((c.slots.l).drop i)=(c.slots.l)[i]::(c.slots.l).drop (i+1):=ZD hi;have hm:(c.slots.l)[i]∈(c.slots.l):=ZJ hi;have ih:=rcs (H:=H) (H0:=H0) (hN:=hN) (hR:=hR) (l:=l) (c:=c) (n0:=n0) (hl:=hl) (hco:=hco) (p:=p) (q:=q) (T:=T) (T2:=T2) (hp:=hp) (hq:=hq) (i0:=i0) hc k n (i+1)  (by omega);simp only [kv_cons,kv_nil] at ih;have hp':=fun L=>bZ (L:=L) hp
  have hq':=fun L=>bZ (L:=L) hq
  have w1:Wk H.length (.ptr p 0) (.ptr p 0):=wk_ptr (ZB.1 hp).1;have w2:Wk H.length (.ptr q 0) (.ptr q 0):=wk_ptr (ZB.1 hq).1;have hs:=hco.slots.all _ hm
  have e1:xA l c.slots.l[i]=sel (decide (c.slots.l[i].cut<0)||(decide (24<c.slots.l[i].cut)||(!ofF [] c.slots.l[i].pre||(decide (6<(c.slots.l[i].pre.length:Int))||(!ofF [] c.slots.l[i].add||decide (6<(c.slots.l[i].add.length:Int))))))) 1 (mN l c.slots.l[i].feats.l):=by
   rw [xA,Fi,Fi];simp only [Bool.or_assoc]
  rw [ag M fI.eq_1];simp (maxSteps:=3000000) (maxDischargeDepth:=6) +contextual -implicitDefEqProofs only [amC M,↓amD,Nat.reduceBEq,Nat.reduceAdd,env,ab,iv,hx,hd,hi,ih,amG,AV.cell,hp,hq,hp',hq',w1,w2,aZ hi hco.slots.len,aF hi,bH,iN,mY,Ab M hN hs.pre (more:=[]) (by simp),Ab M hN hs.add (more:=[]) (by simp),xC M hR hl hs.feats.len,mM,e1,Bool.or_assoc,qE,LV,hc]
theorem YP{H H0:List AObj}(hN:bu E)(hR:uB E){l:Lex}{n0:Nat}(hl:l.ok n0){p:Nat}{T:TypeId}(hp:H[p]?=some (.cells l.row T))(hc:b4 H0 H)(k:List Fra):∀ (n i:Nat),i+n=(l.classes.l).length →
  M.go dF H0 (.c fJ :: .lp ⟨(some [1,3]),[],true⟩ fJ H :: .blk 0 :: .c (.lv [])::k) (kv [(1,.ptr p 0),(3,.int .i64 i)]) H =
   orE (bS (qV (w5 l)) i (l.classes.l.drop i)) (H.take H0.length) (M.go dF H0 k .leaf H)
 |0,i,h=>by
  have e:i=(l.classes.l).length:=by omega
  subst e;rw [ag M fJ.eq_1];simp (maxSteps:=3000000) (maxDischargeDepth:=6) +contextual -implicitDefEqProofs only [amC M,↓amD,Nat.reduceBEq,Nat.reduceAdd,env,ab,iv,Nat.lt_irrefl,List.drop_length,bH,hp]
 |n+1,i,h=>by
  have hi:i<(l.classes.l).length:=by omega
  have hx:(l.classes.l)[i]?=some (l.classes.l)[i]:=ZC hi;have hd:((l.classes.l).drop i)=(l.classes.l)[i]::(l.classes.l).drop (i+1):=ZD hi;have hm:(l.classes.l)[i]∈(l.classes.l):=ZJ hi;have ih:=YP (H:=H) (H0:=H0) (hN:=hN) (hR:=hR) (l:=l) (n0:=n0) (hl:=hl) (p:=p) (T:=T) (hp:=hp) hc k n (i+1)  (by omega);simp only [kv_cons,kv_nil] at ih;have hp':=fun L=>bZ (L:=L) hp
  have w1:Wk H.length (.ptr p 0) (.ptr p 0):=wk_ptr (ZB.1 hp).1;have ht:=hl.classes.all _ hm;have h0:=fun k=>rcs M (H:=H++[.cells l.classes.l[i].row aR]) (H0:=H0) hN hR hl ht (p:=p) (q:=H.length) (T:=T) (T2:=aR) (hp' _) (by rw [cI];rfl) (i0:=i) (tr hc _) k l.classes.l[i].slots.l.length 0 (by omega)
  simp only [kv_cons,kv_nil,Int.ofNat_zero,List.drop_zero] at h0;rw [ag M fJ.eq_1];simp (maxSteps:=3000000) (maxDischargeDepth:=6) +contextual -implicitDefEqProofs only [amC M,↓amD,Nat.reduceBEq,Nat.reduceAdd,env,ab,iv,hx,hd,hi,ih,amG,AV.cell,hp,hp',w1,h0,aZ hi hl.classes.len,aF hi,bH,iN,Fh M hN ht.name,w7 M hR hl,Qt (p:=fun t:aG=>t.name == l.classes.l[i].name) hx (by simp),mM,w5,qE,D1,lq,hc]
theorem D2(hN:bu E)(hR:uB E){l:Lex}{n:Nat}(hl:l.ok n)(H:List AObj):M.run nm [.agg l.row] H=some (.ret (.int .u8 (rE l)),H):=by
 rw [aN M hR.truchmanref02_classes rfl (c:=nB) rfl,nB];have h1:=fun k=>YP M hN hR (H:=H++[.cells l.row ae]) hl (p:=H.length) (T:=ae) (by rw [cI];rfl) (cut_app H _) k l.classes.l.length 0 (by omega)
 simp only [kv_cons,kv_nil,Int.ofNat_zero,List.drop_zero] at h1;simp (maxSteps:=3000000) (maxDischargeDepth:=6) +contextual -implicitDefEqProofs only [amC M,↓amD,Nat.reduceBEq,Nat.reduceAdd,env,ab,iv,h1,bH,cut_app,sK,qs,rE,lq]
end
section
attribute [local congr] al br aJ ao aH aA aq ah aj aC aD
variable{E:aX}(M:bR bN E)
def rW(p:aI):List aI→Bool
 |[]=>true
 |x::l=>Op.bytesLess p.name x.name&&rW x l
def y6:List aI→Bool
 |[]=>true
 |x::l=>rW x l
def noU:AV:=.tuple [.slice .any 2 [],.bool false]
def Pj(b:List aI):Nat→aI→Option AV:=fun i x=>sel (C6 b (fun g => !Op.bytesLess g.name x.name) i) (some noU) none
theorem Ky(b:List aI):∀ (l:List aI) (i:Nat) (f:aI),b[i]?=some f→b.drop (i+1)=l→bS (Pj b) (i+1) l=sel (rW f l) none (some noU)
 |[],i,f,_,_=>rfl
 |x::l,i,f,h,hd=>by
  have h2:b[i+1]?=some x:=by
   have:=Z0 (xs:=b) (i:=i+1) (j:=0);rw [hd] at this;simpa using this.symm
  have hd2:b.drop (i+1+1)=l:=by
   have:(b.drop (i+1)).drop 1=l:=by rw [hd];rfl
   rwa [Z8] at this
  rw [lj,Ky b l (i+1) x h2 hd2,Pj,qX h,rW];cases Op.bytesLess f.name x.name<;>cases rW x l<;>rfl
theorem Pk(b:List aI)(H:List AObj)(x:Option Out):orE (bS (Pj b) 1 (b.drop 1)) H x=sel (y6 b) x (some (.ret noU,H)):=by
 cases b with
 |nil=>rfl
 |cons f l=>
  rw [show List.drop 1 (f::l)=l from rfl,Ky (f::l) l 0 f rfl rfl,y6];cases rW f l<;>rfl
theorem YQ{H H0:List AObj}{a b:Sl aI}(ha:a.l.length≤aQ)(hb:b.l.length≤aQ)(hc:b4 H0 H)(k:List Fra):∀ (n i:Nat) (h1:1≤i) (He:List AObj),(a.l).length-i=n →
  M.go da H0 (.c iB :: .lp ⟨(some [0,1,6]),[],false⟩ iB He :: .blk 0 :: .c (.lv [0,1])::k) (kv [(0,.slice a.tag 2 (a.l.map aI.row)),(1,.slice b.tag 2 (b.l.map aI.row)),(6,.int .i64 i)]) H =
   orE (bS (Pj a.l) i (a.l.drop i)) (H.take H0.length) (M.go da H0 k (kv [(0,.slice a.tag 2 (a.l.map aI.row)),(1,.slice b.tag 2 (b.l.map aI.row))]) H)
 |0,i,h1,He,h=>by
  have e:¬ i<(a.l).length:=by omega
  have e2:(a.l).drop i=[]:=aaa (by omega);rw [ag M iB.eq_1];simp (maxSteps:=3000000) (maxDischargeDepth:=6) +contextual -implicitDefEqProofs only [amC M,↓amD,Nat.reduceBEq,Nat.reduceAdd,env,ab,bI,e,e2]
 |n+1,i,h1,He,h=>by
  have hi:i<(a.l).length:=by omega
  have hx:(a.l)[i]?=some (a.l)[i]:=ZC hi;have hd:((a.l).drop i)=(a.l)[i]::(a.l).drop (i+1):=ZD hi;have hm:(a.l)[i]∈(a.l):=ZJ hi;have ih:=fun h1 He=>YQ (H:=H) (H0:=H0) (a:=a) (b:=b) (ha:=ha) (hb:=hb) hc k n (i+1) h1 He (by omega)
  simp only [kv_cons,kv_nil] at ih;have ih:=ih (by omega);cases i with
  |zero=>omega
  |succ i=>
   have hx1:a.l[i]?=some a.l[i]:=ZC (by omega);rw [ag M iB.eq_1];simp (maxSteps:=3000000) (maxDischargeDepth:=6) +contextual -implicitDefEqProofs only [amC M,↓amD,Nat.reduceBEq,Nat.reduceAdd,env,ab,bI,hx,hd,hi,ih,sO,hx1,aF hi,aF (show i<a.l.length by omega),EB (show i+1≤aQ by omega),aZ hi ha,Pj,qX hx1,hc,noU,cY]
theorem YR{H H0:List AObj}{a b:Sl aI}(ha:a.l.length≤aQ)(hb:b.l.length≤aQ)(hc:b4 H0 H)(k:List Fra):∀ (n i:Nat) (h1:1≤i) (He:List AObj),(b.l).length-i=n →
  M.go da H0 (.c iC :: .lp ⟨(some [0,1,7]),[],false⟩ iC He :: .blk 2 :: .c (.lv [0,1])::k) (kv [(0,.slice a.tag 2 (a.l.map aI.row)),(1,.slice b.tag 2 (b.l.map aI.row)),(7,.int .i64 i)]) H =
   orE (bS (Pj b.l) i (b.l.drop i)) (H.take H0.length) (M.go da H0 k (kv [(0,.slice a.tag 2 (a.l.map aI.row)),(1,.slice b.tag 2 (b.l.map aI.row))]) H)
 |0,i,h1,He,h=>by
  have e:¬ i<(b.l).length:=by omega
  have e2:(b.l).drop i=[]:=aaa (by omega);rw [ag M iC.eq_1];simp (maxSteps:=3000000) (maxDischargeDepth:=6) +contextual -implicitDefEqProofs only [amC M,↓amD,Nat.reduceBEq,Nat.reduceAdd,env,ab,bI,e,e2]
 |n+1,i,h1,He,h=>by
  have hi:i<(b.l).length:=by omega
  have hx:(b.l)[i]?=some (b.l)[i]:=ZC hi;have hd:((b.l).drop i)=(b.l)[i]::(b.l).drop (i+1):=ZD hi;have hm:(b.l)[i]∈(b.l):=ZJ hi;have ih:=fun h1 He=>YR (H:=H) (H0:=H0) (a:=a) (b:=b) (ha:=ha) (hb:=hb) hc k n (i+1) h1 He (by omega)
  simp only [kv_cons,kv_nil] at ih;have ih:=ih (by omega);cases i with
  |zero=>omega
  |succ i=>
   have hx1:b.l[i]?=some b.l[i]:=ZC (by omega);rw [ag M iC.eq_1];simp (maxSteps:=3000000) (maxDischargeDepth:=6) +contextual -implicitDefEqProofs only [amC M,↓amD,Nat.reduceBEq,Nat.reduceAdd,env,ab,bI,hx,hd,hi,ih,sO,hx1,aF hi,aF (show i<b.l.length by omega),EB (show i+1≤aQ by omega),aZ hi hb,Pj,qX hx1,hc,noU,cY]
end
section
attribute [local congr] al br aJ ao aH aA aq ah aj aC aD
variable{E:aX}(M:bR bN E)
def oZ:List aI→List aI→Option (List aI)
 |[],b=>some b
 |x::a,[]=>some (x::a)
 |x::a,y::b=>
  match Op.bytesLess x.name y.name with
  |true=>(oZ a (y::b)).map (x :: ·)
  |false=>match Op.bytesLess y.name x.name with
   |true=>(oZ (x::a) b).map (y :: ·)
   |false=>match x.name == y.name&&x.value == y.value with
    |true=>(oZ a b).map (x :: ·)
    |false=>none
termination_by a b=>a.length+b.length
theorem VQ(y:aI)(b:List aI):oZ [] (y::b)=(oZ [] b).map (y :: ·):=by simp [oZ]
theorem VR(x:aI)(a:List aI):oZ (x::a) []=(oZ a []).map (x :: ·):=by
 cases a<;>simp [oZ]
theorem RN:oZ [] []=some []:=by simp [oZ]
def mgO(M:bR bN E)(H0:List AObj)(k:List Fra)(o:List aI)(r:Option (List aI))(H:List AObj):Option Out:=
 match r with
 |none=>some (.ret noU,H.take H0.length)
 |some r=>M.go da H0 k (kv [(8,.slice (.own H.length) 2 ((o++r).map aI.row))]) (H++[.tok ((o++r).length*2) bQ])
theorem BH(H0:List AObj)(k:List Fra)(o:List aI)(x:aI)(r:Option (List aI))(H:List AObj):mgO M H0 k o (r.map (x :: ·)) H=mgO M H0 k (o++[x]) r H:=by
 cases r with
 |none=>rfl
 |some r=>simp only [Option.map_some,mgO,List.append_assoc,List.cons_append,List.nil_append]
theorem NC(x y:aI):req (.st [(0,.str),(1,.str)]) (.agg x.row) (.agg y.row)=some (x.name == y.name&&x.value == y.value):=by
 simp only [req,yp,aI.row,List.getElem?_cons_zero,List.getElem?_cons_succ,Dr];cases x.name == y.name<;>simp
 cases x.value == y.value<;>rfl
theorem VS(n:Nat)(x:aI):WkL n (aI.row x) (aI.row x):=⟨wk_str _ _,wk_str _ _,trivial⟩
theorem rum{a b:Sl aI}{H H0:List AObj}(hc:b4 H0 H)(k:List Fra):∀ (n i j:Nat) (o:List aI) (He:List AObj),i≤a.l.length→j≤b.l.length→(a.l.length-i)+(b.l.length-j)=n→o.length+n≤4000000000000→a.l.length+b.l.length≤4000000000000 →
  M.go da H0 (.c cf :: .lp ⟨(some [0,1,8,9,10]),[(8,2,bQ)],false⟩ cf He :: .blk 4 :: .c (.lv [8])::k) (kv [(0,.slice a.tag 2 (a.l.map aI.row)),(1,.slice b.tag 2 (b.l.map aI.row)),(8,.slice (.own H.length) 2 (o.map aI.row)),(9,.int .i64 i),(10,.int .i64 j)]) (H++[.tok (o.length*2) bQ]) =
   mgO M H0 k o (oZ (a.l.drop i) (b.l.drop j)) H
 |n,i,j,o,He,hi,hj,hn,ho,hab=>by
  have bi:i<a.l.length→IntKind.i64.wrap ((i:Int)+1)=((i+1:Nat):Int):=fun h=>aZ h (by simp only [aQ];omega)
  have bj:j<b.l.length→IntKind.i64.wrap ((j:Int)+1)=((j+1:Nat):Int):=fun h=>aZ h (by simp only [aQ];omega)
  have ap:=fun (x:aI) (h:o.length+1≤4000000000000)=>HV (row:=aI.row) (l:=o) (x:=x) (r:=x.row) (sz:=2) (bytes:=32) (e:=bQ) H rfl rfl rfl (by omega) (by omega)
  by_cases h1:i<a.l.length
  ·have hx:a.l[i]?=some a.l[i]:=ZC h1
   have hd:a.l.drop i=a.l[i]::a.l.drop (i+1):=ZD h1;have hol:o.length+1≤4000000000000:=by omega
   have i1:=fun He=>rum hc k (n-1) (i+1) j (o++[a.l[i]]) He (by omega) hj (by omega) (by simp;omega) hab
   have hne:(i == a.l.length)=false:=by simp;omega
   by_cases h2:j<b.l.length
   ·have hy:b.l[j]?=some b.l[j]:=ZC h2
    have hdy:b.l.drop j=b.l[j]::b.l.drop (j+1):=ZD h2;have i2:=fun He=>rum hc k (n-1) i (j+1) (o++[b.l[j]]) He hi (by omega) (by omega) (by simp;omega) hab
    have i3:=fun He=>rum hc k (n-2) (i+1) (j+1) (o++[a.l[i]]) He (by omega) (by omega) (by omega) (by simp;omega) hab
    have hne2:(j == b.l.length)=false:=by simp;omega
    simp only [kv_cons,kv_nil] at i1 i2 i3;rw [hd,hdy,oZ,← hd,← hdy];cases c1:Op.bytesLess a.l[i].name b.l[j].name with
    |true=>
     simp only [BH];rw [ag M cf.eq_1];simp (maxSteps:=3000000) (maxDischargeDepth:=6) +contextual -implicitDefEqProofs only [amC M,↓amD,Nat.reduceBEq,Nat.reduceAdd,env,ab,bI,amG,AV.cell,Nat.reduceMul,Nat.reduceLeDiff,hx,hy,h1,h2,bi h1,bj h2,sO,aF h1,aF h2,hne,hne2,c1,ap a.l[i] hol,i1]
    |false=>
     simp only;cases c2:Op.bytesLess b.l[j].name a.l[i].name with
     |true=>
      simp only [BH];rw [ag M cf.eq_1];simp (maxSteps:=3000000) (maxDischargeDepth:=6) +contextual -implicitDefEqProofs only [amC M,↓amD,Nat.reduceBEq,Nat.reduceAdd,env,ab,bI,amG,AV.cell,Nat.reduceMul,Nat.reduceLeDiff,hx,hy,h1,h2,bi h1,bj h2,sO,aF h1,aF h2,hne,hne2,c1,c2,ap b.l[j] hol,i2]
     |false=>
      simp only;cases c3:(a.l[i].name == b.l[j].name&&a.l[i].value == b.l[j].value) with
      |true=>
       simp only [BH];rw [ag M cf.eq_1];simp (maxSteps:=3000000) (maxDischargeDepth:=6) +contextual -implicitDefEqProofs only [amC M,↓amD,Nat.reduceBEq,Nat.reduceAdd,env,ab,bI,amG,AV.cell,Nat.reduceMul,Nat.reduceLeDiff,hx,hy,h1,h2,bi h1,bj h2,sO,aF h1,aF h2,hne,hne2,c1,c2,c3,NC,ap a.l[i] hol,i3]
      |false=>
       simp only [mgO];rw [ag M cf.eq_1];simp (maxSteps:=3000000) (maxDischargeDepth:=6) +contextual -implicitDefEqProofs only [amC M,↓amD,Nat.reduceBEq,Nat.reduceAdd,env,ab,bI,amG,AV.cell,Nat.reduceMul,Nat.reduceLeDiff,hx,hy,h1,h2,bi h1,bj h2,sO,aF h1,aF h2,hne,hne2,c1,c2,c3,NC,hc,noU,cY]
   ·obtain rfl:j=b.l.length:=by omega
    have hdy:b.l.drop b.l.length=[]:=List.drop_length;simp only [kv_cons,kv_nil] at i1;rw [hd,hdy,VR,BH];rw [hdy] at i1;rw [ag M cf.eq_1];simp (maxSteps:=3000000) (maxDischargeDepth:=6) +contextual -implicitDefEqProofs only [amC M,↓amD,Nat.reduceBEq,Nat.reduceAdd,env,ab,bI,amG,AV.cell,Nat.reduceMul,Nat.reduceLeDiff,hx,h1,Nat.lt_irrefl,bi h1,sO,aF h1,hne,beq_self_eq_true,ap a.l[i] hol,i1]
  ·obtain rfl:i=a.l.length:=by omega
   have hdx:a.l.drop a.l.length=[]:=List.drop_length
   by_cases h2:j<b.l.length
   ·have hy:b.l[j]?=some b.l[j]:=ZC h2
    have hdy:b.l.drop j=b.l[j]::b.l.drop (j+1):=ZD h2;have hol:o.length+1≤4000000000000:=by omega
    have i2:=fun He=>rum hc k (n-1) a.l.length (j+1) (o++[b.l[j]]) He hi (by omega) (by omega) (by simp;omega) hab
    have hne2:(j == b.l.length)=false:=by simp;omega
    simp only [kv_cons,kv_nil] at i2;rw [hdx,hdy,VQ,BH];rw [hdx] at i2;rw [ag M cf.eq_1];simp (maxSteps:=3000000) (maxDischargeDepth:=6) +contextual -implicitDefEqProofs only [amC M,↓amD,Nat.reduceBEq,Nat.reduceAdd,env,ab,bI,amG,AV.cell,Nat.reduceMul,Nat.reduceLeDiff,hy,h2,Nat.lt_irrefl,bj h2,sO,aF h2,hne2,beq_self_eq_true,ap b.l[j] hol,i2]
   ·obtain rfl:j=b.l.length:=by omega
    rw [hdx,List.drop_length,RN,mgO,Z6];rw [ag M cf.eq_1];simp (maxSteps:=3000000) (maxDischargeDepth:=6) +contextual -implicitDefEqProofs only [amC M,↓amD,Nat.reduceBEq,Nat.reduceAdd,env,ab,bI,Nat.lt_irrefl]
termination_by n=>n
decreasing_by all_goals omega
def Fj(a b:List aI):Option (List aI):=sel (y6 a) (sel (y6 b) (oZ a b) none) none
def VT(r:Option (List aI)):AV:=
 match r with
 |none=>noU
 |some r=>.tuple [.slice .any 2 (r.map aI.row),.bool true]
theorem Pn(hR:uB E){a b:Sl aI}(hab:a.l.length+b.l.length≤4000000000000)(H:List AObj) :
  M.run pC [.slice a.tag 2 (a.l.map aI.row),.slice b.tag 2 (b.l.map aI.row)] H=some (.ret (VT (Fj a.l b.l)),H):=by
 rw [aN M hR.truchmanref02_Unify rfl (c:=p7) rfl,p7];have ha:a.l.length≤aQ:=by simp only [aQ];omega
 have hb:b.l.length≤aQ:=by simp only [aQ];omega
 have h1:=fun k He=>YQ M ha hb (cut_refl H) k (a.l.length-1) 1 (by omega) He rfl
 have h2:=fun k He=>YR M ha hb (cut_refl H) k (b.l.length-1) 1 (by omega) He rfl
 have h3:=fun k He=>rum M (a:=a) (b:=b) (cut_refl H) k (a.l.length+b.l.length) 0 0 [] He (by omega) (by omega) (by omega) (by simp;omega) hab
 simp only [kv_cons,kv_nil,Int.ofNat_zero,(show ((1:Nat):Int)=1 from rfl),List.drop_zero,Pk,List.length_nil,Nat.zero_mul,List.map_nil] at h1 h2 h3;simp (maxSteps:=3000000) (maxDischargeDepth:=6) +contextual -implicitDefEqProofs only [amC M,↓amD,Nat.reduceBEq,Nat.reduceAdd,env,ab,bI,h1,h2,h3];unfold Fj;cases y6 a.l with
 |false=>rfl
 |true=>
  cases y6 b.l with
  |false=>rfl
  |true=>
   simp only [Bool.and_true,slc_true,sel];cases oZ a.l b.l with
   |none=>simp only [mgO,hp_self,VT]
   |some r=>
    simp only [mgO,List.nil_append,VT];simp (maxSteps:=3000000) (maxDischargeDepth:=6) +contextual -implicitDefEqProofs only [amC M,↓amD,Nat.reduceBEq,Nat.reduceAdd,env,ab,bI,VS,implies_true]
end
theorem ya:∀ x:Str,Op.bytesLess x x=false
 |[]=>rfl
 |a::x=>by
  have h:¬ a<a:=by simp
  simp only [Op.bytesLess,ya x,Bool.and_false,Bool.or_false,decide_eq_false h]
theorem IF:∀ {x y:Str},Op.bytesLess x y=false→Op.bytesLess y x=false→x=y
 |[],[],_,_=>rfl
 |[],_::_,h,_=>by simp [Op.bytesLess] at h
 |_::_,[],_,h=>by simp [Op.bytesLess] at h
 |a::x,b::y,h1,h2=>by
  simp only [Op.bytesLess,Bool.or_eq_false_iff,decide_eq_false_iff_not] at h1 h2;have hab:a=b:=UInt8.le_antisymm (UInt8.not_lt.1 h2.1) (UInt8.not_lt.1 h1.1);subst hab;simp only [beq_self_eq_true,Bool.true_and] at h1 h2;rw [IF h1.2 h2.2]
theorem ve:∀ {x y z:Str},Op.bytesLess x y=true→Op.bytesLess y z=true→Op.bytesLess x z=true
 |_,[],_,h,_=>by cases ‹List UInt8› <;> simp [Op.bytesLess] at h
 |_,_::_,[],_,h=>by simp [Op.bytesLess] at h
 |[],_::_,_::_,_,_=>rfl
 |a::x,b::y,c::z,h1,h2=>by
  simp only [Op.bytesLess,Bool.or_eq_true,decide_eq_true_eq,Bool.and_eq_true,beq_iff_eq] at h1 h2 ⊢;rcases h1 with h1 | ⟨rfl,h1⟩
  ·rcases h2 with h2 | ⟨rfl,h2⟩
   ·exact .inl (UInt8.lt_trans h1 h2)
   ·exact .inl h1
  ·rcases h2 with h2 | ⟨rfl,h2⟩
   ·exact .inl h2
   ·exact .inr ⟨rfl,ve h1 h2⟩
theorem TH{x y:Str}(h:Op.bytesLess x y=true):Op.bytesLess y x=false:=by
 cases h2:Op.bytesLess y x with
 |false=>rfl
 |true=>have:=ve h h2;rw [ya] at this;cases this
theorem Kz{x y:Str}(h:Op.bytesLess x y=true):(x == y)=false:=by
 cases h2:x == y with
 |false=>rfl
 |true=>rw [eq_of_beq h2,ya] at h;cases h
theorem Ai:∀ {l:List aI}{p:aI},rW p l=true→∀ x∈l,Op.bytesLess p.name x.name=true
 |[],_,_,_,h=>by cases h
 |y::l,p,h,x,hx=>by
  simp only [rW,Bool.and_eq_true] at h;rcases ZY.1 hx with rfl | hx
  ·exact h.1
  ·exact ve h.1 (Ai h.2 x hx)
theorem B4{x:aI}{l:List aI}(h:y6 (x::l)=true):y6 l=true:=by
 cases l with
 |nil=>rfl
 |cons y l=>simp only [y6,rW,Bool.and_eq_true] at h ⊢;exact h.2
theorem IG{x:aI}{b:List aI}(h:∀ y∈b,(x.name == y.name)=false):(b.any fun g=>mP x g)=false:=by
 rw [List.any_eq_false];intro y hy;simp [mP,h y hy]
theorem w8(x:aI)(a b:List aI):oY (x::a) b=((b.any fun g=>mP x g)||oY a b):=rfl
theorem BI(y:aI):∀ (a b:List aI),oY a (y::b)=((a.any fun f=>mP f y)||oY a b)
 |[],_=>rfl
 |x::a,b=>by
  rw [w8,w8,BI y a b,List.any_cons,List.any_cons];cases mP x y<;>cases (b.any fun g=>mP x g)<;>cases (a.any fun f=>mP f y)<;>simp
theorem FS{y:aI}{a:List aI}(h:∀ x∈a,(x.name == y.name)=false):(a.any fun f=>mP f y)=false:=by
 rw [List.any_eq_false];intro x hx;simp [mP,h x hx]
theorem xD:∀ (n:Nat) (a b:List aI),a.length+b.length≤n→y6 a=true→y6 b=true→(oZ a b).isSome = !oY a b
 |_,[],b,_,_,_=>by cases b<;>simp [oZ,oY]
 |_,x::a,[],_,_,_=>by
  have:oY (x::a) []=false:=by simp [oY]
  rw [this];simp [oZ]
 |0,x::a,y::b,h,_,_=>by simp at h
 |n+1,x::a,y::b,h,ha,hb=>by
  have hxa:∀ z∈a,Op.bytesLess x.name z.name=true:=Ai ha;have hyb:∀ z∈b,Op.bytesLess y.name z.name=true:=Ai hb;simp only [List.length_cons] at h;rw [oZ];cases c1:Op.bytesLess x.name y.name with
  |true=>
   simp only [Option.isSome_map]
   rw [xD n a (y::b) (by simp only [List.length_cons];omega) (B4 ha) hb,w8,IG (x:=x) (b:=y::b) (fun z hz=>by
    rcases ZY.1 hz with rfl | hz
    ·exact Kz c1
    ·exact Kz (ve c1 (hyb z hz))),Bool.false_or]
  |false=>
   simp only;cases c2:Op.bytesLess y.name x.name with
   |true=>
    simp only [Option.isSome_map]
    rw [xD n (x::a) b (by simp only [List.length_cons];omega) ha (B4 hb),BI,FS (y:=y) (a:=x::a) (fun z hz=>by
     rw [Ah];rcases ZY.1 hz with rfl | hz
     ·exact Kz c2
     ·exact Kz (ve c2 (hxa z hz))),Bool.false_or]
   |false=>
    have hn:=IF c1 c2;simp only [hn,beq_self_eq_true,Bool.true_and];cases c3:x.value == y.value with
    |true=>
     simp only [Option.isSome_map]
     rw [xD n a b (by omega) (B4 ha) (B4 hb),w8,BI,List.any_cons,IG (x:=x) (b:=b) (fun z hz=>by rw [hn];exact Kz (hyb z hz)),
      FS (y:=y) (a:=a) (fun z hz=>by rw [Ah,← hn];exact Kz (hxa z hz))]
     simp [mP,c3]
    |false=>
     simp only [Option.isSome_none];rw [w8,List.any_cons];simp [mP,hn,c3]
theorem ND{a b:List aI}(ha:y6 a=true)(hb:y6 b=true):(Fj a b).isSome = !oY a b:=by
 rw [Fj,ha,hb];exact xD _ a b (ZO _) ha hb
theorem pw{α:Type}{F:Nat→α→Int}:∀ {l:List α}{s:Nat},sJ F s l=0→∀ (k:Nat) (x:α),l[k]?=some x→F (s+k) x=0
 |[],_,_,k,x,h=>by simp at h
 |y::l,s,h,k,x,hx=>by
  rw [sJ] at h;cases hy:F s y == 0 with
  |false=>
   rw [hy] at h;simp only [Bool.not_false,sel] at h;rw [h] at hy;simp at hy
  |true=>
   rw [hy] at h;simp only [Bool.not_true,sel] at h;cases k with
   |zero=>obtain rfl:y=x:=by simpa using hx
          exact eq_of_beq hy
   |succ k=>
    have:=pw h k x (by simpa using hx);rwa [show s+1+k=s+(k+1) by omega] at this
theorem jr{α:Type}{F:Nat→α→Int}{most:Int}{l:List α}(h:lq most F l=0):(l.length:Int)≤most∧∀ (k:Nat) (x:α),l[k]?=some x→F k x=0:=by
 unfold lq at h;cases hd:decide (most<(l.length:Int)) with
 |true=>rw [hd] at h;simp [sel] at h
 |false=>
  rw [hd] at h;simp only [sel] at h;refine ⟨by simpa using hd,fun k x hx => ?_⟩;have:=pw h k x hx;rwa [Z4] at this
theorem Qu:∀ {l:List aI},(∀ (i:Nat) (g f:aI),l[i]?=some g→l[i+1]?=some f→Op.bytesLess g.name f.name=true)→y6 l=true
 |[],_=>rfl
 |[x],_=>rfl
 |x::y::l,h=>by
  have h0:=h 0 x y rfl rfl;have h1:y6 (y::l)=true:=Qu (fun i g f hg hf=>h (i+1) g f (by simpa using hg) (by simpa using hf));simp only [y6,rW,Bool.and_eq_true] at h1 ⊢;exact ⟨h0,h1⟩
theorem bundle_ok{l:Lex}{b:List aI}(h:mN l b=0):b.length≤8∧y6 b=true:=by
 obtain ⟨h1,h2⟩:=jr h;refine ⟨by omega,Qu fun i g f hg hf => ?_⟩;have:=h2 (i+1) f hf;unfold Cm at this;split at this
 ·exact absurd this (by decide)
 ·rw [qX hg,qX hg] at this
  revert this;cases (!List.any _ _) with
  |true=>intro h;simp [sel] at h
  |false=>
   cases c:g.name == f.name with
   |true=>intro h;simp [sel] at h
   |false=>
    cases c2:Op.bytesLess g.name f.name with
    |true=>intro _;rfl
    |false=>intro h;simp [sel] at h
section
attribute [local congr] al br aJ ao aH aA aq ah aj aC aD
variable{E:aX}(M:bR bN E)
theorem B5{α:Type}(p:α→Bool)(v:AV)(H:List AObj)(x:Option Out):∀ (l:List α) (i:Nat),orE (bS (fun _ o=>sel (p o) (some v) none) i l) H x=sel (l.any p) (some (.ret v,H)) x
 |[],_=>rfl
 |o::l,i=>by
  rw [lj,LM,B3,yx,Nc,B5 p v H x l,List.any_cons];cases p o<;>rfl
theorem VU(r:Option (List aI)):VT r = .tuple [.slice .any 2 ((r.getD []).map aI.row),.bool r.isSome]:=by cases r<;>rfl
theorem re0{H H0:List AObj}{l:Lex}{x:ak}{n0:Nat}(hl:l.ok n0){p q:Nat}{T T2:TypeId}(hp:H[p]?=some (.cells l.row T))(hq:H[q]?=some (.cells x.row T2)){c:Int}{L:List ak}(hL:∀ k,k<L.length→l.entries.l[k]?=L[k]?)(hLl:L.length≤l.entries.l.length)(hc:b4 H0 H)(k:List Fra):∀ (n i:Nat) (He:List AObj),i+n=L.length →
  M.go bz H0 (.c fK :: .lp ⟨(some [1,3,4,5,6]),[],false⟩ fK He :: .blk 2 :: .c (.lv [1,3,4,5])::k) (kv [(1,.ptr p 0),(3,.int .i64 L.length),(4,.ptr q 0),(5,.int .i64 c),(6,.int .i64 i)]) H =
   orE (bS (fun _ o=>sel (o.lem == x.lem&&o.cls == x.cls) (some (.int .u8 6)) none) i (L.drop i)) (H.take H0.length) (M.go bz H0 k (kv [(1,.ptr p 0),(3,.int .i64 L.length),(4,.ptr q 0),(5,.int .i64 c)]) H)
 |0,i,He,h=>by
  have e:i=L.length:=by omega
  subst e;rw [ag M fK.eq_1];simp (maxSteps:=3000000) (maxDischargeDepth:=6) +contextual -implicitDefEqProofs only [amC M,↓amD,Nat.reduceBEq,Nat.reduceAdd,env,ab,bA,Nat.lt_irrefl,List.drop_length]
 |n+1,i,He,h=>by
  have hi:i<L.length:=by omega
  have hx:L[i]?=some L[i]:=ZC hi;have hd:(L.drop i)=L[i]::L.drop (i+1):=ZD hi;have hm:L[i]∈L:=ZJ hi;have ih:=fun He=>re0 (H:=H) (H0:=H0) (l:=l) (x:=x) (n0:=n0) (hl:=hl) (p:=p) (q:=q) (T:=T) (T2:=T2) (hp:=hp) (hq:=hq) (c:=c) (L:=L) (hL:=hL) (hLl:=hLl) hc k n (i+1)  He (by omega)
  simp only [kv_cons,kv_nil] at ih;have hx2:l.entries.l[i]?=some L[i]:=(hL i hi).trans hx;rw [ag M fK.eq_1];simp (maxSteps:=3000000) (maxDischargeDepth:=6) +contextual -implicitDefEqProofs only [amC M,↓amD,Nat.reduceBEq,Nat.reduceAdd,env,ab,bA,hx,hd,hi,ih,aZ hi (Nat.le_trans hLl hl.entries.len),aF (show i<l.entries.l.length by omega),hx2,bH,dg,hp,hq,hc]
theorem re1{H H0:List AObj}(hR:uB E){x:ak}{p q:Nat}{T2:TypeId}(hq:H[q]?=some (.cells x.row T2)){i0:Nat}{sl:Sl aL}(hs:sl.l.length≤aQ)(hab:∀ s∈sl.l,x.feats.l.length+s.feats.l.length≤4000000000000)(hc:b4 H0 H)(k:List Fra):∀ (n i:Nat) (He:List AObj),i+n=(sl.l).length →
  M.go bz H0 (.c fL :: .lp ⟨(some [1,3,4,8,9]),[],false⟩ fL He :: .blk 4 :: .c (.lv [1,3,4,8])::k) (kv [(1,.ptr p 0),(3,.int .i64 i0),(4,.ptr q 0),(8,.slice sl.tag 4 (sl.l.map aL.row)),(9,.int .i64 i)]) H =
   orE (bS (fun _ s=>sel (!(Fj x.feats.l s.feats.l).isSome) (some (.int .u8 10)) none) i (sl.l.drop i)) (H.take H0.length) (M.go bz H0 k (kv [(1,.ptr p 0),(3,.int .i64 i0),(4,.ptr q 0),(8,.slice sl.tag 4 (sl.l.map aL.row))]) H)
 |0,i,He,h=>by
  have e:i=(sl.l).length:=by omega
  subst e;rw [ag M fL.eq_1];simp (maxSteps:=3000000) (maxDischargeDepth:=6) +contextual -implicitDefEqProofs only [amC M,↓amD,Nat.reduceBEq,Nat.reduceAdd,env,ab,bA,Nat.lt_irrefl,List.drop_length]
 |n+1,i,He,h=>by
  have hi:i<(sl.l).length:=by omega
  have hx:(sl.l)[i]?=some (sl.l)[i]:=ZC hi;have hd:((sl.l).drop i)=(sl.l)[i]::(sl.l).drop (i+1):=ZD hi;have hm:(sl.l)[i]∈(sl.l):=ZJ hi;have ih:=fun He=>re1 (H:=H) (H0:=H0) (hR:=hR) (x:=x) (p:=p) (q:=q) (T2:=T2) (hq:=hq) (i0:=i0) (sl:=sl) (hs:=hs) (hab:=hab) hc k n (i+1)  He (by omega)
  simp only [kv_cons,kv_nil] at ih;rw [ag M fL.eq_1];simp (maxSteps:=3000000) (maxDischargeDepth:=6) +contextual -implicitDefEqProofs only [amC M,↓amD,Nat.reduceBEq,Nat.reduceAdd,env,ab,bA,hx,hd,hi,ih,aZ hi hs,aF hi,mY,dg,hq,hc,Pn M hR (hab _ hm),VU]
theorem re2{H H0:List AObj}{x:ak}{f:bo}{p q r:Nat}{T2 T3:TypeId}(hq:H[q]?=some (.cells x.row T2))(hr:H[r]?=some (.cells f.row T3)){i0:Nat}{sv:AV}{L:List bo}(hL:∀ k,k<L.length→x.forms.l[k]?=L[k]?)(hLl:L.length≤x.forms.l.length)(hxl:x.forms.l.length≤aQ)(hc:b4 H0 H)(k:List Fra):∀ (n i:Nat) (He:List AObj),i+n=L.length →
  M.go bz H0 (.c fM :: .lp ⟨(some [1,3,4,8,12,13,14]),[],false⟩ fM He :: .blk 8 :: .c (.lv [1,3,4,8,12,13])::k) (kv [(1,.ptr p 0),(3,.int .i64 i0),(4,.ptr q 0),(8,sv),(12,.int .i64 L.length),(13,.ptr r 0),(14,.int .i64 i)]) H =
   orE (bS (fun _ o=>sel (o.slot == f.slot) (some (.int .u8 6)) none) i (L.drop i)) (H.take H0.length) (M.go bz H0 k (kv [(1,.ptr p 0),(3,.int .i64 i0),(4,.ptr q 0),(8,sv),(12,.int .i64 L.length),(13,.ptr r 0)]) H)
 |0,i,He,h=>by
  have e:i=L.length:=by omega
  subst e;rw [ag M fM.eq_1];simp (maxSteps:=3000000) (maxDischargeDepth:=6) +contextual -implicitDefEqProofs only [amC M,↓amD,Nat.reduceBEq,Nat.reduceAdd,env,ab,bA,Nat.lt_irrefl,List.drop_length]
 |n+1,i,He,h=>by
  have hi:i<L.length:=by omega
  have hx:L[i]?=some L[i]:=ZC hi;have hd:(L.drop i)=L[i]::L.drop (i+1):=ZD hi;have hm:L[i]∈L:=ZJ hi;have ih:=fun He=>re2 (H:=H) (H0:=H0) (x:=x) (f:=f) (p:=p) (q:=q) (r:=r) (T2:=T2) (T3:=T3) (hq:=hq) (hr:=hr) (i0:=i0) (sv:=sv) (L:=L) (hL:=hL) (hLl:=hLl) (hxl:=hxl) hc k n (i+1)  He (by omega)
  simp only [kv_cons,kv_nil] at ih;have hx2:x.forms.l[i]?=some L[i]:=(hL i hi).trans hx;rw [ag M fM.eq_1];simp (maxSteps:=3000000) (maxDischargeDepth:=6) +contextual -implicitDefEqProofs only [amC M,↓amD,Nat.reduceBEq,Nat.reduceAdd,env,ab,bA,hx,hd,hi,ih,aZ hi (Nat.le_trans hLl hxl),aF (show i<x.forms.l.length by omega),hx2,dg,Bn,hq,hr,hc]
theorem BJ{α:Type}(l:List α)(i:Nat):∀ k,k<(l.take i).length→l[k]?=(l.take i)[k]? := fun k hk=>by
 rw [List.getElem?_take_of_lt];simp at hk;omega
theorem KA{α:Type}{l:List α}{i:Nat}(h:i≤l.length):(l.take i).length=i:=by simp;omega
theorem re3{H H0:List AObj}(hN:bu E){x:ak}{n0:Nat}(hx0:x.ok n0)(hn:n0≤H.length){p q:Nat}(hpl:p<H.length){T2:TypeId}(hq:H[q]?=some (.cells x.row T2)){i0:Nat}{sl:Sl aL}(hsw:Wk H.length (.slice sl.tag 4 (sl.l.map aL.row)) (.slice sl.tag 4 (sl.l.map aL.row)))(hc:b4 H0 H)(k:List Fra):∀ (n i:Nat),i+n=(x.forms.l).length →
  M.go bz H0 (.c fN :: .lp ⟨(some [1,3,4,8,12]),[],true⟩ fN H :: .blk 6 :: .c (.lv [1,3])::k) (kv [(1,.ptr p 0),(3,.int .i64 i0),(4,.ptr q 0),(8,.slice sl.tag 4 (sl.l.map aL.row)),(12,.int .i64 i)]) H =
   orE (bS (qV (CG sl.l.length x.forms.l)) i (x.forms.l.drop i)) (H.take H0.length) (M.go bz H0 k (kv [(1,.ptr p 0),(3,.int .i64 i0)]) H)
 |0,i,h=>by
  have e:i=(x.forms.l).length:=by omega
  subst e;rw [ag M fN.eq_1];simp (maxSteps:=3000000) (maxDischargeDepth:=6) +contextual -implicitDefEqProofs only [amC M,↓amD,Nat.reduceBEq,Nat.reduceAdd,env,ab,bA,Nat.lt_irrefl,List.drop_length,dg,hq]
 |n+1,i,h=>by
  have hi:i<(x.forms.l).length:=by omega
  have hx:(x.forms.l)[i]?=some (x.forms.l)[i]:=ZC hi;have hd:((x.forms.l).drop i)=(x.forms.l)[i]::(x.forms.l).drop (i+1):=ZD hi;have hm:(x.forms.l)[i]∈(x.forms.l):=ZJ hi;have ih:=re3 (H:=H) (H0:=H0) (hN:=hN) (x:=x) (n0:=n0) (hx0:=hx0) (hn:=hn) (p:=p) (q:=q) (hpl:=hpl) (T2:=T2) (hq:=hq) (i0:=i0) (sl:=sl) (hsw:=hsw) hc k n (i+1)  (by omega);simp only [kv_cons,kv_nil] at ih;have hq':=fun L=>bZ (L:=L) hq
  have w1:Wk H.length (.ptr p 0) (.ptr p 0):=wk_ptr hpl;have w2:Wk H.length (.ptr q 0) (.ptr q 0):=wk_ptr (ZB.1 hq).1;have h0:=fun k He=>re2 M (H:=H++[.cells x.forms.l[i].row cB]) (H0:=H0) (x:=x) (f:=x.forms.l[i]) (p:=p) (q:=q) (r:=H.length) (T2:=T2) (T3:=cB) (hq' _) (by rw [cI];rfl) (i0:=i0) (sv:=.slice sl.tag 4 (sl.l.map aL.row)) (L:=x.forms.l.take i) (BJ _ _) (by simp;omega) hx0.forms.len (tr hc _) k (x.forms.l.take i).length 0 He (by omega)
  simp only [kv_cons,kv_nil,Int.ofNat_zero,List.drop_zero,KA (Nat.le_of_lt hi),B5] at h0;rw [ag M fN.eq_1];simp (maxSteps:=3000000) (maxDischargeDepth:=6) +contextual -implicitDefEqProofs only [amC M,↓amD,Nat.reduceBEq,Nat.reduceAdd,env,ab,bA,hx,hd,hi,ih,amG,AV.cell,hq,hq',w1,w2,hsw,h0,aZ hi hx0.forms.len,aF hi,Bn,dg,xy M hN (hx0.forms.all _ hm).word,hc,mM,CG,qE]
end
section
attribute [local congr] al br aJ ao aH aA aq ah aj aC aD
variable{E:aX}(M:bR bN E)
def Qv(l:Lex):Prop:=∀ c∈l.classes.l,∀ s∈c.slots.l,s.feats.l.length≤8∧y6 s.feats.l=true
theorem NF{l:Lex}(h:rE l=0):Qv l:=fun c hc s hs=>by
 obtain ⟨k,hk⟩:=ZV hc;have h1:=(jr h).2 k c hk;unfold w5 at h1;revert h1;cases (!CE c.name) with
 |true=>intro h;simp [sel] at h
 |false=>
  cases (List.any _ _) with
  |true=>intro h;simp [sel] at h
  |false=>
   cases (decide ((24:Int)<(c.slots.l.length:Int))) with
   |true=>intro h;simp [sel] at h
   |false=>
    cases ((c.slots.l.length:Int) == 0) with
    |true=>intro h;simp [sel] at h
    |false=>
     intro h1;obtain ⟨j,hj⟩:=ZV hs;have h2:=(jr h1).2 j s hj;unfold xA at h2;revert h2;cases (decide (s.cut<0)||decide (24<s.cut) || !qW eW s.pre || !qW eW s.add) with
     |true=>intro h;simp [sel] at h
     |false=>intro h;exact bundle_ok h
theorem KB{α:Type}{p q:α→Bool}:∀ {l:List α},(∀ x∈l,p x=q x)→l.any p=l.any q
 |[],_=>rfl
 |x::l,h=>by rw [List.any_cons,List.any_cons,h x (by simp),KB (fun y hy=>h y (by simp [hy]))]
theorem re4{H H0:List AObj}(hN:bu E)(hR:uB E){l:Lex}{n0:Nat}(hl:l.ok n0)(hn:n0≤H.length)(hsh:Qv l){p:Nat}{T:TypeId}(hp:H[p]?=some (.cells l.row T))(hc:b4 H0 H)(k:List Fra):∀ (n i:Nat),i+n=(l.entries.l).length →
  M.go bz H0 (.c dk :: .lp ⟨(some [1,3]),[],true⟩ dk H :: .blk 0 :: .c (.lv [])::k) (kv [(1,.ptr p 0),(3,.int .i64 i)]) H =
   orE (bS (qV (w6 l)) i (l.entries.l.drop i)) (H.take H0.length) (M.go bz H0 k .leaf H)
 |0,i,h=>by
  have e:i=(l.entries.l).length:=by omega
  subst e;rw [ag M dk.eq_1];simp (maxSteps:=3000000) (maxDischargeDepth:=6) +contextual -implicitDefEqProofs only [amC M,↓amD,Nat.reduceBEq,Nat.reduceAdd,env,ab,bA,Nat.lt_irrefl,List.drop_length,bH,hp]
 |n+1,i,h=>by
  have hi:i<(l.entries.l).length:=by omega
  have hx:(l.entries.l)[i]?=some (l.entries.l)[i]:=ZC hi;have hd:((l.entries.l).drop i)=(l.entries.l)[i]::(l.entries.l).drop (i+1):=ZD hi;have hm:(l.entries.l)[i]∈(l.entries.l):=ZJ hi;have ih:=re4 (H:=H) (H0:=H0) (hN:=hN) (hR:=hR) (l:=l) (n0:=n0) (hl:=hl) (hn:=hn) (hsh:=hsh) (p:=p) (T:=T) (hp:=hp) hc k n (i+1)  (by omega);simp only [kv_cons,kv_nil] at ih;have hp':=fun L=>bZ (L:=L) hp
  have w1:Wk H.length (.ptr p 0) (.ptr p 0):=wk_ptr (ZB.1 hp).1;have hx0:=hl.entries.all _ hm;have hcf:=fun H=>w7 M hR hl l.entries.l[i].cls H
  rcases oX (fun c:aG=>c.name == l.entries.l[i].cls) l.classes.l 0 with ⟨h1,h2⟩ | ⟨j,c,h1,h2,h3⟩
  ·rw [h1] at hcf
   have hc2:rV l l.entries.l[i].cls=none:=h2;rw [ag M dk.eq_1];simp (maxSteps:=3000000) (maxDischargeDepth:=6) +contextual -implicitDefEqProofs only [amC M,↓amD,Nat.reduceBEq,Nat.reduceAdd,env,ab,bA,amG,AV.cell,Nat.reduceMul,Nat.reduceLeDiff,hx,hd,hi,ih,hp,hp',w1,hcf,VO,bH,dg,aF hi,xy M hN hx0.lem,mM,w6,hc2,qE,hc]
  ·rw [h1,Z4] at hcf
   have hc2:rV l l.entries.l[i].cls=some c:=h3;have hj:j<l.classes.l.length:=(ZB.1 h2).1;have hcm:c∈l.classes.l:=ZG h2;have hco:=hl.classes.all c hcm;have hq:∀ L,(H++(.cells l.entries.l[i].row aU::L))[H.length]?=some (.cells l.entries.l[i].row aU):=fun L=>by rw [cI];rfl
   have h4:=fun k He=>re0 M (H:=H++[.cells l.entries.l[i].row aU]) (H0:=H0) hl (p:=p) (q:=H.length) (T:=T) (T2:=aU) (hp' _) (hq []) (c:=(j:Int)) (L:=l.entries.l.take i) (BJ _ _) (by simp;omega) (tr hc _) k (l.entries.l.take i).length 0 He (by omega)
   simp only [kv_cons,kv_nil,Int.ofNat_zero,List.drop_zero,KA (Nat.le_of_lt hi),B5] at h4;cases hb:(mN l l.entries.l[i].feats.l == 0) with
   |false=>
    rw [ag M dk.eq_1];simp (maxSteps:=3000000) (maxDischargeDepth:=6) +contextual -implicitDefEqProofs only [amC M,↓amD,Nat.reduceBEq,Nat.reduceAdd,env,ab,bA,amG,AV.cell,Nat.reduceMul,Nat.reduceLeDiff,hx,hd,hi,ih,hp,hp',w1,hcf,GA,h4,hb,bH,dg,aF hi,xy M hN hx0.lem,xC M hR hl hx0.feats.len,mM,w6,hc2,qE,LV,hc]
   |true=>
    obtain ⟨hb1,hb2⟩:=bundle_ok (eq_of_beq hb);have h5:=fun k He=>re1 M (H:=H++[.cells l.entries.l[i].row aU]) (H0:=H0) hR (x:=l.entries.l[i]) (p:=p) (q:=H.length) (T2:=aU) (hq []) (i0:=i) (sl:=c.slots) hco.slots.len (fun s hs=>by have:=(hsh c hcm s hs).1;omega) (tr hc _) k c.slots.l.length 0 He (by omega)
    have h6:=fun k=>re3 M (H:=H++[.cells l.entries.l[i].row aU]) (H0:=H0) hN hx0 (by simp;omega) (p:=p) (q:=H.length) (by have:=(List.getElem?_eq_some_iff.1 hp).1;simp;omega) (T2:=aU) (hq []) (i0:=i) (sl:=c.slots) ((hco.slots.mono (show n0≤_ by simp;omega) (fun _ h=>h.mono (show n0≤(H++[AObj.cells l.entries.l[i].row aU]).length by simp;omega))).wk (fun _ h=>h.wk)) (tr hc _) k l.entries.l[i].forms.l.length 0 (by omega)
    have e5:(c.slots.l.any fun s => !(Fj l.entries.l[i].feats.l s.feats.l).isSome)=c.slots.l.any fun s=>oY l.entries.l[i].feats.l s.feats.l:=KB fun s hs=>by rw [ND hb2 (hsh c hcm s hs).2,Bool.not_not]
    simp only [kv_cons,kv_nil,Int.ofNat_zero,List.drop_zero,B5,e5] at h5 h6;rw [ag M dk.eq_1];simp (maxSteps:=3000000) (maxDischargeDepth:=6) +contextual -implicitDefEqProofs only [amC M,↓amD,Nat.reduceBEq,Nat.reduceAdd,env,ab,bA,amG,AV.cell,Nat.reduceMul,Nat.reduceLeDiff,hx,hd,hi,ih,hp,hp',w1,hcf,GA,h4,h5,h6,hb,h2,aF hj,bH,dg,iN,aF hi,aZ hi hl.entries.len,xy M hN hx0.lem,xC M hR hl hx0.feats.len,mM,w6,hc2,qE,D1,hc]
end
section
attribute [local congr] al br aJ ao aH aA aq ah aj aC aD
variable{E:aX}(M:bR bN E)
theorem LY(hN:bu E)(hR:uB E){l:Lex}{n:Nat}(hl:l.ok n)(hsh:Qv l){H:List AObj}(hn:n≤H.length):M.run nn [.agg l.row] H=some (.ret (.int .u8 (tV l)),H):=by
 rw [aN M hR.truchmanref02_entries rfl (c:=nC) rfl,nC];have h1:=fun k=>re4 M hN hR (H:=H++[.cells l.row ae]) hl (by simp;omega) hsh (p:=H.length) (T:=ae) (by rw [cI];rfl) (cut_app H _) k l.entries.l.length 0 (by omega)
 simp only [kv_cons,kv_nil,Int.ofNat_zero,List.drop_zero] at h1;simp (maxSteps:=3000000) (maxDischargeDepth:=6) +contextual -implicitDefEqProofs only [amC M,↓amD,Nat.reduceBEq,Nat.reduceAdd,env,ab,bA,h1,bH,cut_app,sK,qs,tV,lq]
def CH(p:UInt8):Str→Bool
 |[]=>true
 |c::t => !decide ((c.toNat:Int)≤(p.toNat:Int))&&CH c t
def Po:Str→Bool
 |[]=>true
 |c::t=>CH c t
def geV(v:Str):Nat→UInt8→Option AV
 |0,_=>none
 |i+1,c=>match v[i]? with
  |some d=>sel (decide ((c.toNat:Int)≤(d.toNat:Int))) (some (.int .u8 1)) none
  |none=>none
theorem NG{v:Str}{i:Nat}{d:UInt8}(h:v[i]?=some d)(c:UInt8):geV v (i+1) c=sel (decide ((c.toNat:Int)≤(d.toNat:Int))) (some (.int .u8 1)) none:=by simp only [geV,h]
theorem KC{α:Type}{b l:List α}{i:Nat}{x:α}(hd:b.drop (i+1)=x::l):b[i+1]?=some x∧b.drop (i+1+1)=l:=by
 constructor
 ·have:=Z0 (xs:=b) (i:=i+1) (j:=0)
  rw [hd] at this;simpa using this.symm
 ·have:(b.drop (i+1)).drop 1=l:=by rw [hd];rfl
  rwa [Z8] at this
theorem KD(v:Str):∀ (t:Str) (i:Nat) (p:UInt8),v[i]?=some p→v.drop (i+1)=t→bS (geV v) (i+1) t=sel (CH p t) none (some (.int .u8 1))
 |[],_,_,_,_=>rfl
 |c::t,i,p,h,hd=>by
  obtain ⟨h2,hd2⟩:=KC hd;rw [lj,NG h,KD v t (i+1) c h2 hd2,CH];cases decide ((c.toNat:Int)≤(p.toNat:Int))<;>cases CH c t<;>rfl
theorem Pp(v:Str)(H:List AObj)(x:Option Out):orE (bS (geV v) 1 (v.drop 1)) H x=sel (Po v) x (some (.ret (.int .u8 1),H)):=by
 cases v with
 |nil=>rfl
 |cons c t=>
  rw [show List.drop 1 (c::t)=t from rfl,KD (c::t) t 0 c rfl rfl,Po];cases CH c t<;>rfl
theorem NH(v:Str):∀ (t:Str) (i:Nat) (p:UInt8),v[i]?=some p→v.drop (i+1)=t→sJ (fun i c=>sel (RE v i c) 1 0) (i+1) t=sel (t.all eW&&CH p t) 0 1
 |[],_,_,_,_=>rfl
 |c::t,i,p,h,hd=>by
  obtain ⟨h2,hd2⟩:=KC hd;rw [sJ,NH v t (i+1) c h2 hd2,Kx h,List.all_cons,CH];cases eW c<;>cases decide ((c.toNat:Int)≤(p.toNat:Int))<;>cases t.all eW<;>cases CH c t<;>rfl
theorem Qw(l:Lex):RF l=sel (ofF [] l.vowels) (sel (Po l.vowels) 0 1) 1:=by
 rw [RF,GP];cases hv:l.vowels with
 |nil=>rfl
 |cons c t=>
  rw [sJ,NH (c::t) t 0 c rfl rfl,Kw,List.all_cons,Po];cases eW c<;>cases t.all eW<;>cases CH c t<;>rfl
theorem YS{H H0:List AObj}{l:Lex}{n0:Nat}(hl:l.ok n0){p:Nat}{T:TypeId}(hp:H[p]?=some (.cells l.row T))(hc:b4 H0 H)(k:List Fra):∀ (n i:Nat) (h1:1≤i) (He:List AObj),(l.vowels).length-i=n →
  M.go c9 H0 (.c ij :: .lp ⟨(some [1,3]),[],false⟩ ij He :: .blk 0 :: .c (.lv [1])::k) (kv [(1,.ptr p 0),(3,.int .i64 i)]) H =
   orE (bS (geV l.vowels) i (l.vowels.drop i)) (H.take H0.length) (M.go c9 H0 k (kv [(1,.ptr p 0)]) H)
 |0,i,h1,He,h=>by
  have e:¬ i<(l.vowels).length:=by omega
  have e2:(l.vowels).drop i=[]:=aaa (by omega);rw [ag M ij.eq_1];simp (maxSteps:=3000000) (maxDischargeDepth:=6) +contextual -implicitDefEqProofs only [amC M,↓amD,Nat.reduceBEq,Nat.reduceAdd,env,ab,dD,e,e2,bH,hp]
 |n+1,i,h1,He,h=>by
  have hi:i<(l.vowels).length:=by omega
  have hx:(l.vowels)[i]?=some (l.vowels)[i]:=ZC hi;have hd:((l.vowels).drop i)=(l.vowels)[i]::(l.vowels).drop (i+1):=ZD hi;have hm:(l.vowels)[i]∈(l.vowels):=ZJ hi;have ih:=fun h1 He=>YS (H:=H) (H0:=H0) (l:=l) (n0:=n0) (hl:=hl) (p:=p) (T:=T) (hp:=hp) hc k n (i+1) h1 He (by omega)
  simp only [kv_cons,kv_nil] at ih;have ih:=ih (by omega);cases i with
  |zero=>omega
  |succ i=>
   have hx1:l.vowels[i]?=some l.vowels[i]:=ZC (by omega);have hlv:=hl.vowels;rw [ag M ij.eq_1];simp (maxSteps:=3000000) (maxDischargeDepth:=6) +contextual -implicitDefEqProofs only [amC M,↓amD,Nat.reduceBEq,Nat.reduceAdd,env,ab,dD,hx,hd,hi,ih,hp,bH,hx1,EB (show i+1≤aQ by omega),aZ hi hlv,NG hx1,hc]
theorem TI(s:Str):ofF [43] s=s.all ml:=by
 unfold ofF;congr 1;funext c;simp only [List.any_cons,List.any_nil,Bool.or_false,ml];congr 1;rw [Bool.eq_iff_iff];simp;omega
theorem TJ(s:Str):ofF [43,35,86,67] s=s.all FQ:=by
 unfold ofF;congr 1;funext c;simp only [List.any_cons,List.any_nil,Bool.or_false,FQ,ml,Bool.or_assoc];congr 1;rw [Bool.eq_iff_iff];simp;omega
theorem B6(p:UInt8→Bool)(s:Str):qW p s=(!decide ((6:Int)<(s.length:Int))&&s.all p):=by
 unfold qW;congr 1;rw [Bool.eq_iff_iff];simp
theorem NI(x:aV):tU x=sel (x.frm == []||(!ofF [43] x.frm||(!ofF [43] x.to||(!ofF [43,35,86,67] x.left || !ofF [43,35,86,67] x.right)))) 1
  (sel (decide ((6:Int)<(x.frm.length:Int))||(decide ((6:Int)<(x.to.length:Int))||(decide ((6:Int)<(x.left.length:Int))||decide ((6:Int)<(x.right.length:Int))))) 1 0):=by
 rw [tU,TI,TI,TJ,TJ,B6,B6,B6,B6];cases x.frm == []<;>cases x.frm.all ml<;>cases x.to.all ml<;>cases x.left.all FQ<;>cases x.right.all FQ<;>cases decide ((6:Int)<(x.frm.length:Int))<;>cases decide ((6:Int)<(x.to.length:Int))<;>cases decide ((6:Int)<(x.left.length:Int))<;>cases decide ((6:Int)<(x.right.length:Int))<;>rfl
theorem YT{H H0:List AObj}(hN:bu E){l:Lex}{n0:Nat}(hl:l.ok n0){p:Nat}{T:TypeId}(hp:H[p]?=some (.cells l.row T))(hc:b4 H0 H)(k:List Fra):∀ (n i:Nat),i+n=(l.spells.l).length →
  M.go c9 H0 (.c ik :: .lp ⟨(some [1,7]),[],true⟩ ik H :: .blk 2 :: .c (.lv [1])::k) (kv [(1,.ptr p 0),(7,.int .i64 i)]) H =
   orE (bS (qV fun _ x=>tU x) i (l.spells.l.drop i)) (H.take H0.length) (M.go c9 H0 k (kv [(1,.ptr p 0)]) H)
 |0,i,h=>by
  have e:i=(l.spells.l).length:=by omega
  subst e;rw [ag M ik.eq_1];simp (maxSteps:=3000000) (maxDischargeDepth:=6) +contextual -implicitDefEqProofs only [amC M,↓amD,Nat.reduceBEq,Nat.reduceAdd,env,ab,dD,Nat.lt_irrefl,List.drop_length,bH,hp]
 |n+1,i,h=>by
  have hi:i<(l.spells.l).length:=by omega
  have hx:(l.spells.l)[i]?=some (l.spells.l)[i]:=ZC hi;have hd:((l.spells.l).drop i)=(l.spells.l)[i]::(l.spells.l).drop (i+1):=ZD hi;have hm:(l.spells.l)[i]∈(l.spells.l):=ZJ hi;have ih:=YT (H:=H) (H0:=H0) (hN:=hN) (l:=l) (n0:=n0) (hl:=hl) (p:=p) (T:=T) (hp:=hp) hc k n (i+1)  (by omega);simp only [kv_cons,kv_nil] at ih;have hp':=fun L=>bZ (L:=L) hp
  have w1:Wk H.length (.ptr p 0) (.ptr p 0):=wk_ptr (ZB.1 hp).1;have hx0:=hl.spells.all _ hm;have e1:=NI l.spells.l[i];rw [ag M ik.eq_1];simp (maxSteps:=3000000) (maxDischargeDepth:=6) +contextual -implicitDefEqProofs only [amC M,↓amD,Nat.reduceBEq,Nat.reduceAdd,env,ab,dD,hx,hd,hi,ih,amG,AV.cell,hp,hp',w1,aZ hi hl.spells.len,aF hi,bH,nk,Ab M hN hx0.frm (more:=[43]) (by simp [aQ]),Ab M hN hx0.to (more:=[43]) (by simp [aQ]),Ab M hN hx0.left (more:=[43,35,86,67]) (by simp [aQ]),Ab M hN hx0.right (more:=[43,35,86,67]) (by simp [aQ]),mM,e1,Bool.or_assoc,qE,hc]
theorem VV(l:Lex)(x:bF):BG l x=sel (decide (v8 (fun t=>t.name == x.cls) 0 l.classes.l<0)) 5 (sel (!ofF [] x.glue||decide ((6:Int)<(x.glue.length:Int))) 1 (mN l x.feats.l)):=by
 rw [← Fi];unfold BG rV;rcases oX (fun t:aG=>t.name == x.cls) l.classes.l 0 with ⟨h1,h2⟩ | ⟨j,c,h1,h2,h3⟩
 ·rw [h1,h2];rfl
 ·rw [h1,h3,GA];rfl
theorem YU{H H0:List AObj}(hN:bu E)(hR:uB E){l:Lex}{n0:Nat}(hl:l.ok n0){p:Nat}{T:TypeId}(hp:H[p]?=some (.cells l.row T))(hc:b4 H0 H)(k:List Fra):∀ (n i:Nat),i+n=(l.links.l).length →
  M.go c9 H0 (.c il :: .lp ⟨(some [1,9]),[],true⟩ il H :: .blk 4 :: .c (.lv [])::k) (kv [(1,.ptr p 0),(9,.int .i64 i)]) H =
   orE (bS (qV fun _ x=>BG l x) i (l.links.l.drop i)) (H.take H0.length) (M.go c9 H0 k .leaf H)
 |0,i,h=>by
  have e:i=(l.links.l).length:=by omega
  subst e;rw [ag M il.eq_1];simp (maxSteps:=3000000) (maxDischargeDepth:=6) +contextual -implicitDefEqProofs only [amC M,↓amD,Nat.reduceBEq,Nat.reduceAdd,env,ab,dD,Nat.lt_irrefl,List.drop_length,bH,hp]
 |n+1,i,h=>by
  have hi:i<(l.links.l).length:=by omega
  have hx:(l.links.l)[i]?=some (l.links.l)[i]:=ZC hi;have hd:((l.links.l).drop i)=(l.links.l)[i]::(l.links.l).drop (i+1):=ZD hi;have hm:(l.links.l)[i]∈(l.links.l):=ZJ hi;have ih:=YU (H:=H) (H0:=H0) (hN:=hN) (hR:=hR) (l:=l) (n0:=n0) (hl:=hl) (p:=p) (T:=T) (hp:=hp) hc k n (i+1)  (by omega);simp only [kv_cons,kv_nil] at ih;have hp':=fun L=>bZ (L:=L) hp
  have w1:Wk H.length (.ptr p 0) (.ptr p 0):=wk_ptr (ZB.1 hp).1;have hx0:=hl.links.all _ hm;have e1:=VV l l.links.l[i];rw [ag M il.eq_1];simp (maxSteps:=3000000) (maxDischargeDepth:=6) +contextual -implicitDefEqProofs only [amC M,↓amD,Nat.reduceBEq,Nat.reduceAdd,env,ab,dD,hx,hd,hi,ih,amG,AV.cell,hp,hp',w1,aZ hi hl.links.len,aF hi,bH,Nb,w7 M hR hl,Ab M hN hx0.glue (more:=[]) (by simp),xC M hR hl hx0.feats.len,mM,e1,qE,LV,hc]
end
section
attribute [local congr] al br aJ ao aH aA aq ah aj aC aD
variable{E:aX}(M:bR bN E)
theorem WW(e:Int)(i:Nat)(l:List Int):sJ (fun _ e=>e) i (e::l)=sel (!(e == 0)) e (sJ (fun _ e=>e) (i+1) l):=rfl
theorem WX(i:Nat):sJ (fun _ (e:Int)=>e) i []=0:=rfl
theorem Pq(hN:bu E)(hR:uB E){l:Lex}{n:Nat}(hl:l.ok n){H:List AObj}(hn:n≤H.length):M.run pA [.agg l.row] H=some (.ret (.int .u8 (c7 l)),H):=by
 rw [aN M hR.truchmanref02_Check rfl (c:=pI) rfl,pI];have hp:(H++[AObj.cells l.row ae])[H.length]?=some (.cells l.row ae):=by rw [cI];rfl
 have h0:=fun k He=>YS M hl hp (cut_app H _) k (l.vowels.length-1) 1 (by omega) He rfl
 have h1:=fun k=>YT M hN hl hp (cut_app H _) k l.spells.l.length 0 (by omega)
 have h2:=fun k=>YU M hN hR hl hp (cut_app H _) k l.links.l.length 0 (by omega)
 simp only [kv_cons,kv_nil,Int.ofNat_zero,(show ((1:Nat):Int)=1 from rfl),List.drop_zero,Pp] at h0 h1 h2;have ho:=Ab M hN hl.vowels (more:=[]) (by simp)
 have e1:sJ (fun _ e=>e) 0 [RF l,sL l,rE l,tV l,vF l,vG l]=sel (ofF [] l.vowels) (sel (Po l.vowels) (sel (!(sL l == 0)) (sL l) (sel (!(rE l == 0)) (rE l) (sel (!(tV l == 0)) (tV l) (sel (!(vF l == 0)) (vF l) (vG l))))) 1) 1:=by
  simp only [WW,WX,Qw];cases ofF [] l.vowels with
  |false=>rfl
  |true=>
   cases Po l.vowels with
   |false=>rfl
   |true=>
    simp only [sel];cases h5:vG l == 0 with
    |false=>rfl
    |true=>rw [eq_of_beq h5];rfl
 rw [c7,e1];cases hb:rE l == 0 with
 |false=>
  simp (maxSteps:=3000000) (maxDischargeDepth:=6) +contextual -implicitDefEqProofs only [amC M,↓amD,Nat.reduceBEq,Nat.reduceAdd,env,ab,dD,h0,bH,ho,FR M hN hR hl,D2 M hN hR hl,hb]
 |true=>
  have hsh:=NF (eq_of_beq hb);have e4:vF l=sel (decide ((16:Int)<(l.spells.l.length:Int))) 3 (sJ (fun _ x=>tU x) 0 l.spells.l):=rfl;have e5:vG l=sel (decide ((8:Int)<(l.links.l.length:Int))) 3 (sJ (fun _ x=>BG l x) 0 l.links.l):=rfl
  have h1':∀ (x:Option Out),orE (bS (qV fun _ x=>tU x) 0 l.spells.l) H x=sel (sJ (fun _ x=>tU x) 0 l.spells.l == 0) x (some (.ret (.int .u8 (sJ (fun _ x=>tU x) 0 l.spells.l)),H)):=fun x=>by
   rw [← D1,LV]
  simp (maxSteps:=3000000) (maxDischargeDepth:=6) +contextual -implicitDefEqProofs only [amC M,↓amD,Nat.reduceBEq,Nat.reduceAdd,env,ab,dD,h0,h1,h2,h1',bH,ho,FR M hN hR hl,D2 M hN hR hl,LY M hN hR hl hsh,hn,hb,sK];rw [e4,e5];cases decide ((16:Int)<(l.spells.l.length:Int))<;>cases decide ((8:Int)<(l.links.l.length:Int))<;>simp only [sel,slc]<;>rfl
end
section
attribute [local congr] al br aJ ao aH aA aq ah aj aC aD
variable{E:aX}(M:bR bN E)
abbrev w64(n:Int):Int:=IntKind.i64.wrap n
theorem NJ{H L:List AObj}{k k':IntKind}{a b:Int}{T T':TypeId}(L2:List AObj):b4 (H++(.cells [.int k a] T::L)) (H++(.cells [.int k' b] T'::(L++L2))):=
 ⟨by simp,fun i x hi hx=>by
  rcases Nat.lt_trichotomy i H.length with h | h | h
  ·left;rw [ZE h] at hx ⊢;exact hx
  ·subst h;rw [cI] at hx;right
   obtain rfl:_=x:=by simpa using hx
   intro c hc;simp only [List.mem_singleton] at hc;subst hc;exact wk_int _ _ _
  ·left
   obtain ⟨j,rfl⟩:∃ j,i=H.length+(j+1):=⟨i-H.length-1,by omega⟩
   rw [hp_getk] at hx ⊢;simp only [List.getElem?_cons_succ] at hx ⊢
   have:j<L.length:=by simp at hi;omega
   rwa [ZE this] at hx⟩
theorem Fk{H:List AObj}{k k':IntKind}{a b:Int}{T T':TypeId}(L2:List AObj):b4 (H++[.cells [.int k a] T]) (H++(.cells [.int k' b] T'::L2)):=NJ (L:=[]) L2
theorem RP{H L:List AObj}{k k':IntKind}{a b:Int}{T T':TypeId}:b4 (H++(.cells [.int k a] T::L)) (H++(.cells [.int k' b] T'::L)):=by
 have:=NJ (H:=H) (L:=L) (k:=k) (k':=k') (a:=a) (b:=b) (T:=T) (T':=T') [];rwa [Z6] at this
theorem XO(H L:List AObj)(y:AObj):(H++(y::L)).take (H.length+(L.length+1))=H++(y::L):=List.take_of_length_le (by simp)
theorem Pr(H L:List AObj)(y:AObj):(H++(y::L)).take (H.length+1)=H++[y]:=by
 rw [List.take_append];simp;exact List.take_of_length_le (by omega)
def TK(m:Int)(f:aI):Int:=w64 (m+w64 (w64 (1+(f.name.length:Int))+(f.value.length:Int)))
def II(m:Int)(b:List aI):Int:=w64 ((b.take 100).foldl TK m+(b.length:Int))
theorem LZ{n m:Nat}(h:m=min 100 n):(decide (m<n)&&decide ((m:Int)<100))=false:=by
 rw [Bool.eq_false_iff];simp;omega
theorem Ps{i m n:Nat}(h:m=min 100 n)(hi:i<m):decide ((i:Int)<100)=true:=decide_eq_true (by omega)
theorem gr1{H H0:List AObj}{L:List AObj}{T:TypeId}{b Lf:List aI}(hM:Lf.length=min 100 b.length)(hL:∀ k,k<Lf.length→b[k]?=Lf[k]?){tg:Tag}(k:List Fra):∀ (n i:Nat) (m:Int) (He:List AObj),i+n=Lf.length →
  M.go eS H0 (.c fH :: .lp ⟨(some [0,1,3]),[],false⟩ fH He :: .blk 0 :: .c (.lv [0,1])::k) (kv [(0,.slice tg 2 (b.map aI.row)),(1,.ptr H.length 0),(3,.int .i64 i)]) (H++(.cells [.int .i64 m] T::L)) =
   (M.go eS H0 k (kv [(0,.slice tg 2 (b.map aI.row)),(1,.ptr H.length 0)]) (H++(.cells [.int .i64 ((Lf.drop i).foldl TK m)] T::L)))
 |0,i,m,He,h=>by
  have e:i=Lf.length:=by omega
  subst e;rw [ag M fH.eq_1];simp (maxSteps:=3000000) (maxDischargeDepth:=6) +contextual -implicitDefEqProofs only [amC M,↓amD,Nat.reduceBEq,Nat.reduceAdd,env,ab,nA,Nat.lt_irrefl,List.drop_length,LZ hM,List.foldl_nil]
 |n+1,i,m,He,h=>by
  have hi:i<Lf.length:=by omega
  have hx:Lf[i]?=some Lf[i]:=ZC hi;have hd:(Lf.drop i)=Lf[i]::Lf.drop (i+1):=ZD hi;have hm:Lf[i]∈Lf:=ZJ hi;have ih:=fun m He=>gr1 (H:=H) (H0:=H0) (L:=L) (T:=T) (b:=b) (Lf:=Lf) (hM:=hM) (hL:=hL) (tg:=tg) k n (i+1) m He (by omega)
  simp only [kv_cons,kv_nil] at ih;have hib:i<b.length:=by omega
  have hxb:=(hL i hi).trans hx;rw [ag M fH.eq_1];simp (maxSteps:=3000000) (maxDischargeDepth:=6) +contextual -implicitDefEqProofs only [amC M,↓amD,Nat.reduceBEq,Nat.reduceAdd,env,ab,nA,hx,hd,hi,ih,amG,AV.cell,hib,hxb,Ps hM hi,aF hib,sO,aZ (n:=100) (show i<100 by omega) (by simp [aQ]),List.foldl_cons,TK]
theorem C8(hg:E.fn gV=some eS){b:List aI}{tg:Tag}(H L:List AObj)(m:Int)(T:TypeId) :
  M.run gV [.slice tg 2 (b.map aI.row),.ptr H.length 0] (H++(.cells [.int .i64 m] T::L))=some (.ret (.tuple []),H++(.cells [.int .i64 (II m b)] T::L)):=by
 rw [aN M hg rfl (c:=nz) rfl,nz];have h1:=fun k He=>gr1 M (H:=H) (H0:=H++(.cells [.int .i64 m] T::L)) (L:=L) (T:=T) (b:=b) (Lf:=b.take 100) (by simp) (BJ b 100) (tg:=tg) k (b.take 100).length 0 m He (by omega)
 simp only [kv_cons,kv_nil,Int.ofNat_zero,List.drop_zero] at h1;simp (maxSteps:=3000000) (maxDischargeDepth:=6) +contextual -implicitDefEqProofs only [amC M,↓amD,Nat.reduceBEq,Nat.reduceAdd,env,ab,nA,amG,AV.cell,Nat.reduceMul,Nat.reduceLeDiff,h1,RP,XO,wk_tuple,II,lr_row1,List.set_cons_zero]
end
section
attribute [local congr] al br aJ ao aH aA aq ah aj aC aD
variable{E:aX}(M:bR bN E)
structure C9 (E:aX):Prop where
 truchmanlaw02_Great_1:E.fn gV=some eS
 truchmanlaw02_Great:E.fn pz=some aT
abbrev tW(m:Int):AObj:=.cells [.int .i64 m] uR
abbrev yb(n:Nat):AV:=.fn (.func gV) [] [.ptr n 0]
def XP(m:Int)(s:Str):Int:=w64 (m+w64 (1+(s.length:Int)))
def Pt(m:Int)(t:aK):Int:=w64 ((t.values.l.take 100).foldl XP (w64 (m+w64 (1+(t.name.length:Int))))+(t.values.l.length:Int))
theorem gl0{H H0:List AObj}{l:Lex}{p:Nat}{T:TypeId}(hp:H[p]?=some (.cells l.row T)){i0:Nat}{t:aK}(ht:l.traits.l[i0]?=some t){Lf:List Str}(hM:Lf.length=min 100 t.values.l.length)(hL:∀ k,k<Lf.length→t.values.l[k]?=Lf[k]?)(k:List Fra):∀ (n i:Nat) (m:Int) (He:List AObj),i+n=Lf.length →
  M.go aT H0 (.c gY :: .lp ⟨(some [1,3,4,5,6]),[],false⟩ gY He :: .blk 2 :: .c (.lv [1,3,4,5])::k) (kv [(1,.ptr p 0),(3,.ptr H.length 0),(4,yb H.length),(5,.int .i64 i0),(6,.int .i64 i)]) (H++[tW m]) =
   (M.go aT H0 k (kv [(1,.ptr p 0),(3,.ptr H.length 0),(4,yb H.length),(5,.int .i64 i0)]) (H++[tW ((Lf.drop i).foldl XP m)]))
 |0,i,m,He,h=>by
  have e:i=Lf.length:=by omega
  subst e;rw [ag M gY.eq_1];simp (maxSteps:=3000000) (maxDischargeDepth:=6) +contextual -implicitDefEqProofs only [amC M,↓amD,Nat.reduceBEq,Nat.reduceAdd,env,ab,bc,Nat.lt_irrefl,List.drop_length,LZ hM,List.foldl_nil,bZ hp,bH,aF (List.getElem?_eq_some_iff.1 ht).1,ht,qB]
 |n+1,i,m,He,h=>by
  have hi:i<Lf.length:=by omega
  have hx:Lf[i]?=some Lf[i]:=ZC hi;have hd:(Lf.drop i)=Lf[i]::Lf.drop (i+1):=ZD hi;have hm:Lf[i]∈Lf:=ZJ hi;have ih:=fun m He=>gl0 (H:=H) (H0:=H0) (l:=l) (p:=p) (T:=T) (hp:=hp) (i0:=i0) (t:=t) (ht:=ht) (Lf:=Lf) (hM:=hM) (hL:=hL) k n (i+1) m He (by omega)
  simp only [kv_cons,kv_nil] at ih;have hib:i<t.values.l.length:=by omega
  have hxb:=(hL i hi).trans hx;rw [ag M gY.eq_1];simp (maxSteps:=3000000) (maxDischargeDepth:=6) +contextual -implicitDefEqProofs only [amC M,↓amD,Nat.reduceBEq,Nat.reduceAdd,env,ab,bc,hx,hd,hi,ih,amG,AV.cell,Nat.reduceMul,Nat.reduceLeDiff,bZ hp,bH,aF (List.getElem?_eq_some_iff.1 ht).1,ht,qB,Ju,hib,hxb,Ps hM hi,aF hib,aZ (n:=100) (show i<100 by omega) (by simp [aQ]),List.foldl_cons,XP]
theorem gl1{H H0:List AObj}{l:Lex}{n0:Nat}(hl:l.ok n0){p:Nat}{T:TypeId}(hp:H[p]?=some (.cells l.row T))(k:List Fra):∀ (n i:Nat) (m:Int) (He:List AObj),i+n=(l.traits.l).length →
  M.go aT H0 (.c gZ :: .lp ⟨(some [1,3,4,5]),[],false⟩ gZ He :: .blk 0 :: .c (.lv [1,3,4])::k) (kv [(1,.ptr p 0),(3,.ptr H.length 0),(4,yb H.length),(5,.int .i64 i)]) (H++[tW m]) =
   (M.go aT H0 k (kv [(1,.ptr p 0),(3,.ptr H.length 0),(4,yb H.length)]) (H++[tW ((l.traits.l.drop i).foldl Pt m)]))
 |0,i,m,He,h=>by
  have e:i=(l.traits.l).length:=by omega
  subst e;rw [ag M gZ.eq_1];simp (maxSteps:=3000000) (maxDischargeDepth:=6) +contextual -implicitDefEqProofs only [amC M,↓amD,Nat.reduceBEq,Nat.reduceAdd,env,ab,bc,Nat.lt_irrefl,List.drop_length,List.foldl_nil,bZ hp,bH]
 |n+1,i,m,He,h=>by
  have hi:i<(l.traits.l).length:=by omega
  have hx:(l.traits.l)[i]?=some (l.traits.l)[i]:=ZC hi;have hd:((l.traits.l).drop i)=(l.traits.l)[i]::(l.traits.l).drop (i+1):=ZD hi;have hm:(l.traits.l)[i]∈(l.traits.l):=ZJ hi;have ih:=fun m He=>gl1 (H:=H) (H0:=H0) (l:=l) (n0:=n0) (hl:=hl) (p:=p) (T:=T) (hp:=hp) k n (i+1) m He (by omega)
  simp only [kv_cons,kv_nil] at ih;have h0:=fun m k He=>gl0 M (H0:=H0) hp (i0:=i) hx (Lf:=l.traits.l[i].values.l.take 100) (by simp) (BJ _ 100) k (l.traits.l[i].values.l.take 100).length 0 m He (by omega)
  simp only [kv_cons,kv_nil,Int.ofNat_zero,List.drop_zero] at h0;rw [ag M gZ.eq_1];simp (maxSteps:=3000000) (maxDischargeDepth:=6) +contextual -implicitDefEqProofs only [amC M,↓amD,Nat.reduceBEq,Nat.reduceAdd,env,ab,bc,hx,hd,hi,ih,amG,AV.cell,Nat.reduceMul,Nat.reduceLeDiff,bZ hp,bH,aF hi,qB,h0,aZ hi hl.traits.len,List.foldl_cons,Pt]
def TL(m:Int)(s:aL):Int:=II (w64 (m+w64 (w64 (1+(s.pre.length:Int))+(s.add.length:Int)))) s.feats.l
def TM(c:aG):Bool:=decide ((12:Int)<(c.slots.l.length:Int))&&decide ((c.slots.l.length:Int)≤24)||decide ((60:Int)<(c.slots.l.length:Int))
def Pu(m:Int)(c:aG):Int:=c.slots.l.foldl TL (w64 (m+w64 (1+(c.name.length:Int))))
theorem gl2{H H0:List AObj}(hg:C9 E){l:Lex}{n0:Nat}(hl:l.ok n0){p:Nat}{T:TypeId}(hp:H[p]?=some (.cells l.row T)){i0:Nat}{c:aG}(hci:l.classes.l[i0]?=some c)(k:List Fra):∀ (n i:Nat) (m:Int),i+n=(c.slots.l).length →
  M.go aT H0 (.c hP :: .lp ⟨(some [1,3,4,7,8]),[],true⟩ hP (H++[tW m]) :: .blk 6 :: .c (.lv [1,3,4,7])::k) (kv [(1,.ptr p 0),(3,.ptr H.length 0),(4,yb H.length),(7,.int .i64 i0),(8,.int .i64 i)]) (H++[tW m]) =
   (M.go aT H0 k (kv [(1,.ptr p 0),(3,.ptr H.length 0),(4,yb H.length),(7,.int .i64 i0)]) (H++[tW ((c.slots.l.drop i).foldl TL m)]))
 |0,i,m,h=>by
  have e:i=(c.slots.l).length:=by omega
  subst e;rw [ag M hP.eq_1];simp (maxSteps:=3000000) (maxDischargeDepth:=6) +contextual -implicitDefEqProofs only [amC M,↓amD,Nat.reduceBEq,Nat.reduceAdd,env,ab,bc,Nat.lt_irrefl,List.drop_length,List.foldl_nil,bZ hp,bH,aF (List.getElem?_eq_some_iff.1 hci).1,hci,iN]
 |n+1,i,m,h=>by
  have hi:i<(c.slots.l).length:=by omega
  have hx:(c.slots.l)[i]?=some (c.slots.l)[i]:=ZC hi;have hd:((c.slots.l).drop i)=(c.slots.l)[i]::(c.slots.l).drop (i+1):=ZD hi;have hm:(c.slots.l)[i]∈(c.slots.l):=ZJ hi;have ih:=fun m=>gl2 (H:=H) (H0:=H0) (hg:=hg) (l:=l) (n0:=n0) (hl:=hl) (p:=p) (T:=T) (hp:=hp) (i0:=i0) (c:=c) (hci:=hci) k n (i+1) m (by omega)
  simp only [kv_cons,kv_nil] at ih;have hco:=hl.classes.all c (ZG hci);have hpl:=(ZB.1 hp).1;have w1:Wk (H.length+1) (.ptr p 0) (.ptr p 0):=wk_ptr (by omega);have w2:Wk (H.length+1) (.ptr H.length 0) (.ptr H.length 0):=wk_ptr (by omega);have w3:Wk (H.length+1) (yb H.length) (yb H.length):=wk_fn trivial ⟨wk_ptr (by omega),trivial⟩;rw [ag M hP.eq_1];simp (maxSteps:=3000000) (maxDischargeDepth:=6) +contextual -implicitDefEqProofs only [amC M,↓amD,Nat.reduceBEq,Nat.reduceAdd,env,ab,bc,hx,hd,hi,ih,amG,AV.cell,Nat.reduceMul,Nat.reduceLeDiff,bZ hp,w1,w2,w3,Fk,Pr,bH,aF (List.getElem?_eq_some_iff.1 hci).1,hci,iN,aF hi,mY,C8 M hg.truchmanlaw02_Great_1,aZ hi hco.slots.len,List.foldl_cons,TL]
theorem gl3{H H0:List AObj}(hg:C9 E){l:Lex}{n0:Nat}(hl:l.ok n0){p:Nat}{T:TypeId}(hp:H[p]?=some (.cells l.row T))(hc:b4 H0 H)(k:List Fra):∀ (n i:Nat) (m:Int),i+n=(l.classes.l).length →
  M.go aT H0 (.c hT :: .lp ⟨(some [1,3,4,7]),[],true⟩ hT (H++[tW m]) :: .blk 4 :: .c (.lv [1,3,4])::k) (kv [(1,.ptr p 0),(3,.ptr H.length 0),(4,yb H.length),(7,.int .i64 i)]) (H++[tW m]) =
   sel ((l.classes.l.drop i).any TM) (some (.ret (.bool true),H.take H0.length)) (M.go aT H0 k (kv [(1,.ptr p 0),(3,.ptr H.length 0),(4,yb H.length)]) (H++[tW ((l.classes.l.drop i).foldl Pu m)]))
 |0,i,m,h=>by
  have e:i=(l.classes.l).length:=by omega
  subst e;rw [ag M hT.eq_1];simp (maxSteps:=3000000) (maxDischargeDepth:=6) +contextual -implicitDefEqProofs only [amC M,↓amD,Nat.reduceBEq,Nat.reduceAdd,env,ab,bc,Nat.lt_irrefl,List.drop_length,List.foldl_nil,List.any_nil,bZ hp,bH]
 |n+1,i,m,h=>by
  have hi:i<(l.classes.l).length:=by omega
  have hx:(l.classes.l)[i]?=some (l.classes.l)[i]:=ZC hi;have hd:((l.classes.l).drop i)=(l.classes.l)[i]::(l.classes.l).drop (i+1):=ZD hi;have hm:(l.classes.l)[i]∈(l.classes.l):=ZJ hi;have ih:=fun m=>gl3 (H:=H) (H0:=H0) (hg:=hg) (l:=l) (n0:=n0) (hl:=hl) (p:=p) (T:=T) (hp:=hp) hc k n (i+1) m (by omega)
  simp only [kv_cons,kv_nil] at ih;have hco:=hl.classes.all _ hm;have hpl:=(ZB.1 hp).1;have w1:Wk (H.length+1) (.ptr p 0) (.ptr p 0):=wk_ptr (by omega);have w2:Wk (H.length+1) (.ptr H.length 0) (.ptr H.length 0):=wk_ptr (by omega);have w3:Wk (H.length+1) (yb H.length) (yb H.length):=wk_fn trivial ⟨wk_ptr (by omega),trivial⟩;have h0:=fun m k=>gl2 M (H0:=H0) hg hl hp (i0:=i) hx k l.classes.l[i].slots.l.length 0 m (by omega)
  simp only [kv_cons,kv_nil,Int.ofNat_zero,List.drop_zero] at h0;rw [ag M hT.eq_1];simp (maxSteps:=3000000) (maxDischargeDepth:=6) +contextual -implicitDefEqProofs only [amC M,↓amD,Nat.reduceBEq,Nat.reduceAdd,env,ab,bc,hx,hd,hi,ih,amG,AV.cell,Nat.reduceMul,Nat.reduceLeDiff,bZ hp,w1,w2,w3,Fk,Pr,bH,aF hi,iN,h0,aZ hi hl.classes.len,List.foldl_cons,List.any_cons,Pu,TM,hc];generalize (decide ((12:Int)<(l.classes.l[i].slots.l.length:Int))&&decide ((l.classes.l[i].slots.l.length:Int)≤24)||decide ((60:Int)<(l.classes.l[i].slots.l.length:Int)))=b
  cases b<;>simp only [slc,Bool.true_or,Bool.false_or]
end
section
attribute [local congr] al br aJ ao aH aA aq ah aj aC aD
variable{E:aX}(M:bR bN E)
def irN(m:Int)(f:bo):Int:=w64 (m+(f.word.length:Int))
def Pv(m:Int)(x:ak):Int:=(x.forms.l.take 100).foldl irN (II (w64 (m+w64 (w64 (w64 (1+(x.lem.length:Int))+(x.cls.length:Int))+(x.forms.l.length:Int)))) x.feats.l)
theorem gl4{H H0:List AObj}{x:ak}{T2:TypeId}{p i0:Nat}{Lf:List bo}(hM:Lf.length=min 100 x.forms.l.length)(hL:∀ k,k<Lf.length→x.forms.l[k]?=Lf[k]?)(k:List Fra):∀ (n i:Nat) (m:Int) (He:List AObj),i+n=Lf.length →
  M.go aT H0 (.c hU :: .lp ⟨(some [1,3,4,10,11,12]),[],false⟩ hU He :: .blk 10 :: .c (.lv [1,3,4,10])::k) (kv [(1,.ptr p 0),(3,.ptr H.length 0),(4,yb H.length),(10,.int .i64 i0),(11,.ptr (H.length+1) 0),(12,.int .i64 i)]) (H++[tW m,.cells x.row T2]) =
   (M.go aT H0 k (kv [(1,.ptr p 0),(3,.ptr H.length 0),(4,yb H.length),(10,.int .i64 i0)]) (H++[tW ((Lf.drop i).foldl irN m),.cells x.row T2]))
 |0,i,m,He,h=>by
  have e:i=Lf.length:=by omega
  subst e;rw [ag M hU.eq_1];simp (maxSteps:=3000000) (maxDischargeDepth:=6) +contextual -implicitDefEqProofs only [amC M,↓amD,Nat.reduceBEq,Nat.reduceAdd,env,ab,bc,Nat.lt_irrefl,List.drop_length,LZ hM,List.foldl_nil,dg]
 |n+1,i,m,He,h=>by
  have hi:i<Lf.length:=by omega
  have hx:Lf[i]?=some Lf[i]:=ZC hi;have hd:(Lf.drop i)=Lf[i]::Lf.drop (i+1):=ZD hi;have hm:Lf[i]∈Lf:=ZJ hi;have ih:=fun m He=>gl4 (H:=H) (H0:=H0) (x:=x) (T2:=T2) (p:=p) (i0:=i0) (Lf:=Lf) (hM:=hM) (hL:=hL) k n (i+1) m He (by omega)
  simp only [kv_cons,kv_nil] at ih;have hib:i<x.forms.l.length:=by omega
  have hxb:=(hL i hi).trans hx;rw [ag M hU.eq_1];simp (maxSteps:=3000000) (maxDischargeDepth:=6) +contextual -implicitDefEqProofs only [amC M,↓amD,Nat.reduceBEq,Nat.reduceAdd,env,ab,bc,hx,hd,hi,ih,amG,AV.cell,Nat.reduceMul,Nat.reduceLeDiff,dg,Bn,hib,hxb,Ps hM hi,aF hib,aZ (n:=100) (show i<100 by omega) (by simp [aQ]),List.foldl_cons,irN]
theorem gl5{H H0:List AObj}(hg:C9 E){l:Lex}{n0:Nat}(hl:l.ok n0){p:Nat}{T:TypeId}(hp:H[p]?=some (.cells l.row T))(k:List Fra):∀ (n i:Nat) (m:Int),i+n=(l.entries.l).length →
  M.go aT H0 (.c ib :: .lp ⟨(some [1,3,4,10]),[],true⟩ ib (H++[tW m]) :: .blk 8 :: .c (.lv [1,3,4])::k) (kv [(1,.ptr p 0),(3,.ptr H.length 0),(4,yb H.length),(10,.int .i64 i)]) (H++[tW m]) =
   (M.go aT H0 k (kv [(1,.ptr p 0),(3,.ptr H.length 0),(4,yb H.length)]) (H++[tW ((l.entries.l.drop i).foldl Pv m)]))
 |0,i,m,h=>by
  have e:i=(l.entries.l).length:=by omega
  subst e;rw [ag M ib.eq_1];simp (maxSteps:=3000000) (maxDischargeDepth:=6) +contextual -implicitDefEqProofs only [amC M,↓amD,Nat.reduceBEq,Nat.reduceAdd,env,ab,bc,Nat.lt_irrefl,List.drop_length,List.foldl_nil,bZ hp,bH]
 |n+1,i,m,h=>by
  have hi:i<(l.entries.l).length:=by omega
  have hx:(l.entries.l)[i]?=some (l.entries.l)[i]:=ZC hi;have hd:((l.entries.l).drop i)=(l.entries.l)[i]::(l.entries.l).drop (i+1):=ZD hi;have hm:(l.entries.l)[i]∈(l.entries.l):=ZJ hi;have ih:=fun m=>gl5 (H:=H) (H0:=H0) (hg:=hg) (l:=l) (n0:=n0) (hl:=hl) (p:=p) (T:=T) (hp:=hp) k n (i+1) m (by omega)
  simp only [kv_cons,kv_nil] at ih;have hpl:=(ZB.1 hp).1;have w1:Wk (H.length+1) (.ptr p 0) (.ptr p 0):=wk_ptr (by omega);have w2:Wk (H.length+1) (.ptr H.length 0) (.ptr H.length 0):=wk_ptr (by omega);have w3:Wk (H.length+1) (yb H.length) (yb H.length):=wk_fn trivial ⟨wk_ptr (by omega),trivial⟩;have h0:=fun m k He=>gl4 M (H:=H) (H0:=H0) (x:=l.entries.l[i]) (T2:=aU) (p:=p) (i0:=i) (Lf:=l.entries.l[i].forms.l.take 100) (by simp) (BJ _ 100) k (l.entries.l[i].forms.l.take 100).length 0 m He (by omega)
  simp only [kv_cons,kv_nil,Int.ofNat_zero,List.drop_zero] at h0;rw [ag M ib.eq_1];simp (maxSteps:=3000000) (maxDischargeDepth:=6) +contextual -implicitDefEqProofs only [amC M,↓amD,Nat.reduceBEq,Nat.reduceAdd,env,ab,bc,hx,hd,hi,ih,amG,AV.cell,Nat.reduceMul,Nat.reduceLeDiff,bZ hp,w1,w2,w3,Fk,Pr,bH,aF hi,dg,h0,C8 M hg.truchmanlaw02_Great_1,aZ hi hl.entries.len,List.foldl_cons,Pv]
def Pw(m:Int)(x:aV):Int:=w64 (m+w64 (w64 (w64 ((x.frm.length:Int)+(x.to.length:Int))+(x.left.length:Int))+(x.right.length:Int)))
def TN(m:Int)(x:bF):Int:=II (w64 (m+w64 ((x.cls.length:Int)+(x.glue.length:Int)))) x.feats.l
theorem gl6{H H0:List AObj}{l:Lex}{n0:Nat}(hl:l.ok n0){p:Nat}{T:TypeId}(hp:H[p]?=some (.cells l.row T))(k:List Fra):∀ (n i:Nat) (m:Int) (He:List AObj),i+n=(l.spells.l).length →
  M.go aT H0 (.c ie :: .lp ⟨(some [1,3,4,13]),[],false⟩ ie He :: .blk 12 :: .c (.lv [1,3,4])::k) (kv [(1,.ptr p 0),(3,.ptr H.length 0),(4,yb H.length),(13,.int .i64 i)]) (H++[tW m]) =
   (M.go aT H0 k (kv [(1,.ptr p 0),(3,.ptr H.length 0),(4,yb H.length)]) (H++[tW ((l.spells.l.drop i).foldl Pw m)]))
 |0,i,m,He,h=>by
  have e:i=(l.spells.l).length:=by omega
  subst e;rw [ag M ie.eq_1];simp (maxSteps:=3000000) (maxDischargeDepth:=6) +contextual -implicitDefEqProofs only [amC M,↓amD,Nat.reduceBEq,Nat.reduceAdd,env,ab,bc,Nat.lt_irrefl,List.drop_length,List.foldl_nil,bZ hp,bH]
 |n+1,i,m,He,h=>by
  have hi:i<(l.spells.l).length:=by omega
  have hx:(l.spells.l)[i]?=some (l.spells.l)[i]:=ZC hi;have hd:((l.spells.l).drop i)=(l.spells.l)[i]::(l.spells.l).drop (i+1):=ZD hi;have hm:(l.spells.l)[i]∈(l.spells.l):=ZJ hi;have ih:=fun m He=>gl6 (H:=H) (H0:=H0) (l:=l) (n0:=n0) (hl:=hl) (p:=p) (T:=T) (hp:=hp) k n (i+1) m He (by omega)
  simp only [kv_cons,kv_nil] at ih;rw [ag M ie.eq_1];simp (maxSteps:=3000000) (maxDischargeDepth:=6) +contextual -implicitDefEqProofs only [amC M,↓amD,Nat.reduceBEq,Nat.reduceAdd,env,ab,bc,hx,hd,hi,ih,amG,AV.cell,Nat.reduceMul,Nat.reduceLeDiff,bZ hp,bH,aF hi,nk,aZ hi hl.spells.len,List.foldl_cons,Pw]
theorem gl7{H H0:List AObj}(hg:C9 E){l:Lex}{n0:Nat}(hl:l.ok n0){p:Nat}{T:TypeId}(hp:H[p]?=some (.cells l.row T))(k:List Fra):∀ (n i:Nat) (m:Int) (He:List AObj),i+n=(l.links.l).length →
  M.go aT H0 (.c ig :: .lp ⟨(some [1,3,4,14]),[],false⟩ ig He :: .blk 14 :: .c (.lv [3])::k) (kv [(1,.ptr p 0),(3,.ptr H.length 0),(4,yb H.length),(14,.int .i64 i)]) (H++[tW m]) =
   (M.go aT H0 k (kv [(3,.ptr H.length 0)]) (H++[tW ((l.links.l.drop i).foldl TN m)]))
 |0,i,m,He,h=>by
  have e:i=(l.links.l).length:=by omega
  subst e;rw [ag M ig.eq_1];simp (maxSteps:=3000000) (maxDischargeDepth:=6) +contextual -implicitDefEqProofs only [amC M,↓amD,Nat.reduceBEq,Nat.reduceAdd,env,ab,bc,Nat.lt_irrefl,List.drop_length,List.foldl_nil,bZ hp,bH]
 |n+1,i,m,He,h=>by
  have hi:i<(l.links.l).length:=by omega
  have hx:(l.links.l)[i]?=some (l.links.l)[i]:=ZC hi;have hd:((l.links.l).drop i)=(l.links.l)[i]::(l.links.l).drop (i+1):=ZD hi;have hm:(l.links.l)[i]∈(l.links.l):=ZJ hi;have ih:=fun m He=>gl7 (H:=H) (H0:=H0) (hg:=hg) (l:=l) (n0:=n0) (hl:=hl) (p:=p) (T:=T) (hp:=hp) k n (i+1) m He (by omega)
  simp only [kv_cons,kv_nil] at ih;rw [ag M ig.eq_1];simp (maxSteps:=3000000) (maxDischargeDepth:=6) +contextual -implicitDefEqProofs only [amC M,↓amD,Nat.reduceBEq,Nat.reduceAdd,env,ab,bc,hx,hd,hi,ih,amG,AV.cell,Nat.reduceMul,Nat.reduceLeDiff,bZ hp,bH,aF hi,Nb,C8 M hg.truchmanlaw02_Great_1,aZ hi hl.links.len,List.foldl_cons,TN]
def L0(l:Lex):Bool:=
 decide ((60:Int)<(l.entries.l.length:Int))&&decide ((l.entries.l.length:Int)≤128)||decide ((200:Int)<(l.entries.l.length:Int))||decide ((40:Int)<(l.traits.l.length:Int))||decide ((40:Int)<(l.classes.l.length:Int))||decide ((40:Int)<(l.spells.l.length:Int))||decide ((40:Int)<(l.links.l.length:Int)) ||
  (l.classes.l.any TM||decide (6000<l.links.l.foldl TN (l.spells.l.foldl Pw (l.entries.l.foldl Pv (l.classes.l.foldl Pu (l.traits.l.foldl Pt (l.vowels.length:Int)))))))
theorem wg(hg:C9 E){l:Lex}{n:Nat}(hl:l.ok n)(H:List AObj):M.run pz [.agg l.row] H=some (.ret (.bool (L0 l)),H):=by
 rw [aN M hg.truchmanlaw02_Great rfl (c:=pH) rfl,pH];have hp:(H++[AObj.cells l.row ae])[H.length]?=some (.cells l.row ae):=by rw [cI];rfl
 have h1:=fun m k He=>gl1 M (H0:=H) hl hp k l.traits.l.length 0 m He (by omega)
 have h3:=fun m k=>gl3 M (H0:=H) hg hl hp (cut_app H _) k l.classes.l.length 0 m (by omega)
 have h5:=fun m k=>gl5 M (H0:=H) hg hl hp k l.entries.l.length 0 m (by omega)
 have h6:=fun m k He=>gl6 M (H0:=H) hl hp k l.spells.l.length 0 m He (by omega)
 have h7:=fun m k He=>gl7 M (H0:=H) hg hl hp k l.links.l.length 0 m He (by omega)
 simp only [kv_cons,kv_nil,Int.ofNat_zero,List.drop_zero,lo_app3,LI,lo_app0,lo_len,lo_len1,lo_len0,Nat.zero_add,hp_take] at h1 h3 h5 h6 h7;simp (maxSteps:=3000000) (maxDischargeDepth:=6) +contextual -implicitDefEqProofs only [amC M,↓amD,Nat.reduceBEq,Nat.reduceAdd,env,ab,bc,amG,AV.cell,Nat.reduceMul,Nat.reduceLeDiff,h1,h3,h5,h6,h7,bH,L0,Bool.or_assoc]
end
section
attribute [local congr] al br aJ ao aH aA aq ah aj aC aD
variable{E:aX}(M:bR bN E)
structure sM (M:bR bN E):Prop where
 index:∀ (s:Str) (c:UInt8) (H:List AObj),M.run cZ [.str s,.int .u8 c.toNat] H=some (.ret (.int .i64 (Lib.indexByte s c)),H)
 same:∀ (i o:Nat) (H:List AObj),M.run gW [.ptr i o] H=some (.ret (.ptr i o),H)
structure s6 (E:aX):Prop where
 strings_Builder_WriteString:E.fn aM=some fZ
 strings_Builder_WriteByte:E.fn eD=some iJ
 strings_Builder_String:E.fn cT=some jM
 strings_Builder_Len:E.fn pB=some lW
 strings_Builder_copyCheck:E.fn cu=some iK
abbrev gA(s:Str):List (List AV):=s.map fun b=>[.int .u8 (b.toNat:Int)]
abbrev bTok(w:Str):AObj:=.tok w.length dj
abbrev lK(a:AV)(n:Nat)(w:Str)(T:TypeId):AObj:=.cells [a,.slice (.own n) 1 (gA w)] T
theorem Px(s:Str):nj 1 (gA s)=true:=by simp [nj,gA,AV.cell]
theorem D3:∀ s:Str,r7 (gA s)=some s
 |[]=>rfl
 |c::s=>by
  have:=D3 s;simp only [gA] at this ⊢;simp only [List.map_cons,r7,this,Option.map_some];congr 2;simp
theorem NK:∀ s:Str,B1 (gA s)=true
 |[]=>rfl
 |c::s=>by
  have:=NK s;simp only [gA] at this ⊢;simp only [List.map_cons,B1,this,Bool.and_true,Bool.and_eq_true,decide_eq_true_eq];have:=c.toNat_lt;omega
theorem KE(w s:Str):gA (w++s)=gA w++(gA s).map (·.map AV.strip):=by
 simp only [gA,List.map_append,List.map_map];congr 1
theorem TO(H L:List AObj){w s:Str}(h:w.length+s.length≤140737488355328)(x:AV)(hx:∀ H,uq H 1 true x=some (gA s)) :
  rap false (H++(bTok w::L)) dj 1 1 true (.slice (.own H.length) 1 (gA w)) x=some (.slice (.own H.length) 1 (gA (w++s)),H++(bTok (w++s)::L)):=by
 have h1:(gA w).length=w.length:=by simp [gA]
 have h2:(gA s).length=s.length:=by simp [gA]
 have hc:(w.length+s.length)*1≤140737488355328∧w.length+s.length≤4611686018427387904∧nj 1 (gA s)=true:=⟨by omega,by omega,Px s⟩
 rw [KE];cases s with
 |nil=>simp [rap,xE,hx,h1,gA,nj];simp at h;omega
 |cons c s=>
  simp only [rap,xE,hx,h1,h2,or_true,true_and,hc,if_true,and_self];simp only [gA,List.map_cons,cI,List.getElem?_cons_zero,hp_set0,List.set_cons_zero,Nat.mul_one,List.length_cons,List.length_map,and_self,if_true,List.length_append,bTok]
theorem VW(s:Str)(H:List AObj):uq H 1 true (.str s)=some (gA s):=by simp [uq]
theorem Py(H L:List AObj){w s:Str}(h:w.length+s.length≤140737488355328) :
  rap false (H++(bTok w::L)) dj 1 1 true (.slice (.own H.length) 1 (gA w)) (.str s)=some (.slice (.own H.length) 1 (gA (w++s)),H++(bTok (w++s)::L)):=TO H L h _ (VW s)
theorem Qx(H L:List AObj){w:Str}{c:UInt8}(h:w.length+1≤140737488355328) :
  rap false (H++(bTok w::L)) dj 1 1 false (.slice (.own H.length) 1 (gA w)) (.slice .full 1 [[.int .u8 (c.toNat:Int)]])=some (.slice (.own H.length) 1 (gA (w++[c])),H++(bTok (w++[c])::L)):=by
 have h1:(gA w).length=w.length:=by simp [gA]
 have hc:(w.length+1)*1≤140737488355328∧w.length+1≤4611686018427387904:=⟨by omega,by omega⟩
 simp only [rap,xE,uq,h1,or_true,if_true,List.length_cons,List.length_nil,Nat.zero_add,true_and,hc,and_self];simp [nj,AV.cell,cI,hp_set0,KE,gA,AV.strip,h1,List.map_append]
theorem WY(H L:List AObj)(w:Str)(hw:w.length≤9223372036854775807):Lk (H++(bTok w::L)) dj (.sdp H.length (gA w)) (.int .i64 (w.length:Int))=some (.str w):=by
 cases w with
 |nil=>simp [gA,Lk]
 |cons c w=>
  have h1:=D3 (c::w);have h2:=NK (c::w);simp only [gA,List.map_cons] at h1 h2 ⊢;simp only [Lk,cI,List.getElem?_cons_zero,h1,h2];rw [if_pos];exact ⟨trivial,trivial,ZO _,hw,trivial⟩
theorem WZ(n:Nat)(w:Str):Q3 (.slice (.own n) 1 (gA w))=some (.sdp n (gA w)):=by cases w<;>rfl
theorem D4{H L:List AObj}{n n':Nat}{T T' T1 T2:TypeId}{cs cs':List AV}(h:WkL (H.length+(L.length+1+1)) cs' cs'):b4 (H++(.tok n T :: .cells cs T1::L)) (H++(.tok n' T' :: .cells cs' T2::L)):=
 ⟨by simp,fun i x hi hx=>by
  rcases Nat.lt_trichotomy i H.length with hl | hl | hl
  ·left;rw [ZE hl] at hx ⊢;exact hx
  ·subst hl;rw [cI] at hx;right
   obtain rfl:_=x:=by simpa using hx
   trivial
  ·obtain ⟨j,rfl⟩:∃ j,i=H.length+(j+1):=⟨i-H.length-1,by omega⟩
   rw [hp_getk] at hx ⊢;cases j with
   |zero=>
    right;obtain rfl:_=x:=by simpa using hx
    intro c hc;obtain ⟨k,hk⟩:=ZV hc;obtain ⟨y,h1,h2⟩:=h.get k c hk;rw [hk] at h1;cases h1;simpa [Nat.add_assoc] using h2
   |succ j=>left;simpa using hx⟩
theorem vf(H L:List AObj)(x y:AObj):(H++(x::y::L)).take (H.length+(L.length+1+1))=H++(x::y::L):=List.take_of_length_le (by simp)
theorem NL(n:Nat)(w:Str):nQ n (gA w):=by
 rw [rowsWk_map];exact fun _ _=>⟨wk_int _ _ _,trivial⟩
theorem TP(H L:List AObj)(w:Str):WkL (H.length+(L.length+1+1)) [.ptr (H.length+1) 0,.slice (.own H.length) 1 (gA w)] [.ptr (H.length+1) 0,.slice (.own H.length) 1 (gA w)]:=
 ⟨wk_ptr (by omega),wk_slice (show H.length<_ by omega) (NL _ _),trivial⟩
theorem qU:(∀ (a:Env) (H:List AObj) (x:RX),rop a H (.usl x)=b5 H (Q3 (rx a x)))∧(∀ (a:Env) (H:List AObj) (e:TypeId) (x n:RX),rop a H (.ust e x n)=b5 H (Lk H e (rx a x) (rx a n)))∧(∀ (a:Env) (H:List AObj) (x:RX),rop a H (.cvu x)=b5 H (OB H (rx a x)))∧(∀ (a:Env) (H:List AObj) (u:TypeId) (sz:Nat) (x:RX),rop a H (.cvf u sz x)=b5 H (OC H u sz (rx a x))) ∧
 (∀ (a:Env) (H:List AObj) (cs:List AV) (e:TypeId) (j:Nat) (T:TypeId),rop a H (.nwb cs e j T)=some (.ptr (H.length+1) 0,H++[.tok 0 T,.cells (cs.set j (.slice (.own H.length) 1 [])) e])):=
 ⟨fun _ _ _=>rfl,fun _ _ _ _ _=>rfl,fun _ _ _=>rfl,fun _ _ _ _ _=>rfl,fun _ _ _ _ _ _=>rfl⟩
theorem NM:req .ptr .nilp .nilp=some true:=rfl
theorem IJ(i o:Nat):req .ptr (.ptr i o) .nilp=some false:=rfl
theorem NN(i o:Nat):req .ptr (.ptr i o) (.ptr i o)=some true:=by simp [req]
theorem YV(H L:List AObj)(x:AObj)(a b:AV)(T:TypeId):OB (H++(x :: .cells [a,b] T::L)) (.ptr (H.length+1) 0)=some (.ptr (H.length+1) 0):=by
 simp [OB,hp_getk]
theorem YW(H L:List AObj)(x:AObj)(a b:AV)(T:TypeId):OC (H++(x :: .cells [a,b] T::L)) T 2 (.ptr (H.length+1) 0)=some (.ptr (H.length+1) 0):=by
 simp [OC,hp_getk]
theorem BK(hB:s6 E)(hX:sM M)(H L:List AObj)(w:Str) :
  M.run cu [.ptr (H.length+1) 0] (H++(bTok w::lK .nilp H.length w bt::L))=some (.ret (.tuple []),H++(bTok w::lK (.ptr (H.length+1) 0) H.length w bt::L)):=by
 rw [aN M hB.strings_Builder_copyCheck rfl (c:=bX) rfl,bX];have h1:=hX.same (H.length+1) 0;have hw:=TP H L w;simp (maxSteps:=3000000) (maxDischargeDepth:=6) +contextual -implicitDefEqProofs only [amC M,↓amD,Nat.reduceBEq,Nat.reduceAdd,env,ab,iL,amG,AV.cell,Nat.reduceMul,Nat.reduceLeDiff,h1,qU,NM,rnc,YV,YW,D4 hw,vf,wk_tuple]
theorem BM(hB:s6 E)(H L:List AObj)(w:Str)(T:TypeId) :
  M.run cu [.ptr (H.length+1) 0] (H++(bTok w::lK (.ptr (H.length+1) 0) H.length w T::L))=some (.ret (.tuple []),H++(bTok w::lK (.ptr (H.length+1) 0) H.length w T::L)):=by
 rw [aN M hB.strings_Builder_copyCheck rfl (c:=bX) rfl,bX];simp (maxSteps:=3000000) (maxDischargeDepth:=6) +contextual -implicitDefEqProofs only [amC M,↓amD,Nat.reduceBEq,Nat.reduceAdd,env,ab,iL,IJ,NN,rnc,vf,wk_tuple]
theorem Fl(hB:s6 E)(hX:sM M)(H L:List AObj){w s:Str}{T:TypeId}(h:w.length+s.length≤140737488355328) :
  M.run aM [.ptr (H.length+1) 0,.str s] (H++(bTok w::lK .nilp H.length w bt::L))=some (.ret (.tuple [.int .i64 s.length,.nilif]),H++(bTok (w++s)::lK (.ptr (H.length+1) 0) H.length (w++s) bt::L)):=by
 rw [aN M hB.strings_Builder_WriteString rfl (c:=cF) rfl,cF];have hw:=TP H L (w++s);simp (maxSteps:=3000000) (maxDischargeDepth:=6) +contextual -implicitDefEqProofs only [amC M,↓amD,Nat.reduceBEq,Nat.reduceAdd,env,ab,dM,amG,AV.cell,Nat.reduceMul,Nat.reduceLeDiff,(BK M hB hX),rnc,Py _ _ h,D4 hw,vf,wk_tuple]
theorem IK(hB:s6 E)(hX:sM M)(H L:List AObj){w:Str}{c:UInt8}{T:TypeId}(h:w.length+1≤140737488355328) :
  M.run eD [.ptr (H.length+1) 0,.int .u8 c.toNat] (H++(bTok w::lK .nilp H.length w bt::L))=some (.ret .nilif,H++(bTok (w++[c])::lK (.ptr (H.length+1) 0) H.length (w++[c]) bt::L)):=by
 rw [aN M hB.strings_Builder_WriteByte rfl (c:=eI) rfl,eI];have hw:=TP H L (w++[c]);simp (maxSteps:=3000000) (maxDischargeDepth:=6) +contextual -implicitDefEqProofs only [amC M,↓amD,Nat.reduceBEq,Nat.reduceAdd,env,ab,qo,amG,AV.cell,Nat.reduceMul,Nat.reduceLeDiff,(BK M hB hX),rnc,Qx _ _ h,D4 hw,vf,wk_tuple]
theorem Fm(hB:s6 E)(hX:sM M)(H L:List AObj){w s:Str}{T:TypeId}(h:w.length+s.length≤140737488355328) :
  M.run aM [.ptr (H.length+1) 0,.str s] (H++(bTok w::lK (.ptr (H.length+1) 0) H.length w T::L))=some (.ret (.tuple [.int .i64 s.length,.nilif]),H++(bTok (w++s)::lK (.ptr (H.length+1) 0) H.length (w++s) T::L)):=by
 rw [aN M hB.strings_Builder_WriteString rfl (c:=cF) rfl,cF];have hw:=TP H L (w++s);simp (maxSteps:=3000000) (maxDischargeDepth:=6) +contextual -implicitDefEqProofs only [amC M,↓amD,Nat.reduceBEq,Nat.reduceAdd,env,ab,dM,amG,AV.cell,Nat.reduceMul,Nat.reduceLeDiff,(BM M hB),rnc,Py _ _ h,D4 hw,vf,wk_tuple]
theorem IL(hB:s6 E)(hX:sM M)(H L:List AObj){w:Str}{c:UInt8}{T:TypeId}(h:w.length+1≤140737488355328) :
  M.run eD [.ptr (H.length+1) 0,.int .u8 c.toNat] (H++(bTok w::lK (.ptr (H.length+1) 0) H.length w T::L))=some (.ret .nilif,H++(bTok (w++[c])::lK (.ptr (H.length+1) 0) H.length (w++[c]) T::L)):=by
 rw [aN M hB.strings_Builder_WriteByte rfl (c:=eI) rfl,eI];have hw:=TP H L (w++[c]);simp (maxSteps:=3000000) (maxDischargeDepth:=6) +contextual -implicitDefEqProofs only [amC M,↓amD,Nat.reduceBEq,Nat.reduceAdd,env,ab,qo,amG,AV.cell,Nat.reduceMul,Nat.reduceLeDiff,(BM M hB),rnc,Qx _ _ h,D4 hw,vf,wk_tuple]
theorem NO(hB:s6 E)(H L:List AObj){w:Str}{a:AV}{T:TypeId}(hw:w.length≤9223372036854775807) :
  M.run cT [.ptr (H.length+1) 0] (H++(bTok w::lK a H.length w T::L))=some (.ret (.str w),H++(bTok w::lK a H.length w T::L)):=by
 rw [aN M hB.strings_Builder_String rfl (c:=gm) rfl,gm];simp (maxSteps:=3000000) (maxDischargeDepth:=6) +contextual -implicitDefEqProofs only [amC M,↓amD,Nat.reduceBEq,Nat.reduceAdd,env,ab,mR,qU,rnc,WZ,WY H _ w hw,vf]
theorem TQ(hB:s6 E)(H L:List AObj){w:Str}{a:AV}{T:TypeId} :
  M.run pB [.ptr (H.length+1) 0] (H++(bTok w::lK a H.length w T::L))=some (.ret (.int .i64 w.length),H++(bTok w::lK a H.length w T::L)):=by
 rw [aN M hB.strings_Builder_Len rfl (c:=pK) rfl,pK];simp (maxSteps:=3000000) (maxDischargeDepth:=6) +contextual -implicitDefEqProofs only [amC M,↓amD,Nat.reduceBEq,Nat.reduceAdd,env,ab,AD,rnc,vf]
end
section
attribute [local congr] al br aJ ao aH aA aq ah aj aC aD
variable{E:aX}(M:bR bN E)
structure SpE (E:aX):Prop where
 internal_stringslite_HasPrefix:E.fn eG=some eM
 internal_stringslite_IndexByte:E.fn cM=some eK
 morph_language_left:E.fn pF=some gj
 morph_language_match:E.fn kS=some lf
 morph_language_right:E.fn nZ=some fF
 morph_language_spell:E.fn nX=some fE
 strings_HasPrefix:E.fn rr=some nh
 strings_IndexByte:E.fn ru=some ni
theorem y7{s:Str}{k:IntKind}{i:Nat}(h:i≤s.length):Lj (.str s) (some (.int k (i:Int))) none=some (.str (s.drop i)):=by
 simp [Lj,fT,h];exact List.take_of_length_le (by simp)
theorem Pz{s:Str}{k:IntKind}{i:Nat}(h:i≤s.length):Lj (.str s) none (some (.int k (i:Int)))=some (.str (s.take i)):=by
 simp [Lj,fT,h]
theorem D5{s:Str}{k k':IntKind}{i j:Nat}(h:i≤j)(hj:j≤s.length):Lj (.str s) (some (.int k (i:Int))) (some (.int k' (j:Int)))=some (.str ((s.drop i).take (j-i))):=by
 simp [Lj,fT,h,hj]
def Aj(s p:Str):Bool:=decide (p.length≤s.length)&&(s.take p.length == p)
theorem IM(hS:SpE E)(s p:Str)(H:List AObj):M.run eG [.str s,.str p] H=some (.ret (.bool (Aj s p)),H):=by
 rw [aN M hS.internal_stringslite_HasPrefix rfl (c:=jq) rfl,jq];cases hd:decide (p.length≤s.length) with
 |true=>
  have hle:p.length≤s.length:=of_decide_eq_true hd;simp (maxSteps:=3000000) (maxDischargeDepth:=6) +contextual -implicitDefEqProofs only [amC M,↓amD,Nat.reduceBEq,Nat.reduceAdd,env,ab,mJ,Aj,hd,Pz hle]
 |false=>
  simp (maxSteps:=3000000) (maxDischargeDepth:=6) +contextual -implicitDefEqProofs only [amC M,↓amD,Nat.reduceBEq,Nat.reduceAdd,env,ab,mJ,Aj,hd]
theorem uK(hS:SpE E)(s p:Str)(H:List AObj):M.run rr [.str s,.str p] H=some (.ret (.bool (Aj s p)),H):=by
 have h1:=IM M hS s p H;rw [aN M hS.strings_HasPrefix rfl (c:=rz) rfl,rz];simp (maxSteps:=3000000) (maxDischargeDepth:=6) +contextual -implicitDefEqProofs only [amC M,↓amD,Nat.reduceBEq,Nat.reduceAdd,env,ab,Cf,h1]
theorem KF:∀ (s:Str) (c:UInt8),decide ((0:Int)≤Lib.indexByte s c)=s.any fun d=>d == c
 |[],c=>rfl
 |d::s,c=>by
  rw [Lib.indexByte,List.any_cons,← KF s c];cases h:d == c with
  |true=>simp
  |false=>
   have hg:=Lib.indexByte_ge s c;simp only [Bool.false_or]
   by_cases h2:Lib.indexByte s c = -1
   ·simp [h2]
   ·have:(Lib.indexByte s c == -1)=false:=by simpa using h2
    simp only [this];rw [Bool.eq_iff_iff];simp;omega
theorem JQ(hS:SpE E)(hX:sM M)(s:Str)(c:UInt8)(H:List AObj):M.run ru [.str s,.int .u8 c.toNat] H=some (.ret (.int .i64 (Lib.indexByte s c)),H):=by
 have h1:M.run cM [.str s,.int .u8 c.toNat] H=some (.ret (.int .i64 (Lib.indexByte s c)),H):=by
  rw [aN M hS.internal_stringslite_IndexByte rfl (c:=dv) rfl,dv];simp (maxSteps:=3000000) (maxDischargeDepth:=6) +contextual -implicitDefEqProofs only [amC M,↓amD,Nat.reduceBEq,Nat.reduceAdd,env,ab,mI,hX.index]
 rw [aN M hS.strings_IndexByte rfl (c:=rC) rfl,rC];simp (maxSteps:=3000000) (maxDischargeDepth:=6) +contextual -implicitDefEqProofs only [amC M,↓amD,Nat.reduceBEq,Nat.reduceAdd,env,ab,Cg,h1]
def IN(s:Str)(at_:Int):Option UInt8:=if at_<0 then none else s[at_.toNat]?
def isV(v:Str)(c:UInt8):Bool:=v.any fun d=>d == c
def tX(v:Str)(p:UInt8)(s:Str)(at_:Int):Bool:=
 match IN s at_ with
 |none=>((p.toNat:Int) == 35)&&((at_ == -1)||(at_ == (s.length:Int)))
 |some c=>sel ((p.toNat:Int) == 67) (eW c && !isV v c) (sel ((p.toNat:Int) == 86) (eW c&&isV v c) (p.toNat == c.toNat))
theorem KG(hN:bu E)(hS:SpE E)(hX:sM M){l:Lex}(p:UInt8)(s:Str)(at_:Int)(H:List AObj) :
  M.run kS [.agg l.row,.int .u8 p.toNat,.str s,.int .i64 at_] H=some (.ret (.bool (tX l.vowels p s at_)),H):=by
 rw [aN M hS.morph_language_match rfl (c:=oQ) rfl,oQ]
 by_cases h:at_<0
 ·have e:IN s at_=none:=if_pos h
  have hd:decide (at_<0)=true:=decide_eq_true h;simp (maxSteps:=3000000) (maxDischargeDepth:=6) +contextual -implicitDefEqProofs only [amC M,↓amD,Nat.reduceBEq,Nat.reduceAdd,env,ab,oR,hd,tX,e,cut_app]
 ·obtain ⟨j,rfl⟩:∃ j:Nat,at_=(j:Int):=⟨at_.toNat,by omega⟩
  have e:IN s (j:Int)=s[j]? := by simp [IN,h]
  by_cases hj:j<s.length
  ·have hx:s[j]?=some s[j]:=ZC hj
   have hd:decide (s.length≤j)=false:=decide_eq_false (by omega);simp (maxSteps:=3000000) (maxDischargeDepth:=6) +contextual -implicitDefEqProofs only [amC M,↓amD,Nat.reduceBEq,Nat.reduceAdd,env,ab,oR,GA,hd,hx,tX,e,bH,cut_app,JQ M hS hX,KF,oW M hN.letter,isV]
  ·have hx:s[j]?=none:=List.getElem?_eq_none (by omega)
   have hd:decide (s.length≤j)=true:=decide_eq_true (by omega);simp (maxSteps:=3000000) (maxDischargeDepth:=6) +contextual -implicitDefEqProofs only [amC M,↓amD,Nat.reduceBEq,Nat.reduceAdd,env,ab,oR,GA,hd,hx,tX,e,cut_app]
def TR{α:Type}(f:Nat→α→Bool):Nat→List α→Bool
 |_,[]=>true
 |i,x::l=>f i x&&TR f (i+1) l
def JR{α:Type}(f:Nat→α→Bool):Nat→α→Option AV:=fun i x=>sel (f i x) none (some (.bool false))
theorem Ak{α:Type}(f:Nat→α→Bool)(H:List AObj)(x:Option Out):∀ (l:List α) (i:Nat),orE (bS (JR f) i l) H x=sel (TR f i l) x (some (.ret (.bool false),H))
 |[],_=>rfl
 |y::l,i=>by
  rw [lj,LM,Ak f H x l,TR];unfold JR;cases f i y<;>rfl
theorem spl{H H0:List AObj}(hN:bu E)(hS:SpE E)(hX:sM M){l:Lex}{q:Str}{s:Str}{a:Nat}(ha:a≤aQ){L:Str}(hLl:L.length=q.length)(hqs:q.length≤aQ)(hL:∀ k,k<L.length→q[q.length-1-k]?=L[k]?){p:Nat}{T:TypeId}(hp:H[p]?=some (.cells l.row T))(hc:b4 H0 H)(k:List Fra):∀ (n i:Nat) (He:List AObj),i+n=L.length →
  M.go gj H0 (.c iG :: .lp ⟨(some [1,2,3,4,11,12]),[],false⟩ iG He :: .blk 0 :: .c (.lv [])::k) (kv [(1,.str q),(2,.str s),(3,.int .i64 a),(4,.ptr p 0),(11,.int .i64 L.length),(12,.int .i64 i)]) H =
   orE (bS (JR fun k c=>tX l.vowels c s ((a:Int)-1-(k:Int))) i (L.drop i)) (H.take H0.length) (M.go gj H0 k .leaf H)
 |0,i,He,h=>by
  have e:i=L.length:=by omega
  subst e;rw [ag M iG.eq_1];simp (maxSteps:=3000000) (maxDischargeDepth:=6) +contextual -implicitDefEqProofs only [amC M,↓amD,Nat.reduceBEq,Nat.reduceAdd,env,ab,qg,Nat.lt_irrefl,List.drop_length]
 |n+1,i,He,h=>by
  have hi:i<L.length:=by omega
  have hx:L[i]?=some L[i]:=ZC hi;have hd:(L.drop i)=L[i]::L.drop (i+1):=ZD hi;have hm:L[i]∈L:=ZJ hi;have ih:=fun He=>spl (H:=H) (H0:=H0) (hN:=hN) (hS:=hS) (hX:=hX) (l:=l) (q:=q) (s:=s) (a:=a) (ha:=ha) (L:=L) (hLl:=hLl) (hqs:=hqs) (hL:=hL) (p:=p) (T:=T) (hp:=hp) hc k n (i+1)  He (by omega)
  simp only [kv_cons,kv_nil] at ih;have hq:=(hL i hi).trans hx;have e1:IntKind.i64.wrap ((q.length:Int)-1)=((q.length-1:Nat):Int):=Qj (by omega) hqs
  have e2:IntKind.i64.wrap (((q.length-1:Nat):Int)-(i:Int))=((q.length-1-i:Nat):Int):=by
   simp only [aQ] at hqs;rw [dZ (by omega) (by omega)];omega
  have e3:IntKind.i64.wrap ((a:Int)-1)=(a:Int)-1:=by simp only [aQ] at ha;exact dZ (by omega) (by omega)
  have e4:IntKind.i64.wrap ((a:Int)-1-(i:Int))=(a:Int)-1-(i:Int):=by simp only [aQ] at ha hqs;exact dZ (by omega) (by omega)
  rw [ag M iG.eq_1];simp (maxSteps:=3000000) (maxDischargeDepth:=6) +contextual -implicitDefEqProofs only [amC M,↓amD,Nat.reduceBEq,Nat.reduceAdd,env,ab,qg,hx,hd,hi,ih,hq,e1,e2,e3,e4,hp,bH,KG M hN hS hX,aZ hi (show L.length≤aQ by omega),JR,hc]
def KH(v p s:Str)(a:Nat):Bool:=TR (fun k c=>tX v c s ((a:Int)-1-(k:Int))) 0 p.reverse
theorem Qy(q:Str):∀ k,k<q.reverse.length→q[q.length-1-k]?=q.reverse[k]? := fun k hk=>by
 rw [List.getElem?_reverse (by simpa using hk)]
theorem TS(hN:bu E)(hS:SpE E)(hX:sM M){l:Lex}{q:Str}(hq:q.length≤aQ)(s:Str){a:Nat}(ha:a≤aQ)(H:List AObj) :
  M.run pF [.agg l.row,.str q,.str s,.int .i64 a] H=some (.ret (.bool (KH l.vowels q s a)),H):=by
 rw [aN M hS.morph_language_left rfl (c:=qe) rfl,qe];have h1:=fun k He=>spl M hN hS hX (H:=H++[.cells l.row aP]) (H0:=H) (l:=l) (q:=q) (s:=s) ha (L:=q.reverse) (by simp) hq (Qy q) (p:=H.length) (T:=aP) (by rw [cI];rfl) (cut_app H _) k q.reverse.length 0 He (by omega)
 simp only [kv_cons,kv_nil,Int.ofNat_zero,List.drop_zero,Ak,List.length_reverse] at h1;simp (maxSteps:=3000000) (maxDischargeDepth:=6) +contextual -implicitDefEqProofs only [amC M,↓amD,Nat.reduceBEq,Nat.reduceAdd,env,ab,qg,h1,KH,cut_app]
theorem spr{H H0:List AObj}(hN:bu E)(hS:SpE E)(hX:sM M){l:Lex}{q:Str}{s:Str}{a:Nat}(ha:a+q.length≤aQ){p:Nat}{T:TypeId}(hp:H[p]?=some (.cells l.row T))(hc:b4 H0 H)(k:List Fra):∀ (n i:Nat) (He:List AObj),i+n=q.length →
  M.go fF H0 (.c gz :: .lp ⟨(some [1,2,3,4,11,12]),[],false⟩ gz He :: .blk 0 :: .c (.lv [])::k) (kv [(1,.str q),(2,.str s),(3,.int .i64 a),(4,.ptr p 0),(11,.int .i64 q.length),(12,.int .i64 i)]) H =
   orE (bS (JR fun k c=>tX l.vowels c s ((a+k:Nat):Int)) i (q.drop i)) (H.take H0.length) (M.go fF H0 k .leaf H)
 |0,i,He,h=>by
  have e:i=q.length:=by omega
  subst e;rw [ag M gz.eq_1];simp (maxSteps:=3000000) (maxDischargeDepth:=6) +contextual -implicitDefEqProofs only [amC M,↓amD,Nat.reduceBEq,Nat.reduceAdd,env,ab,oN,Nat.lt_irrefl,List.drop_length]
 |n+1,i,He,h=>by
  have hi:i<q.length:=by omega
  have hx:q[i]?=some q[i]:=ZC hi;have hd:(q.drop i)=q[i]::q.drop (i+1):=ZD hi;have hm:q[i]∈q:=ZJ hi;have ih:=fun He=>spr (H:=H) (H0:=H0) (hN:=hN) (hS:=hS) (hX:=hX) (l:=l) (q:=q) (s:=s) (a:=a) (ha:=ha) (p:=p) (T:=T) (hp:=hp) hc k n (i+1)  He (by omega)
  simp only [kv_cons,kv_nil] at ih;have e1:IntKind.i64.wrap ((a:Int)+(i:Int))=((a+i:Nat):Int):=by simp only [aQ] at ha;rw [dZ (by omega) (by omega)];omega
  rw [ag M gz.eq_1];simp (maxSteps:=3000000) (maxDischargeDepth:=6) +contextual -implicitDefEqProofs only [amC M,↓amD,Nat.reduceBEq,Nat.reduceAdd,env,ab,oN,hx,hd,hi,ih,e1,hp,bH,KG M hN hS hX,aZ hi (show q.length≤aQ by omega),JR,hc]
def IP(v p s:Str)(a:Nat):Bool:=TR (fun k c=>tX v c s ((a+k:Nat):Int)) 0 p
theorem RQ(hN:bu E)(hS:SpE E)(hX:sM M){l:Lex}{q:Str}(s:Str){a:Nat}(ha:a+q.length≤aQ)(H:List AObj) :
  M.run nZ [.agg l.row,.str q,.str s,.int .i64 a] H=some (.ret (.bool (IP l.vowels q s a)),H):=by
 rw [aN M hS.morph_language_right rfl (c:=oM) rfl,oM];have h1:=fun k He=>spr M hN hS hX (H:=H++[.cells l.row aP]) (H0:=H) (l:=l) (q:=q) (s:=s) ha (p:=H.length) (T:=aP) (by rw [cI];rfl) (cut_app H _) k q.length 0 He (by omega)
 simp only [kv_cons,kv_nil,Int.ofNat_zero,List.drop_zero,Ak] at h1;simp (maxSteps:=3000000) (maxDischargeDepth:=6) +contextual -implicitDefEqProofs only [amC M,↓amD,Nat.reduceBEq,Nat.reduceAdd,env,ab,oN,h1,IP,cut_app]
end
section
attribute [local congr] al br aJ ao aH aA aq ah aj aC aD
variable{E:aX}(M:bR bN E)
def NP(v:Str)(x:aV)(s:Str)(i:Nat):Bool:=Aj (s.drop i) x.frm&&(KH v x.left s i&&IP v x.right s (i+x.frm.length))
def y8(v:Str)(x:aV)(s:Str):Nat→Nat→Str→Str
 |0,_,w=>w
 |n+1,i,w=>match s[i]? with
  |none=>w
  |some c=>match NP v x s i with
   |true=>y8 v x s n (i+x.frm.length) (w++x.to)
   |false=>y8 v x s n (i+1) (w++[c])
def rX(v:Str)(x:aV)(s:Str):Str:=y8 v x s (s.length+1) 0 []
theorem IQ(v:Str)(x:aV)(s:Str)(ht:x.to.length≤6):∀ (n i:Nat) (w:Str),(y8 v x s n i w).length≤w.length+6*n
 |0,i,w=>by simp only [y8];omega
 |n+1,i,w=>by
  unfold y8;split
  ·omega
  ·split
   ·have:=IQ v x s ht n (i+x.frm.length) (w++x.to)
    simp only [List.length_append] at this;omega
   ·rename_i c _ _ _
    have:=IQ v x s ht n (i+1) (w++[c]);simp only [List.length_append,List.length_singleton] at this;omega
theorem RR(v:Str)(x:aV)(s:Str)(ht:x.to.length≤6):(rX v x s).length≤6*(s.length+1):=by
 have:=IQ v x s ht (s.length+1) 0 [];simpa [rX] using this
theorem Fo(hB:s6 E)(hX:sM M)(H L:List AObj){w s:Str}{a:AV}(ha:a = .nilp∨a = .ptr (H.length+1) 0)(h:w.length+s.length≤140737488355328) :
  M.run aM [.ptr (H.length+1) 0,.str s] (H++(bTok w::lK a H.length w bt::L))=some (.ret (.tuple [.int .i64 s.length,.nilif]),H++(bTok (w++s)::lK (.ptr (H.length+1) 0) H.length (w++s) bt::L)):=by
 rcases ha with rfl | rfl
 ·exact Fl M (T:=0) hB hX H L h
 ·exact Fm M hB hX H L h
theorem IR(hB:s6 E)(hX:sM M)(H L:List AObj){w:Str}{c:UInt8}{a:AV}(ha:a = .nilp∨a = .ptr (H.length+1) 0)(h:w.length+1≤140737488355328) :
  M.run eD [.ptr (H.length+1) 0,.int .u8 c.toNat] (H++(bTok w::lK a H.length w bt::L))=some (.ret .nilif,H++(bTok (w++[c])::lK (.ptr (H.length+1) 0) H.length (w++[c]) bt::L)):=by
 rcases ha with rfl | rfl
 ·exact IK M (T:=0) hB hX H L h
 ·exact IL M hB hX H L h
theorem spw(hN:bu E)(hS:SpE E)(hX:sM M)(hB:s6 E){l:Lex}{x:aV}{n0:Nat}(hx0:x.ok n0)(h0:x.frm≠[])(ht:x.to.length≤6)(hfr:x.frm.length≤6)(hri:x.right.length≤6){s:Str}(hs:s.length≤1000000)
  {H H0:List AObj}{p q:Nat}{T T2:TypeId} (hp:H[p]?=some (.cells l.row T)) (hq:H[q]?=some (.cells x.row T2)):∀ (n i:Nat) (w:Str) (a:AV),(a = .nilp∨a = .ptr (H.length+1) 0)→s.length<i+n→i≤s.length+6→w.length≤6*i →
  ∃ a',∀ (k:List Fra) (He:List AObj),M.go fE H0 (.c dB :: .lp ⟨(some [2,3,4,8,9]),[],false⟩ dB He :: .blk 0 :: .c (.lv [8])::k) (kv [(2,.str s),(3,.ptr p 0),(4,.ptr q 0),(8,.ptr (H.length+1) 0),(9,.int .i64 i)]) (H++[bTok w,lK a H.length w bt]) =
   M.go fE H0 k (kv [(8,.ptr (H.length+1) 0)]) (H++[bTok (y8 l.vowels x s n i w),lK a' H.length (y8 l.vowels x s n i w) bt])
 |0,i,w,a,ha,hn,hi,hw=>by
  refine ⟨a,fun k He => ?_⟩;have e:¬ i<s.length:=by omega
  rw [y8];rw [ag M dB.eq_1];simp (maxSteps:=3000000) (maxDischargeDepth:=6) +contextual -implicitDefEqProofs only [amC M,↓amD,Nat.reduceBEq,Nat.reduceAdd,env,ab,dX,e]
 |n+1,i,w,a,ha,hn,hi,hw=>by
  have hp':=fun L=>bZ (L:=L) hp
  have hq':=fun L=>bZ (L:=L) hq
  by_cases h:i<s.length
  ·have hx:s[i]?=some s[i]:=ZC h
   have hf:0<x.frm.length:=by cases hxf:x.frm with
    |nil=>exact absurd hxf h0
    |cons a b=>simp
   have l1:=fun H=>TS M hN hS hX (l:=l) hx0.left s (show i≤aQ by simp only [aQ];omega) H
   have r1:=fun H=>RQ M hN hS hX (l:=l) (q:=x.right) s (show (i+x.frm.length)+x.right.length≤aQ by simp only [aQ];omega) H
   have e1:IntKind.i64.wrap ((i:Int)+(x.frm.length:Int))=((i+x.frm.length:Nat):Int):=by rw [dZ (by omega) (by omega)];omega
   cases hA:NP l.vowels x s i with
   |true=>
    obtain ⟨a',ih⟩:=spw hN hS hX hB hx0 h0 ht hfr hri hs hp hq n (i+x.frm.length) (w++x.to) (.ptr (H.length+1) 0) (.inr rfl) (by omega) (by omega) (by simp;omega);refine ⟨a',fun k He => ?_⟩;simp only [kv_cons,kv_nil] at ih;rw [y8,hx,hA];simp only [NP,Bool.and_eq_true] at hA;have w1:=Fo M hB hX H [] (w:=w) (s:=x.to) ha (by omega);rw [ag M dB.eq_1];simp (maxSteps:=3000000) (maxDischargeDepth:=6) +contextual -implicitDefEqProofs only [amC M,↓amD,Nat.reduceBEq,Nat.reduceAdd,env,ab,dX,h,hx,ih,hp',hq',bH,nk,y7 (Nat.le_of_lt h),uK M hS,l1,r1,e1,hA.1,hA.2.1,hA.2.2,w1]
    all_goals exact ih _ _
   |false=>
    obtain ⟨a',ih⟩:=spw hN hS hX hB hx0 h0 ht hfr hri hs hp hq n (i+1) (w++[s[i]]) (.ptr (H.length+1) 0) (.inr rfl) (by omega) (by omega) (by simp;omega);refine ⟨a',fun k He => ?_⟩;simp only [kv_cons,kv_nil] at ih;rw [y8,hx,hA];have w1:=IR M hB hX H [] (w:=w) (c:=s[i]) ha (by omega);have hA2:(Aj (s.drop i) x.frm&&KH l.vowels x.left s i&&IP l.vowels x.right s (i+x.frm.length))=false:=by rw [← hA,NP,Bool.and_assoc]
    rw [ag M dB.eq_1];cases c1:Aj (s.drop i) x.frm with
    |false=>
     simp (maxSteps:=3000000) (maxDischargeDepth:=6) +contextual -implicitDefEqProofs only [amC M,↓amD,Nat.reduceBEq,Nat.reduceAdd,env,ab,dX,h,hx,ih,hp',hq',bH,nk,y7 (Nat.le_of_lt h),uK M hS,c1,w1,aZ h (show s.length≤aQ by simp only [aQ];omega)]
     all_goals exact ih _ _
    |true=>
     cases c2:KH l.vowels x.left s i with
     |false=>
      simp (maxSteps:=3000000) (maxDischargeDepth:=6) +contextual -implicitDefEqProofs only [amC M,↓amD,Nat.reduceBEq,Nat.reduceAdd,env,ab,dX,h,hx,ih,hp',hq',bH,nk,y7 (Nat.le_of_lt h),uK M hS,l1,c1,c2,w1,aZ h (show s.length≤aQ by simp only [aQ];omega)]
      all_goals exact ih _ _
     |true=>
      rw [c1,c2] at hA2;simp only [Bool.true_and] at hA2;simp (maxSteps:=3000000) (maxDischargeDepth:=6) +contextual -implicitDefEqProofs only [amC M,↓amD,Nat.reduceBEq,Nat.reduceAdd,env,ab,dX,h,hx,ih,hp',hq',bH,nk,y7 (Nat.le_of_lt h),uK M hS,l1,r1,e1,c1,c2,hA2,w1,aZ h (show s.length≤aQ by simp only [aQ];omega)]
      all_goals exact ih _ _
  ·refine ⟨a,fun k He => ?_⟩
   have hx:s[i]?=none:=List.getElem?_eq_none (by omega);rw [y8,hx];rw [ag M dB.eq_1];simp (maxSteps:=3000000) (maxDischargeDepth:=6) +contextual -implicitDefEqProofs only [amC M,↓amD,Nat.reduceBEq,Nat.reduceAdd,env,ab,dX,h]
theorem RT(hN:bu E)(hS:SpE E)(hX:sM M)(hB:s6 E){l:Lex}{x:aV}{n0:Nat}(hx0:x.ok n0)(h0:x.frm≠[])(ht:x.to.length≤6)(hfr:x.frm.length≤6)(hri:x.right.length≤6){s:Str}(hs:s.length≤1000000)(H:List AObj) :
  M.run nX [.agg l.row,.agg x.row,.str s] H=some (.ret (.tuple [.str (rX l.vowels x s),.bool (decide (((rX l.vowels x s).length:Int)≤512))]),H):=by
 rw [aN M hS.morph_language_spell rfl (c:=oJ) rfl,oJ];have hlen:(rX l.vowels x s).length≤9223372036854775807:=by have:=RR l.vowels x s ht;omega
 obtain ⟨a',h1⟩:=spw M hN hS hX hB hx0 h0 ht hfr hri hs (l:=l) (H:=H++[.cells l.row aP,.cells x.row b7]) (H0:=H) (p:=H.length) (q:=H.length+1) (T:=aP) (T2:=b7) (by rw [cI];rfl) (by rw [hp_getk];rfl) (s.length+1) 0 [] .nilp (.inl rfl) (by omega) (by omega) (by simp);have h2:=NO M hB (H++[.cells l.row aP,.cells x.row b7]) [] (a:=a') (T:=bt) hlen;have h3:=TQ M hB (H++[.cells l.row aP,.cells x.row b7]) [] (w:=rX l.vowels x s) (a:=a') (T:=bt)
 rw [← rX] at h1;simp only [kv_cons,kv_nil,Int.ofNat_zero,lo_app3,LI,lo_app0,lo_len,lo_len1,lo_len0,Nat.zero_add,Nat.reduceAdd,Nat.add_assoc,(show bTok [] = .tok 0 dj from rfl),(show ∀ a n T,lK a n [] T = .cells [a,.slice (.own n) 1 []] T from fun _ _ _=>rfl)] at h1 h2 h3;simp (maxSteps:=3000000) (maxDischargeDepth:=6) +contextual -implicitDefEqProofs only [amC M,↓amD,Nat.reduceBEq,Nat.reduceAdd,env,ab,dX,amG,AV.cell,Nat.reduceMul,Nat.reduceLeDiff,qU,Nat.add_assoc,h1,h2,h3,wk_tuple]
end
section
attribute [local congr] al br aJ ao aH aA aq ah aj aC aD
variable{E:aX}(M:bR bN E)
structure Cn (E:aX):Prop where
 truchmanref02_matches:E.fn j9=some iH
 truchmanref02_applies:E.fn ny=some dI
 truchmanref02_rewrite:E.fn nu=some iE
theorem rma{H H0:List AObj}{l:Lex}{n0:Nat}(hl:l.ok n0){pc:UInt8}{s:Str}{j:Nat}(hj:j<s.length){p:Nat}{T:TypeId}(hp:H[p]?=some (.cells l.row T))(k:List Fra):∀ (n i:Nat) (b:Bool) (He:List AObj),i+n=(l.vowels).length →
  M.go iH H0 (.c fR :: .lp ⟨(some [1,2,3,4,9,10]),[],false⟩ fR He :: .blk 0 :: .c (.lv [1,2,3,9])::k) (kv [(1,.int .u8 pc.toNat),(2,.str s),(3,.int .i64 j),(4,.ptr p 0),(9,.bool b),(10,.int .i64 i)]) H =
   (M.go iH H0 k (kv [(1,.int .u8 pc.toNat),(2,.str s),(3,.int .i64 j),(9,.bool (b||(l.vowels.drop i).any fun d=>d.toNat == s[j].toNat))]) H)
 |0,i,b,He,h=>by
  have e:i=(l.vowels).length:=by omega
  subst e;rw [ag M fR.eq_1];simp (maxSteps:=3000000) (maxDischargeDepth:=6) +contextual -implicitDefEqProofs only [amC M,↓amD,Nat.reduceBEq,Nat.reduceAdd,env,ab,iI,Nat.lt_irrefl,List.drop_length,bH,hp,List.any_nil]
 |n+1,i,b,He,h=>by
  have hi:i<(l.vowels).length:=by omega
  have hx:(l.vowels)[i]?=some (l.vowels)[i]:=ZC hi;have hd:((l.vowels).drop i)=(l.vowels)[i]::(l.vowels).drop (i+1):=ZD hi;have hm:(l.vowels)[i]∈(l.vowels):=ZJ hi;have ih:=fun b He=>rma (H:=H) (H0:=H0) (l:=l) (n0:=n0) (hl:=hl) (pc:=pc) (s:=s) (j:=j) (hj:=hj) (p:=p) (T:=T) (hp:=hp) k n (i+1) b He (by omega)
  simp only [kv_cons,kv_nil] at ih;have hxj:s[j]?=some s[j]:=ZC hj;have hlv:=hl.vowels;rw [ag M fR.eq_1];simp (maxSteps:=3000000) (maxDischargeDepth:=6) +contextual -implicitDefEqProofs only [amC M,↓amD,Nat.reduceBEq,Nat.reduceAdd,env,ab,iI,hx,hd,hi,ih,hxj,bH,hp,aZ hi hlv,List.any_cons,Bool.or_assoc]
theorem RU(c d:UInt8):(c.toNat == d.toNat)=(c == d):=by
 rw [Bool.eq_iff_iff];simp [UInt8.toNat_inj]
theorem TT{v:Str}(hv:v.all eW=true)(p:UInt8)(s:Str)(c:UInt8):sel ((p.toNat:Int) == 67) (eW c && !isV v c) (sel ((p.toNat:Int) == 86) (eW c&&isV v c) (p.toNat == c.toNat))=sel ((p.toNat:Int) == 86) (isV v c) (sel ((p.toNat:Int) == 67) (eW c && !isV v c) (p.toNat == c.toNat)):=by
 have h:isV v c=true→eW c=true:=fun h=>by
  obtain ⟨d,hd,he⟩:=List.any_eq_true.1 h;rw [← eq_of_beq he];exact ZT.1 hv d hd
 by_cases h1:(p.toNat:Int)=67
 ·have h2:((p.toNat:Int) == 86)=false:=by rw [h1];rfl
  have h3:((p.toNat:Int) == 67)=true:=by simpa using h1
  rw [h2,h3];rfl
 ·have h3:((p.toNat:Int) == 67)=false:=by simpa using h1
  rw [h3];cases hV:isV v c with
  |true=>rw [h hV];rfl
  |false=>cases ((p.toNat:Int) == 86)<;>simp [sel]
theorem D6(hN:bu E)(hR:Cn E){l:Lex}{n0:Nat}(hl:l.ok n0)(hv:l.vowels.all eW=true)(p:UInt8)(s:Str)(at_:Int)(H:List AObj) :
  M.run j9 [.agg l.row,.int .u8 p.toNat,.str s,.int .i64 at_] H=some (.ret (.bool (tX l.vowels p s at_)),H):=by
 rw [aN M hR.truchmanref02_matches rfl (c:=nM) rfl,nM]
 by_cases h:at_<0
 ·have e:IN s at_=none:=if_pos h
  have hd:decide (at_<0)=true:=decide_eq_true h;simp (maxSteps:=3000000) (maxDischargeDepth:=6) +contextual -implicitDefEqProofs only [amC M,↓amD,Nat.reduceBEq,Nat.reduceAdd,env,ab,iI,hd,tX,e,cut_app]
 ·obtain ⟨j,rfl⟩:∃ j:Nat,at_=(j:Int):=⟨at_.toNat,by omega⟩
  have e:IN s (j:Int)=s[j]? := by simp [IN,h]
  by_cases hj:j<s.length
  ·have hx:s[j]?=some s[j]:=ZC hj
   have hd:decide (s.length≤j)=false:=decide_eq_false (by omega);have h1:=fun b k He=>rma M (H:=H++[.cells l.row ae]) (H0:=H) hl (pc:=p) (s:=s) (j:=j) hj (p:=H.length) (T:=ae) (by rw [cI];rfl) k l.vowels.length 0 b He (by omega)
   simp only [kv_cons,kv_nil,Int.ofNat_zero,List.drop_zero,RU] at h1;have e2:=TT hv p s s[j];simp (maxSteps:=3000000) (maxDischargeDepth:=6) +contextual -implicitDefEqProofs only [amC M,↓amD,Nat.reduceBEq,Nat.reduceAdd,env,ab,iI,GA,hd,hx,tX,e,h1,cut_app,C3 M hN.Letter,isV];exact congrArg (fun b=>some (s8.ret (AV.bool b),H)) e2.symm
  ·have hx:s[j]?=none:=List.getElem?_eq_none (by omega)
   have hd:decide (s.length≤j)=true:=decide_eq_true (by omega);simp (maxSteps:=3000000) (maxDischargeDepth:=6) +contextual -implicitDefEqProofs only [amC M,↓amD,Nat.reduceBEq,Nat.reduceAdd,env,ab,iI,GA,hd,hx,tX,e,cut_app]
theorem YX{H H0:List AObj}(hN:bu E)(hR:Cn E){l:Lex}{n0:Nat}(hl:l.ok n0)(hv:l.vowels.all eW=true){x:aV}(hx0:x.ok n0){s:Str}{a:Nat}(ha:a≤aQ){L:Str}(hLl:L.length=x.left.length)(hL:∀ k,k<L.length→x.left[x.left.length-1-k]?=L[k]?){p q:Nat}{T T2:TypeId}(hp:H[p]?=some (.cells l.row T))(hqq:H[q]?=some (.cells x.row T2))(hc:b4 H0 H)(k:List Fra):∀ (n i:Nat) (He:List AObj),i+n=L.length →
  M.go dI H0 (.c fP :: .lp ⟨(some [2,3,4,5,9]),[],false⟩ fP He :: .blk 0 :: .c (.lv [2,3,4,5])::k) (kv [(2,.str s),(3,.int .i64 a),(4,.ptr p 0),(5,.ptr q 0),(9,.int .i64 i)]) H =
   orE (bS (JR fun k c=>tX l.vowels c s ((a:Int)-1-(k:Int))) i (L.drop i)) (H.take H0.length) (M.go dI H0 k (kv [(2,.str s),(3,.int .i64 a),(4,.ptr p 0),(5,.ptr q 0)]) H)
 |0,i,He,h=>by
  have e:i=L.length:=by omega
  subst e;rw [ag M fP.eq_1];simp (maxSteps:=3000000) (maxDischargeDepth:=6) +contextual -implicitDefEqProofs only [amC M,↓amD,Nat.reduceBEq,Nat.reduceAdd,env,ab,eV,Nat.lt_irrefl,List.drop_length,nk,hqq,(show decide (L.length<x.left.length)=false from decide_eq_false (by omega))]
 |n+1,i,He,h=>by
  have hi:i<L.length:=by omega
  have hx:L[i]?=some L[i]:=ZC hi;have hd:(L.drop i)=L[i]::L.drop (i+1):=ZD hi;have hm:L[i]∈L:=ZJ hi;have ih:=fun He=>YX (H:=H) (H0:=H0) (hN:=hN) (hR:=hR) (l:=l) (n0:=n0) (hl:=hl) (hv:=hv) (x:=x) (hx0:=hx0) (s:=s) (a:=a) (ha:=ha) (L:=L) (hLl:=hLl) (hL:=hL) (p:=p) (q:=q) (T:=T) (T2:=T2) (hp:=hp) (hqq:=hqq) hc k n (i+1)  He (by omega)
  simp only [kv_cons,kv_nil] at ih;have hq:=(hL i hi).trans hx;have hqs:=hx0.left;have hil:decide (i<x.left.length)=true:=decide_eq_true (by omega);have e1:IntKind.i64.wrap ((x.left.length:Int)-1)=((x.left.length-1:Nat):Int):=Qj (by omega) hqs
  have e2:IntKind.i64.wrap (((x.left.length-1:Nat):Int)-(i:Int))=((x.left.length-1-i:Nat):Int):=by
   simp only [aQ] at hqs;rw [dZ (by omega) (by omega)];omega
  have e3:IntKind.i64.wrap ((a:Int)-1)=(a:Int)-1:=by simp only [aQ] at ha;exact dZ (by omega) (by omega)
  have e4:IntKind.i64.wrap ((a:Int)-1-(i:Int))=(a:Int)-1-(i:Int):=by simp only [aQ] at ha hqs;exact dZ (by omega) (by omega)
  rw [ag M fP.eq_1];simp (maxSteps:=3000000) (maxDischargeDepth:=6) +contextual -implicitDefEqProofs only [amC M,↓amD,Nat.reduceBEq,Nat.reduceAdd,env,ab,eV,hx,hd,hi,ih,hq,hil,e1,e2,e3,e4,hp,hqq,bH,nk,D6 M hN hR hl hv,aZ hi (show L.length≤aQ by omega),JR,hc]
theorem YY{H H0:List AObj}(hN:bu E)(hR:Cn E){l:Lex}{n0:Nat}(hl:l.ok n0)(hv:l.vowels.all eW=true){x:aV}{s:Str}{a:Nat}(ha:a+x.frm.length+x.right.length≤aQ){p q:Nat}{T T2:TypeId}(hp:H[p]?=some (.cells l.row T))(hqq:H[q]?=some (.cells x.row T2))(hc:b4 H0 H)(k:List Fra):∀ (n i:Nat) (He:List AObj),i+n=(x.right).length →
  M.go dI H0 (.c fQ :: .lp ⟨(some [2,3,4,5,10]),[],false⟩ fQ He :: .blk 2 :: .c (.lv [])::k) (kv [(2,.str s),(3,.int .i64 a),(4,.ptr p 0),(5,.ptr q 0),(10,.int .i64 i)]) H =
   orE (bS (JR fun k c=>tX l.vowels c s ((a+x.frm.length+k:Nat):Int)) i (x.right.drop i)) (H.take H0.length) (M.go dI H0 k .leaf H)
 |0,i,He,h=>by
  have e:i=(x.right).length:=by omega
  subst e;rw [ag M fQ.eq_1];simp (maxSteps:=3000000) (maxDischargeDepth:=6) +contextual -implicitDefEqProofs only [amC M,↓amD,Nat.reduceBEq,Nat.reduceAdd,env,ab,eV,Nat.lt_irrefl,List.drop_length,nk,hqq]
 |n+1,i,He,h=>by
  have hi:i<(x.right).length:=by omega
  have hx:(x.right)[i]?=some (x.right)[i]:=ZC hi;have hd:((x.right).drop i)=(x.right)[i]::(x.right).drop (i+1):=ZD hi;have hm:(x.right)[i]∈(x.right):=ZJ hi;have ih:=fun He=>YY (H:=H) (H0:=H0) (hN:=hN) (hR:=hR) (l:=l) (n0:=n0) (hl:=hl) (hv:=hv) (x:=x) (s:=s) (a:=a) (ha:=ha) (p:=p) (q:=q) (T:=T) (T2:=T2) (hp:=hp) (hqq:=hqq) hc k n (i+1)  He (by omega)
  simp only [kv_cons,kv_nil] at ih;have e1:IntKind.i64.wrap ((a:Int)+(x.frm.length:Int))=((a+x.frm.length:Nat):Int):=by simp only [aQ] at ha;rw [dZ (by omega) (by omega)];omega
  have e2:IntKind.i64.wrap (((a+x.frm.length:Nat):Int)+(i:Int))=((a+x.frm.length+i:Nat):Int):=by simp only [aQ] at ha;rw [dZ (by omega) (by omega)];omega
  rw [ag M fQ.eq_1];simp (maxSteps:=3000000) (maxDischargeDepth:=6) +contextual -implicitDefEqProofs only [amC M,↓amD,Nat.reduceBEq,Nat.reduceAdd,env,ab,eV,hx,hd,hi,ih,e1,e2,hp,hqq,bH,nk,D6 M hN hR hl hv,aZ hi (show x.right.length≤aQ by omega),JR,hc]
theorem XQ{s f:Str}{i:Nat}(h:i≤s.length):Aj (s.drop i) f=(!decide (s.length<i+f.length)&&((s.drop i).take f.length == f)):=by
 unfold Aj;congr 1;rw [List.length_drop,Bool.eq_iff_iff];simp;omega
theorem L3(hN:bu E)(hR:Cn E){l:Lex}{n0:Nat}(hl:l.ok n0)(hv:l.vowels.all eW=true){x:aV}(hx0:x.ok n0){s:Str}{a:Nat}(hs:a≤s.length)(ha:s.length+x.frm.length+x.right.length≤aQ)(H:List AObj) :
  M.run ny [.agg l.row,.agg x.row,.str s,.int .i64 a] H=some (.ret (.bool (NP l.vowels x s a)),H):=by
 rw [aN M hR.truchmanref02_applies rfl (c:=nL) rfl,nL];have h0:=fun k He=>YX M hN hR hl hv hx0 (H:=H++[.cells l.row ae,.cells x.row b7]) (H0:=H) (s:=s) (a:=a) (by omega) (L:=x.left.reverse) (by simp) (Qy x.left) (p:=H.length) (q:=H.length+1) (T:=ae) (T2:=b7) (by rw [cI];rfl) (by rw [hp_getk];rfl) (cut_app H _) k x.left.reverse.length 0 He (by omega)
 have h1:=fun k He=>YY M hN hR hl hv (x:=x) (H:=H++[.cells l.row ae,.cells x.row b7]) (H0:=H) (s:=s) (a:=a) (by omega) (p:=H.length) (q:=H.length+1) (T:=ae) (T2:=b7) (by rw [cI];rfl) (by rw [hp_getk];rfl) (cut_app H _) k x.right.length 0 He (by omega)
 simp only [kv_cons,kv_nil,Int.ofNat_zero,List.drop_zero,Ak,List.length_reverse,hp_take] at h0 h1;have e1:IntKind.i64.wrap ((a:Int)+(x.frm.length:Int))=((a+x.frm.length:Nat):Int):=by simp only [aQ] at ha;rw [dZ (by omega) (by omega)];omega
 rw [NP,XQ hs]
 by_cases hc:s.length<a+x.frm.length
 ·have hd:decide (s.length<a+x.frm.length)=true:=decide_eq_true hc
  simp (maxSteps:=3000000) (maxDischargeDepth:=6) +contextual -implicitDefEqProofs only [amC M,↓amD,Nat.reduceBEq,Nat.reduceAdd,env,ab,eV,e1,hd,nk,cut_app]
 ·have hd:decide (s.length<a+x.frm.length)=false:=decide_eq_false hc
  have e2:=D5 (s:=s) (k:=.i64) (k':=.i64) (i:=a) (j:=a+x.frm.length) (by omega) (by omega);rw [Z5] at e2;simp (maxSteps:=3000000) (maxDischargeDepth:=6) +contextual -implicitDefEqProofs only [amC M,↓amD,Nat.reduceBEq,Nat.reduceAdd,env,ab,eV,e1,e2,hd,nk,h0,h1,cut_app,KH,IP]
end
section
attribute [local congr] al br aJ ao aH aA aq ah aj aC aD
variable{E:aX}(M:bR bN E)
theorem lg{s t:Str}(h:s.length+t.length<9223372036854775808):tc .add s t=some (.str (s++t)):=Xw h
theorem rrw(hN:bu E)(hR:Cn E){l:Lex}{n0:Nat}(hl:l.ok n0)(hv:l.vowels.all eW=true){x:aV}(hx0:x.ok n0)(h0:x.frm≠[])(ht:x.to.length≤6)(hfr:x.frm.length≤6)(hri:x.right.length≤6){s:Str}(hs:s.length≤1000000)
  {H H0:List AObj}{p q:Nat}{T T2:TypeId} (hp:H[p]?=some (.cells l.row T)) (hq:H[q]?=some (.cells x.row T2)) (k:List Fra):∀ (n i:Nat) (w:Str) (He:List AObj),s.length<i+n→i≤s.length+6→w.length≤6*i →
  M.go iE H0 (.c dm :: .lp ⟨(some [2,3,4,8,9]),[],false⟩ dm He :: .blk 0 :: .c (.lv [8])::k) (kv [(2,.str s),(3,.ptr p 0),(4,.ptr q 0),(8,.str w),(9,.int .i64 i)]) H=M.go iE H0 k (kv [(8,.str (y8 l.vowels x s n i w))]) H
 |0,i,w,He,hn,hi,hw=>by
  have e:¬ i<s.length:=by omega
  rw [y8];rw [ag M dm.eq_1];simp (maxSteps:=3000000) (maxDischargeDepth:=6) +contextual -implicitDefEqProofs only [amC M,↓amD,Nat.reduceBEq,Nat.reduceAdd,env,ab,iF,e]
 |n+1,i,w,He,hn,hi,hw=>by
  by_cases h:i<s.length
  ·have hx:s[i]?=some s[i]:=ZC h
   have hf:0<x.frm.length:=by cases hxf:x.frm with
    |nil=>exact absurd hxf h0
    |cons a b=>simp
   have e1:IntKind.i64.wrap ((i:Int)+(x.frm.length:Int))=((i+x.frm.length:Nat):Int):=by rw [dZ (by omega) (by omega)];omega
   have a1:=fun H=>L3 M hN hR hl hv hx0 (s:=s) (a:=i) (by omega) (by simp only [aQ];omega) H
   cases hA:NP l.vowels x s i with
   |true=>
    have ih:=fun He=>rrw (H0:=H0) hN hR hl hv hx0 h0 ht hfr hri hs hp hq k n (i+x.frm.length) (w++x.to) He (by omega) (by omega) (by simp;omega)
    simp only [kv_cons,kv_nil] at ih;rw [y8,hx,hA];rw [hA] at a1;rw [ag M dm.eq_1];simp (maxSteps:=3000000) (maxDischargeDepth:=6) +contextual -implicitDefEqProofs only [amC M,↓amD,Nat.reduceBEq,Nat.reduceAdd,env,ab,iF,h,hx,ih,hp,hq,bH,nk,a1,e1,lg (s:=w) (t:=x.to) (by omega)]
   |false=>
    have ih:=fun He=>rrw (H0:=H0) hN hR hl hv hx0 h0 ht hfr hri hs hp hq k n (i+1) (w++[s[i]]) He (by omega) (by omega) (by simp;omega)
    simp only [kv_cons,kv_nil] at ih;rw [y8,hx,hA];rw [hA] at a1;have e2:=D5 (s:=s) (k:=.i64) (k':=.i64) (i:=i) (j:=i+1) (by omega) (by omega);rw [Z5,ZD h] at e2;simp only [List.take_succ_cons,List.take_zero] at e2;rw [ag M dm.eq_1];simp (maxSteps:=3000000) (maxDischargeDepth:=6) +contextual -implicitDefEqProofs only [amC M,↓amD,Nat.reduceBEq,Nat.reduceAdd,env,ab,iF,h,hx,ih,hp,hq,bH,nk,a1,e2,aZ h (show s.length≤aQ by simp only [aQ];omega),lg (s:=w) (t:=[s[i]]) (by simp;omega)]
  ·have hx:s[i]?=none:=List.getElem?_eq_none (by omega)
   rw [y8,hx];rw [ag M dm.eq_1];simp (maxSteps:=3000000) (maxDischargeDepth:=6) +contextual -implicitDefEqProofs only [amC M,↓amD,Nat.reduceBEq,Nat.reduceAdd,env,ab,iF,h]
theorem L4(hN:bu E)(hR:Cn E){l:Lex}{n0:Nat}(hl:l.ok n0)(hv:l.vowels.all eW=true){x:aV}(hx0:x.ok n0)(h0:x.frm≠[])(ht:x.to.length≤6)(hfr:x.frm.length≤6)(hri:x.right.length≤6){s:Str}(hs:s.length≤1000000)(H:List AObj) :
  M.run nu [.agg l.row,.agg x.row,.str s] H=some (.ret (.tuple [.str (rX l.vowels x s),.bool (decide (((rX l.vowels x s).length:Int)≤512))]),H):=by
 rw [aN M hR.truchmanref02_rewrite rfl (c:=nK) rfl,nK];have h1:=fun k He=>rrw M hN hR hl hv hx0 h0 ht hfr hri hs (H:=H++[.cells l.row ae,.cells x.row b7]) (H0:=H) (p:=H.length) (q:=H.length+1) (T:=ae) (T2:=b7) (by rw [cI];rfl) (by rw [hp_getk];rfl) k (s.length+1) 0 [] He (by omega) (by omega) (by simp)
 rw [← rX] at h1;simp only [kv_cons,kv_nil,Int.ofNat_zero] at h1;simp (maxSteps:=3000000) (maxDischargeDepth:=6) +contextual -implicitDefEqProofs only [amC M,↓amD,Nat.reduceBEq,Nat.reduceAdd,env,ab,iF,h1,cut_app,wk_tuple]
structure NQ (l:Lex):Prop where
 vowels:l.vowels.all eW=true
 spells:∀ x∈l.spells.l,tU x=0
 short:Qv l
theorem NR{l:Lex}(h:c7 l=0):NQ l:=by
 unfold c7 at h;simp only [WW,WX] at h;rw [Qw,GP] at h;cases hv:l.vowels.all eW with
 |false=>rw [hv] at h;simp [sel] at h
 |true=>
  rw [hv] at h;cases hi:Po l.vowels with
  |false=>rw [hi] at h;simp [sel] at h
  |true=>
   rw [hi] at h;simp only [sel,beq_self_eq_true,Bool.not_true] at h;cases h1:sL l == 0 with
   |false=>rw [h1] at h;simp only [Bool.not_false] at h;rw [h] at h1;simp at h1
   |true=>
    rw [h1] at h;simp only [Bool.not_true] at h;cases h2:rE l == 0 with
    |false=>rw [h2] at h;simp only [Bool.not_false] at h;rw [h] at h2;simp at h2
    |true=>
     rw [h2] at h;simp only [Bool.not_true] at h;cases h3:tV l == 0 with
     |false=>rw [h3] at h;simp only [Bool.not_false] at h;rw [h] at h3;simp at h3
     |true=>
      rw [h3] at h;simp only [Bool.not_true] at h;cases h4:vF l == 0 with
      |false=>rw [h4] at h;simp only [Bool.not_false] at h;rw [h] at h4;simp at h4
      |true=>
       refine ⟨hv,fun x hx => ?_,NF (eq_of_beq h2)⟩;obtain ⟨k,hk⟩:=ZV hx;exact (jr (eq_of_beq h4)).2 k x hk
theorem NS{x:aV}(h:tU x=0):x.frm≠[]∧x.to.length≤6∧x.frm.length≤6∧x.right.length≤6∧x.left.length≤6:=by
 rw [NI] at h;cases c1:(x.frm == []||(!ofF [43] x.frm||(!ofF [43] x.to||(!ofF [43,35,86,67] x.left || !ofF [43,35,86,67] x.right)))) with
 |true=>rw [c1] at h;simp [sel] at h
 |false=>
  rw [c1] at h;cases c2:(decide ((6:Int)<(x.frm.length:Int))||(decide ((6:Int)<(x.to.length:Int))||(decide ((6:Int)<(x.left.length:Int))||decide ((6:Int)<(x.right.length:Int))))) with
  |true=>rw [c2] at h;simp [sel] at h
  |false=>
   simp at c1 c2;exact ⟨c1.1,by omega,by omega,by omega,by omega⟩
theorem ef{α:Type}{row:α→List AV}{l:List α}{tag:Tag}{sz:Nat}{k:IntKind}{r:Int}(h0:0≤r)(h:r.toNat<l.length):Eu sz (.slice tag sz (l.map row)) (.int k r)=some (.vptr sz (l.map row) r.toNat 0):=by
 have:=aF (row:=row) (tag:=tag) (sz:=sz) (k:=k) h;rwa [Int.toNat_of_nonneg h0] at this
end
section
attribute [local congr] al br aJ ao aH aA aq ah aj aC aD
variable{E:aX}(M:bR bN E)
structure UniE (E:aX):Prop where
 slices_Grow_api_Feat_api_Feat:E.fn mZ=some na
 slices_Concat_api_Feat_api_Feat:E.fn mb=some mj
 slices_Compact_api_Feat_api_Feat:E.fn lB=some lI
 morph_union:E.fn CA=some CB
 slices_Index_api_Feat_api_Feat:E.fn mC=some mK
 slices_Contains_api_Feat_api_Feat:E.fn ll=some ln
 morph_Subsumes_1:E.fn wK=some wW
 morph_Subsumes:E.fn EE=some yH
def W4(l:List aI):List AV:=(l.map aI.row).flatten
end
section
attribute [local congr] al br aJ ao aH aA aq ah aj aC aD
variable{E:aX}(M:bR bN E)
end
def Wek(l:List aI):Prop:=l.Pairwise fun x y=>Op.bytesLess y.name x.name=false
structure Srt (srt:List aI→List aI):Prop where
 perm:∀ l,(srt l).Perm l
 ord:∀ l,Wek (srt l)
section
attribute [local congr] al br aJ ao aH aA aq ah aj aC aD
variable{E:aX}(M:bR bN E)
structure SortE (M:bR bN E) (srt:List aI→List aI):Prop where
 none:∀ H,M.run gl [.slice .full 2 [],.fn (.func vl) [] []] H=some (.ret (.tuple []),H)
 some:∀ {l:List aI}{H:List AObj}{id:Nat}{T:TypeId},0<l.length→l.length≤4000000000→H[id]? = .some (.cells (W4 l) T) →
  M.run gl [.rslice id 0 l.length 2 true,.fn (.func vl) [] []] H = .some (.ret (.tuple []),H.set id (.cells (W4 (srt l)) T))
 len:∀ l,(srt l).length=l.length
end
section
attribute [local congr] al br aJ ao aH aA aq ah aj aC aD
variable{E:aX}(M:bR bN E)
end
section
attribute [local congr] al br aJ ao aH aA aq ah aj aC aD
variable{E:aX}(M:bR bN E)
structure ui (E:aX):Prop where
 morph_language_slot:E.fn lU=some l5
 morph_language_feats:E.fn zE=some tG
 truchmanref02_slot:E.fn mz=some qR
 morph_language_underlying:E.fn kR=some iM
 morph_language_steps:E.fn nW=some fC
 truchmanref02_steps:E.fn pE=some gi
 truchmanlaw02_SameStrings:E.fn eB=some eH
 strings_Index:E.fn o4=some sr
 strings_Count:E.fn o3=some sq
 strings_Builder_grow:E.fn nY=some k9
 strings_Builder_Grow:E.fn kQ=some k7
 strings_Replace:E.fn tu=some jo
 strings_ReplaceAll:E.fn qJ=some mF
 internal_stringslite_Index:E.fn gC=some gE
 morph_language_form:E.fn lR=some gg
 truchmanref02_form:E.fn qG=some ff
 morph_language_slots:E.fn nV=some oH
 truchmanref02_Slots:E.fn pD=some p9
def PA:aL:=⟨0,[],[],⟨.nil,[]⟩⟩
theorem kz:PA.row=[AV.int .i64 0,.str [],.str [],.slice .nil 2 []]:=rfl
def JS(l:Lex)(e:Int):Option ak:=if e<0 then none else l.entries.l[e.toNat]?
def slC(c:Option aG)(q:Int):Option aL:=
 match c with
 |none=>none
 |some c=>if q<0 then none else c.slots.l[q.toNat]?
def slF(l:Lex)(e q:Int):Option aL:=
 match JS l e with
 |none=>none
 |some x=>slC (rV l x.cls) q
theorem px(n:Nat):Wk n (.slice .nil 2 []) (.slice .nil 2 []):=wk_slice trivial (cY n)
theorem TU(hW:WdE M)(hE:mU E)(hF:ui E){l:Lex}(hl:l.ok 0)(e q:Int)(H:List AObj) :
  M.run lU [.agg l.row,.int .i64 e,.int .i64 q] H=some (.ret (.tuple [.agg ((slF l e q).getD PA).row,.bool (slF l e q).isSome]),H):=by
 rw [aN M hF.morph_language_slot rfl (c:=qa) rfl,qa];cases hr1:decide (e<0) with
 |true=>
  have e1:slF l e q=none:=by simp [slF,JS,of_decide_eq_true hr1]
  rw [e1];simp (maxSteps:=3000000) (maxDischargeDepth:=6) +contextual -implicitDefEqProofs only [amC M,↓amD,Nat.reduceBEq,Nat.reduceAdd,env,ab,ez,amG,AV.cell,Nat.reduceMul,Nat.reduceLeDiff,hr1,bH,kz,px,wk_tuple,wk_agg,Option.getD_none,Option.isSome_none]
 |false=>
  have hr0:¬ e<0:=of_decide_eq_false hr1;cases hr2:decide ((l.entries.l.length:Int)≤e) with
  |true=>
   have hrl:l.entries.l.length≤e.toNat:=by have:=of_decide_eq_true hr2;omega
   have e1:slF l e q=none:=by simp [slF,JS,hr0,List.getElem?_eq_none hrl]
   rw [e1];simp (maxSteps:=3000000) (maxDischargeDepth:=6) +contextual -implicitDefEqProofs only [amC M,↓amD,Nat.reduceBEq,Nat.reduceAdd,env,ab,ez,amG,AV.cell,Nat.reduceMul,Nat.reduceLeDiff,hr1,hr2,bH,kz,px,wk_tuple,wk_agg,Option.getD_none,Option.isSome_none]
  |false=>
   have hrl:e.toNat<l.entries.l.length:=by have:=of_decide_eq_false hr2;omega
   have hx:l.entries.l[e.toNat]?=some l.entries.l[e.toNat]:=ZC hrl;generalize hxx:l.entries.l[e.toNat]=x at hx;have e0:JS l e=some x:=by simp [JS,hr0,hx]
   cases hc:rV l x.cls with
   |none=>
    have e1:slF l e q=none:=by simp [slF,e0,hc,slC]
    have hcl:=fun H=>uA M hE hl hc H
    have hw:=fun H T L=>DH hW (g:=fq) (first:=[]) (cap:=[]) (args:=[.agg l.row,.str x.cls]) (v:=.tuple [.agg xB.row,.bool false]) hcl H T L
    have z:(((xB.slots.l.length:Nat):Int))=0:=rfl;rw [e1];cases hq:decide (q<0) with
    |true=>
     simp (maxSteps:=3000000) (maxDischargeDepth:=6) +contextual -implicitDefEqProofs only [amC M,↓amD,Nat.reduceBEq,Nat.reduceAdd,env,ab,ez,amG,AV.cell,Nat.reduceMul,Nat.reduceLeDiff,hr1,hr2,hq,hx,ef (Int.not_lt.1 hr0) hrl,wE hW,hcl,hw,bH,dg,iN,kz,mO,px,wk_tuple,wk_agg,Option.getD_none,Option.isSome_none]
    |false=>
     have hq2:decide ((0:Int)≤q)=true:=decide_eq_true (Int.not_lt.1 (of_decide_eq_false hq));simp (maxSteps:=3000000) (maxDischargeDepth:=6) +contextual -implicitDefEqProofs only [amC M,↓amD,Nat.reduceBEq,Nat.reduceAdd,env,ab,ez,amG,AV.cell,Nat.reduceMul,Nat.reduceLeDiff,hr1,hr2,hq,hq2,z,hx,ef (Int.not_lt.1 hr0) hrl,wE hW,hcl,hw,bH,dg,iN,kz,mO,px,wk_tuple,wk_agg,Option.getD_none,Option.isSome_none]
   |some c=>
    have hcl:=fun H=>rn M hE hl hc (H:=H) (Nat.zero_le _)
    have hw:=fun H T L=>DH hW (g:=fq) (first:=[]) (cap:=[]) (args:=[.agg l.row,.str x.cls]) (v:=.tuple [.agg c.row,.bool true]) hcl H T L
    cases hq:decide (q<0) with
    |true=>
     have e1:slF l e q=none:=by simp [slF,e0,hc,slC,of_decide_eq_true hq]
     rw [e1];simp (maxSteps:=3000000) (maxDischargeDepth:=6) +contextual -implicitDefEqProofs only [amC M,↓amD,Nat.reduceBEq,Nat.reduceAdd,env,ab,ez,amG,AV.cell,Nat.reduceMul,Nat.reduceLeDiff,hr1,hr2,hq,hx,ef (Int.not_lt.1 hr0) hrl,wE hW,hcl,hw,bH,dg,iN,kz,mO,px,wk_tuple,wk_agg,Option.getD_none,Option.isSome_none]
    |false=>
     have hq0:¬ q<0:=of_decide_eq_false hq;cases hq2:decide ((c.slots.l.length:Int)≤q) with
     |true=>
      have hql:c.slots.l.length≤q.toNat:=by have:=of_decide_eq_true hq2;omega
      have e1:slF l e q=none:=by simp [slF,e0,hc,slC,hq0,List.getElem?_eq_none hql]
      rw [e1];simp (maxSteps:=3000000) (maxDischargeDepth:=6) +contextual -implicitDefEqProofs only [amC M,↓amD,Nat.reduceBEq,Nat.reduceAdd,env,ab,ez,amG,AV.cell,Nat.reduceMul,Nat.reduceLeDiff,hr1,hr2,hq,hq2,hx,ef (Int.not_lt.1 hr0) hrl,wE hW,hcl,hw,bH,dg,iN,kz,mO,px,wk_tuple,wk_agg,Option.getD_none,Option.isSome_none]
     |false=>
      have hql:q.toNat<c.slots.l.length:=by have:=of_decide_eq_false hq2;omega
      have hs:c.slots.l[q.toNat]?=some c.slots.l[q.toNat]:=ZC hql;have hcm:c∈l.classes.l:=List.mem_of_find?_eq_some hc;have hsk:=((hl.classes.all c hcm).slots.all _ (ZJ hql)).mono (Nat.zero_le H.length);generalize c.slots.l[q.toNat]=s at hs hsk;have e1:slF l e q=some s:=by simp [slF,e0,hc,slC,hq0,hs]
      rw [e1];simp (maxSteps:=3000000) (maxDischargeDepth:=6) +contextual -implicitDefEqProofs only [amC M,↓amD,Nat.reduceBEq,Nat.reduceAdd,env,ab,ez,amG,AV.cell,Nat.reduceMul,Nat.reduceLeDiff,hr1,hr2,hq,hq2,hx,hs,ef (Int.not_lt.1 hr0) hrl,ef (Int.not_lt.1 hq0) hql,wE hW,hcl,hw,bH,dg,iN,mY,kz,mO,hsk.wk,wk_tuple,wk_agg,Option.getD_some,Option.isSome_some]
end
section
attribute [local congr] al br aJ ao aH aA aq ah aj aC aD
variable{E:aX}(M:bR bN E)
theorem uC{l:Lex}(h:c7 l=0):rE l=0∧tV l=0∧vF l=0∧vG l=0:=
 ⟨pw h 2 _ rfl,pw h 3 _ rfl,pw h 4 _ rfl,pw h 5 _ rfl⟩
structure vg (l:Lex) (x:ak) (c:aG):Prop where
 cls:rV l x.cls=some c
 lem:uz x.lem=true
 short:x.feats.l.length≤8∧y6 x.feats.l=true
 clash:∀ s∈c.slots.l,oY x.feats.l s.feats.l=false
 forms:sJ (CG c.slots.l.length x.forms.l) 0 x.forms.l=0
theorem c8{b:Bool}{x y:Int}(hx:x≠0)(h:sel b x y=0):b=false∧y=0:=by
 cases b with
 |true=>exact absurd h hx
 |false=>exact ⟨rfl,h⟩
theorem Fp{l:Lex}(h:c7 l=0){k:Nat}{x:ak}(hx:l.entries.l[k]?=some x):∃ c,vg l x c:=by
 have h3:=(jr (uC h).2.1).2 k x hx;unfold w6 at h3;cases hc:rV l x.cls with
 |none=>
  rw [hc] at h3;exact absurd (c8 (by decide) h3).2 (by decide)
 |some c=>
  rw [hc] at h3;obtain ⟨a1,h3⟩:=c8 (by decide) h3;obtain ⟨_,h3⟩:=c8 (by decide) h3;cases hb:mN l x.feats.l == 0 with
  |false=>
   rw [hb] at h3;rw [show mN l x.feats.l=0 from h3] at hb;exact absurd hb (by decide)
  |true=>
   rw [hb] at h3;obtain ⟨a2,h3⟩:=c8 (b:=c.slots.l.any fun s=>oY x.feats.l s.feats.l) (by decide) h3;exact ⟨c,hc,by simpa using a1,bundle_ok (eq_of_beq hb),by simpa using a2,h3⟩
theorem L5{l:Lex}(h:c7 l=0){c:aG}(hc:c∈l.classes.l){s:aL}(hs:s∈c.slots.l):xA l s=0:=by
 obtain ⟨k,hk⟩:=ZV hc;have h2:=(jr (uC h).1).2 k c hk;unfold w5 at h2;have h3:=(c8 (by decide) (c8 (by decide) (c8 (by decide) (c8 (by decide) h2).2).2).2).2;obtain ⟨j,hj⟩:=ZV hs;exact (jr h3).2 j s hj
structure TV (s:aL):Prop where
 cut:0≤s.cut∧s.cut≤24
 pre:s.pre.length≤6∧s.pre.all eW=true
 add:s.add.length≤6∧s.add.all eW=true
 feats:s.feats.l.length≤8∧y6 s.feats.l=true
theorem TW{l:Lex}{s:aL}(h:xA l s=0):TV s:=by
 unfold xA at h;obtain ⟨h1,h2⟩:=c8 (by decide) h;simp only [Bool.or_eq_false_iff,decide_eq_false_iff_not,Bool.not_eq_false',qW,Bool.and_eq_true,decide_eq_true_eq] at h1;refine ⟨⟨by omega,by omega⟩,⟨by omega, ?_⟩,⟨by omega, ?_⟩,bundle_ok h2⟩
 ·simp_all
 ·simp_all
structure At (l:Lex) (e q:Int) (x:ak) (c:aG) (s:aL):Prop where
 e0:0≤e
 q0:0≤q
 el:e.toNat<l.entries.l.length
 ex:l.entries.l[e.toNat]?=some x
 ent:vg l x c
 cm:c∈l.classes.l
 ql:q.toNat<c.slots.l.length
 sx:c.slots.l[q.toNat]?=some s
 sok:TV s
theorem RV{T L:List Nat}{r:Option Out}(h:apart T L):uu bN T L r=r:=by
 unfold uu;rw [LG h]
theorem XR(n k:Nat):Wk n (.slice .nil k []) (.slice .nil k []):=wk_slice trivial (cY n)
end
section
attribute [local congr] al br aJ ao aH aA aq ah aj aC aD
variable{E:aX}(M:bR bN E)
theorem At.clash{l:Lex}{e q:Int}{x:ak}{c:aG}{s:aL}(h:At l e q x c s):oY x.feats.l s.feats.l=false:=h.ent.clash s (ZG h.sx)
theorem At.sl{l:Lex}{e q:Int}{x:ak}{c:aG}{s:aL}(hk:c7 l=0)(h:At l e q x c s):slF l e q=some s:=by
 have h0:¬ e<0:=by have:=h.e0;omega
 have h1:¬ q<0:=by have:=h.q0;omega
 simp only [slF,JS,h0,if_false,h.ex,h.ent.cls,slC,h1,h.sx]
theorem KI(hR:uB E)(hF:ui E){l:Lex}(hl:l.ok 0)(hk:c7 l=0)(e q:Int)(H:List AObj) :
  M.run mz [.agg l.row,.int .i64 e,.int .i64 q] H=some (.ret (.tuple [.agg ((slF l e q).getD PA).row,.bool (slF l e q).isSome]),H):=by
 rw [aN M hF.truchmanref02_slot rfl (c:=qQ) rfl,qQ];cases hr1:decide (e<0) with
 |true=>
  have e1:slF l e q=none:=by simp [slF,JS,of_decide_eq_true hr1]
  rw [e1];simp (maxSteps:=3000000) (maxDischargeDepth:=6) +contextual -implicitDefEqProofs only [amC M,↓amD,Nat.reduceBEq,Nat.reduceAdd,env,ab,jV,amG,AV.cell,Nat.reduceMul,Nat.reduceLeDiff,hr1,bH,kz,px,wk_tuple,wk_agg,Option.getD_none,Option.isSome_none]
 |false=>
  have hr0:¬ e<0:=of_decide_eq_false hr1;cases hr2:decide ((l.entries.l.length:Int)≤e) with
  |true=>
   have hrl:l.entries.l.length≤e.toNat:=by have:=of_decide_eq_true hr2;omega
   have e1:slF l e q=none:=by simp [slF,JS,hr0,List.getElem?_eq_none hrl]
   rw [e1];simp (maxSteps:=3000000) (maxDischargeDepth:=6) +contextual -implicitDefEqProofs only [amC M,↓amD,Nat.reduceBEq,Nat.reduceAdd,env,ab,jV,amG,AV.cell,Nat.reduceMul,Nat.reduceLeDiff,hr1,hr2,bH,kz,px,wk_tuple,wk_agg,Option.getD_none,Option.isSome_none]
  |false=>
   have hrl:e.toNat<l.entries.l.length:=by have:=of_decide_eq_false hr2;omega
   have hx:l.entries.l[e.toNat]?=some l.entries.l[e.toNat]:=ZC hrl;generalize l.entries.l[e.toNat]=x at hx;have e0:JS l e=some x:=by simp [JS,hr0,hx]
   obtain ⟨c,hE⟩:=Fp hk hx;have hcl:=fun H=>w7 M hR hl x.cls H
   rcases oX (fun c:aG=>c.name == x.cls) l.classes.l 0 with ⟨h1,h2⟩ | ⟨j,c',h1,h2,h3⟩
   ·exact absurd (hE.cls.symm.trans h2) (by simp)
   obtain rfl:c=c':=Option.some.inj (hE.cls.symm.trans h3);rw [h1,Z4] at hcl;have hj:j<l.classes.l.length:=(ZB.1 h2).1;cases hq:decide (q<0) with
   |true=>
    have e1:slF l e q=none:=by simp [slF,e0,hE.cls,slC,of_decide_eq_true hq]
    rw [e1];simp (maxSteps:=3000000) (maxDischargeDepth:=6) +contextual -implicitDefEqProofs only [amC M,↓amD,Nat.reduceBEq,Nat.reduceAdd,env,ab,jV,amG,AV.cell,Nat.reduceMul,Nat.reduceLeDiff,hr1,hr2,hq,hx,h2,ef (Int.not_lt.1 hr0) hrl,aF hj,hcl,bH,dg,iN,kz,px,wk_tuple,wk_agg,Option.getD_none,Option.isSome_none]
   |false=>
    have hq0:¬ q<0:=of_decide_eq_false hq;cases hq2:decide ((c.slots.l.length:Int)≤q) with
    |true=>
     have hql:c.slots.l.length≤q.toNat:=by have:=of_decide_eq_true hq2;omega
     have e1:slF l e q=none:=by simp [slF,e0,hE.cls,slC,hq0,List.getElem?_eq_none hql]
     rw [e1];simp (maxSteps:=3000000) (maxDischargeDepth:=6) +contextual -implicitDefEqProofs only [amC M,↓amD,Nat.reduceBEq,Nat.reduceAdd,env,ab,jV,amG,AV.cell,Nat.reduceMul,Nat.reduceLeDiff,hr1,hr2,hq,hq2,hx,h2,ef (Int.not_lt.1 hr0) hrl,aF hj,hcl,bH,dg,iN,kz,px,wk_tuple,wk_agg,Option.getD_none,Option.isSome_none]
    |false=>
     have hql:q.toNat<c.slots.l.length:=by have:=of_decide_eq_false hq2;omega
     have hs:c.slots.l[q.toNat]?=some c.slots.l[q.toNat]:=ZC hql;have hcm:c∈l.classes.l:=List.mem_of_find?_eq_some hE.cls;have hsk:=((hl.classes.all c hcm).slots.all _ (ZJ hql)).mono (Nat.zero_le H.length);generalize c.slots.l[q.toNat]=s at hs hsk;have e1:slF l e q=some s:=by simp [slF,e0,hE.cls,slC,hq0,hs]
     rw [e1];simp (maxSteps:=3000000) (maxDischargeDepth:=6) +contextual -implicitDefEqProofs only [amC M,↓amD,Nat.reduceBEq,Nat.reduceAdd,env,ab,jV,amG,AV.cell,Nat.reduceMul,Nat.reduceLeDiff,hr1,hr2,hq,hq2,hx,hs,h2,ef (Int.not_lt.1 hr0) hrl,ef (Int.not_lt.1 hq0) hql,aF hj,hcl,bH,dg,iN,mY,kz,hsk.wk,wk_tuple,wk_agg,Option.getD_some,Option.isSome_some]
end
section
attribute [local congr] al br aJ ao aH aA aq ah aj aC aD
variable{E:aX}(M:bR bN E)
def Co(s:aL)(a:Str):Str:=sel (s.pre == []) a ((s.pre++[43])++a)
def xo(s:aL)(b:Str):Str:=sel (s.add == []) b (b++([43]++s.add))
def GB(lem:Str)(s:aL):Str:=xo s (Co s (lem.take (lem.length-s.cut.toNat)))
def Fq(lem:Str)(s:aL):Option Str:=sel (decide ((lem.length:Int)<s.cut)) none (some (GB lem s))
def PB(o:Option Str):AV:=.tuple [.str (o.getD []),.bool o.isSome]
theorem y9{s:Str}(h:uz s=true):s.length≤24:=by
 simp only [uz,Kl,Bool.and_eq_true,decide_eq_true_eq] at h;omega
theorem IS(s:aL)(a:Str)(h:s.pre.length≤6):(Co s a).length≤a.length+7:=by
 unfold Co;cases s.pre == []<;>simp [sel]<;>omega
theorem TX(s:aL)(a:Str)(h:s.add.length≤6):(xo s a).length≤a.length+7:=by
 unfold xo;cases s.add == []<;>simp [sel];omega
theorem IT{lem:Str}{s:aL}(h:lem.length≤24)(hs:TV s):(GB lem s).length≤38:=by
 have h1:=TX s (Co s (lem.take (lem.length-s.cut.toNat))) hs.add.1;have h2:=IS s (lem.take (lem.length-s.cut.toNat)) hs.pre.1;unfold GB;simp at h2;omega
theorem run_underlying(hF:ui E){l:Lex}{e q:Int}{x:ak}{c:aG}{s:aL}(hA:At l e q x c s)(H:List AObj) :
  M.run kR [.agg l.row,.int .i64 e,.agg s.row] H=some (.ret (PB (Fq x.lem s)),H):=by
 rw [aN M hF.morph_language_underlying rfl (c:=k8) rfl,k8];have hl:=y9 hA.ent.lem;have hp:=hA.sok.pre.1;have ha:=hA.sok.add.1;cases hd:decide ((x.lem.length:Int)<s.cut) with
 |true=>
  have e1:PB (Fq x.lem s) = .tuple [.str [],.bool false]:=by simp [PB,Fq,hd,sel]
  rw [e1];simp (maxSteps:=3000000) (maxDischargeDepth:=6) +contextual -implicitDefEqProofs only [amC M,↓amD,Nat.reduceBEq,Nat.reduceAdd,env,ab,eJ,amG,AV.cell,Nat.reduceMul,Nat.reduceLeDiff,hd,hA.ex,ef hA.e0 hA.el,bH,dg,mY,wk_tuple]
 |false=>
  obtain ⟨m,hm⟩:=Int.eq_ofNat_of_zero_le hA.sok.cut.1;have hml:m≤x.lem.length:=by have:=of_decide_eq_false hd;omega
  have hw:IntKind.i64.wrap ((x.lem.length:Int)-(m:Int))=((x.lem.length-m:Nat):Int):=by rw [dZ (by omega) (by omega)];omega
  have hsl:=Pz (s:=x.lem) (k:=.i64) (i:=x.lem.length-m) (by omega);have e1:PB (Fq x.lem s) = .tuple [.str (GB x.lem s),.bool true]:=by simp [PB,Fq,hd,sel]
  have e2:GB x.lem s=xo s (Co s (x.lem.take (x.lem.length-m))):=by rw [GB,hm];rfl
  have hal:(x.lem.take (x.lem.length-m)).length≤24:=by simp;omega
  rw [e1,e2];generalize x.lem.take (x.lem.length-m)=a at hsl hal;rw [hm] at hd;have hdn:decide (x.lem.length<m)=false:=decide_eq_false (by omega);have hbl:=IS s a hp;cases hp0:s.pre == [] with
  |true=>
   have e3:Co s a=a:=by simp [Co,hp0,sel]
   rw [e3] at hbl ⊢;cases ha0:s.add == [] with
   |true=>
    have e4:xo s a=a:=by simp [xo,ha0,sel]
    rw [e4];simp (maxSteps:=3000000) (maxDischargeDepth:=6) +contextual -implicitDefEqProofs only [amC M,↓amD,Nat.reduceBEq,Nat.reduceAdd,env,ab,eJ,amG,AV.cell,Nat.reduceMul,Nat.reduceLeDiff,hd,hdn,hm,hw,hsl,hp0,ha0,hA.ex,ef hA.e0 hA.el,bH,dg,mY,wk_tuple]
   |false=>
    have e4:xo s a=a++([43]++s.add):=by simp [xo,ha0,sel]
    rw [e4];simp (maxSteps:=3000000) (maxDischargeDepth:=6) +contextual -implicitDefEqProofs only [amC M,↓amD,Nat.reduceBEq,Nat.reduceAdd,env,ab,eJ,amG,AV.cell,Nat.reduceMul,Nat.reduceLeDiff,hd,hdn,hm,hw,hsl,hp0,ha0,lg (s:=[43]) (t:=s.add) (by simp;omega),lg (s:=a) (t:=43::s.add) (by simp;omega),hA.ex,ef hA.e0 hA.el,bH,dg,mY,wk_tuple]
  |false=>
   have e3:Co s a=(s.pre++[43])++a:=by simp [Co,hp0,sel]
   rw [e3] at hbl ⊢;cases ha0:s.add == [] with
   |true=>
    have e4:xo s ((s.pre++[43])++a)=(s.pre++[43])++a:=by simp [xo,ha0,sel]
    rw [e4];simp (maxSteps:=3000000) (maxDischargeDepth:=6) +contextual -implicitDefEqProofs only [amC M,↓amD,Nat.reduceBEq,Nat.reduceAdd,env,ab,eJ,amG,AV.cell,Nat.reduceMul,Nat.reduceLeDiff,hd,hdn,hm,hw,hsl,hp0,ha0,lg (s:=s.pre) (t:=[43]) (by simp;omega),lg (s:=s.pre++[43]) (t:=a) (by simp;omega),hA.ex,ef hA.e0 hA.el,bH,dg,mY,wk_tuple]
   |false=>
    have e4:xo s ((s.pre++[43])++a)=((s.pre++[43])++a)++([43]++s.add):=by simp [xo,ha0,sel]
    rw [e4];simp (maxSteps:=3000000) (maxDischargeDepth:=6) +contextual -implicitDefEqProofs only [amC M,↓amD,Nat.reduceBEq,Nat.reduceAdd,env,ab,eJ,amG,AV.cell,Nat.reduceMul,Nat.reduceLeDiff,hd,hdn,hm,hw,hsl,hp0,ha0,lg (s:=s.pre) (t:=[43]) (by simp;omega),lg (s:=s.pre++[43]) (t:=a) (by simp;omega),lg (s:=[43]) (t:=s.add) (by simp;omega),lg (s:=s.pre++[43]++a) (t:=43::s.add) (by simp at hbl ⊢;omega),hA.ex,ef hA.e0 hA.el,bH,dg,mY,wk_tuple]
def uk(v:Str):List Str→Str→List aV→Option (List Str)
 |o,_,[]=>some o
 |o,u,x::l=>sel (decide (((rX v x u).length:Int)≤512)) (uk v (o++[rX v x u]) (rX v x u) l) none
def noS:AV:=.tuple [.slice .any 1 [],.bool false]
def BN(o:Option (List Str)):AV:=.tuple [.slice .any 1 ((o.getD []).map bJ),.bool o.isSome]
theorem VX{H0:List AObj}(n m:Nat)(T:TypeId)(L:List AObj):b4 (H0++[.tok n T]) (H0++(.tok m T::L)):=⟨by simp,fun i x hi hx=>by
 rw [ZH] at hi
 by_cases h:i<H0.length
 ·rw [ZE h] at hx ⊢;exact .inl hx
 ·obtain rfl:i=H0.length:=by simp at hi;omega
  rw [cI] at hx;obtain rfl:=Option.some.inj hx;exact .inr trivial⟩
theorem TY(H0:List AObj)(o:AObj)(L:List AObj):(H0++(o::L)).take (H0.length+1)=H0++[o]:=by
 rw [show H0++(o::L)=(H0++[o])++L by simp,show H0.length+1=(H0++[o]).length by simp,List.take_left]
theorem L6(n:Nat)(l:List Str):nQ n (l.map bJ):=by
 rw [rowsWk_map];exact fun _ _=>⟨wk_str _ _,trivial⟩
theorem L7(n:Nat)(s:Str):WkL n (bJ s) (bJ s):=⟨wk_str _ _,trivial⟩
def JT(M:bR bN E)(fn:AFn)(d:Nat)(H0:List AObj)(k:List Fra)(r:Option (List Str))(H:List AObj):Option Out:=
 match r with
 |none=>some (.ret noS,H.take H0.length)
 |some r=>M.go fn H0 k (kv [(d,.slice (.own H.length) 1 (r.map bJ))]) (H++[.tok (r.length*1) aE])
theorem GQ{α:Type}{row:α→List AV}{l:List α}{x:α}{r:List AV}{sz bytes:Nat}{e:TypeId}(H L:List AObj)(h1:r.length=sz)(h2:r.all AV.cell=true)(h3:r.map AV.strip=row x)
  (hl:(l.length+1)*bytes≤140737488355328) (hl2:l.length+1≤4611686018427387904) :
  rap false (H++(.tok (l.length*sz) e::L)) e sz bytes false (.slice (.own H.length) sz (l.map row)) (.slice .full sz [r])=some (.slice (.own H.length) sz ((l++[x]).map row),H++(.tok ((l++[x]).length*sz) e::L)):=by
 have hr:(r.length=sz∧∀ x∈r,x.cell=true):=⟨h1,by simpa using h2⟩
 simp only [rap,xE,uq,List.length_map,List.length_cons,List.length_nil,Nat.zero_add,or_true,if_true,hl,hl2,HU h1 h2,and_true,true_and,cI,List.getElem?_cons_zero,hp_set0,List.set_cons_zero,List.map_cons,List.map_nil,h3,List.map_append,List.length_append,Nat.add_mul,Nat.one_mul];rw [Nat.add_mul,Nat.one_mul] at hl;rw [if_pos hl]
theorem stl(hN:bu E)(hS:SpE E)(hX:sM M)(hB:s6 E){l:Lex}(hl:l.ok 0)(hV:NQ l){H H0:List AObj}(hc:b4 H0 H){p:Nat}{T:TypeId}(hp:H[p]?=some (.cells l.row T))(k:List Fra) :
  ∀ (n i:Nat) (o:List Str) (u:Str) (He:List AObj),He=H++[.tok (o.length*1) aE]→i+n=l.spells.l.length→u.length≤1000→o.length+n≤1000 →
  M.go fC H0 (.c eo :: .lp ⟨(some [3,8,10,26,27,28]),[(10,1,aE)],true⟩ eo He :: .blk 0 :: .c (.lv [10])::k) (kv [(3,.ptr p 0),(8,.str u),(10,.slice (.own H.length) 1 (o.map bJ)),(26,.slice l.spells.tag 4 (l.spells.l.map aV.row)),(27,.int .i64 l.spells.l.length),(28,.int .i64 i)]) (H++[.tok (o.length*1) aE]) =
   JT M fC 10 H0 k (uk l.vowels o u (l.spells.l.drop i)) H
 |0,i,o,u,He,hHe,h,hu,ho=>by
  have e:i=l.spells.l.length:=by omega
  subst e;rw [List.drop_length,uk,JT];rw [ag M eo.eq_1];simp (maxSteps:=3000000) (maxDischargeDepth:=6) +contextual -implicitDefEqProofs only [amC M,↓amD,Nat.reduceBEq,Nat.reduceAdd,env,ab,fD,Nat.lt_irrefl]
 |n+1,i,o,u,He,hHe,h,hu,ho=>by
  subst hHe;have hi:i<l.spells.l.length:=by omega
  have hx:l.spells.l[i]?=some l.spells.l[i]:=ZC hi;have hd:(l.spells.l.drop i)=l.spells.l[i]::l.spells.l.drop (i+1):=ZD hi;have hm:l.spells.l[i]∈l.spells.l:=ZJ hi;obtain ⟨p1,p2,p3,p4,p5⟩:=NS (hV.spells _ hm);have hx0:=hl.spells.all _ hm;have hsp:=fun H=>RT M hN hS hX hB (l:=l) hx0 p1 p2 p3 p4 (s:=u) (by omega) H
  have hp':=fun L=>bZ (L:=L) hp
  have hpl:=(ZB.1 hp).1;have w1:Wk (H.length+1) (.ptr p 0) (.ptr p 0):=wk_ptr (by omega);have w2:Wk (H.length+1) (.slice l.spells.tag 4 (l.spells.l.map aV.row)) (.slice l.spells.tag 4 (l.spells.l.map aV.row)):=(hl.spells.mono (Nat.zero_le _) (fun _ h=>h.mono (Nat.zero_le _))).wk (fun _ h=>h.wk);have w3:=fun l:List Str=>wk_slice (n:=H.length+1) (esz:=1) (tag:=.own H.length) (by simp [HO]) (L6 _ l)
  have hcm:=fun L=>tr hc L
  have htm:=fun L=>EC hc L
  rw [hd,uk];generalize l.spells.l[i]=x at hx hsp;generalize rX l.vowels x u=u' at hsp;cases hdl:decide ((u'.length:Int)≤512) with
  |false=>
   simp only [sel,JT];simp only [hdl] at hsp;rw [ag M eo.eq_1];simp (maxSteps:=3000000) (maxDischargeDepth:=6) +contextual -implicitDefEqProofs only [amC M,↓amD,Nat.reduceBEq,Nat.reduceAdd,env,ab,fD,amG,AV.cell,Nat.reduceMul,Nat.reduceLeDiff,hx,hi,hsp,hp',aF hi,bH,nk,hcm,htm,noS,cY,wk_tuple]
  |true=>
   simp only [hdl] at hsp;have hul:u'.length≤1000:=by have:=of_decide_eq_true hdl;omega
   have ap:=fun L=>GQ (row:=bJ) (l:=o) (x:=u') (r:=[.str u']) (sz:=1) (bytes:=16) (e:=aE) H L rfl rfl rfl (by omega) (by omega)
   have ih:=stl hN hS hX hB hl hV hc hp k n (i+1) (o++[u']) u' _ rfl (by omega) hul (by simp;omega);simp only [kv_cons,kv_nil] at ih;simp only [sel];rw [ag M eo.eq_1];simp (maxSteps:=3000000) (maxDischargeDepth:=6) +contextual -implicitDefEqProofs only [amC M,↓amD,Nat.reduceBEq,Nat.reduceAdd,env,ab,fD,amG,AV.cell,Nat.reduceMul,Nat.reduceLeDiff,hx,hi,hsp,hp',ap,ih,w1,w2,w3,VX,TY,aZ hi hl.spells.len,aF hi,bH,nk]
def qk(l:Lex)(x:ak)(s:aL):Option (List Str):=
 match Fq x.lem s with
 |none=>none
 |some u=>uk l.vowels [u] u l.spells.l
theorem RW(hN:bu E)(hS:SpE E)(hX:sM M)(hB:s6 E)(hF:ui E){l:Lex}(hl:l.ok 0)(hV:NQ l){e q:Int}{x:ak}{c:aG}{s:aL}(hA:At l e q x c s)(hsl:l.spells.l.length≤900)(H:List AObj) :
  M.run nW [.agg l.row,.int .i64 e,.agg s.row] H=some (.ret (BN (qk l x s)),H):=by
 rw [aN M hF.morph_language_steps rfl (c:=oI) rfl,oI];have hu:=fun H=>run_underlying M hF hA H
 cases ho:Fq x.lem s with
 |none=>
  have e1:BN (qk l x s)=noS:=by simp [BN,qk,ho,noS]
  rw [e1];simp only [ho,PB,Option.getD_none,Option.isSome_none] at hu;simp (maxSteps:=3000000) (maxDischargeDepth:=6) +contextual -implicitDefEqProofs only [amC M,↓amD,Nat.reduceBEq,Nat.reduceAdd,env,ab,fD,amG,AV.cell,Nat.reduceMul,Nat.reduceLeDiff,hu,bH,mY,noS,cY,wk_tuple]
 |some u=>
  have e1:qk l x s=uk l.vowels [u] u l.spells.l:=by simp [qk,ho]
  have hul:u.length≤1000:=by
   have:=IT (y9 hA.ent.lem) hA.sok;unfold Fq at ho;revert ho;cases decide ((x.lem.length:Int)<s.cut) with
   |true=>simp [sel]
   |false=>intro ho;rw [← Option.some.inj ho];omega
  rw [e1];simp only [ho,PB,Option.getD_some,Option.isSome_some] at hu;have h1:=fun k=>stl M hN hS hX hB hl hV (H:=H++[.cells l.row aP,.cells s.row aS]) (H0:=H) (cut_app H _) (p:=H.length) (T:=aP) (by rw [cI];rfl) k l.spells.l.length 0 [u] u _ rfl (by omega) hul (by simp;omega)
  simp only [kv_cons,kv_nil,Int.ofNat_zero,List.drop_zero,List.length_append,List.length_cons,List.length_nil,Nat.zero_add,Nat.reduceAdd,List.append_assoc,List.cons_append,List.nil_append,List.map_cons,List.map_nil,bJ] at h1;simp (maxSteps:=3000000) (maxDischargeDepth:=6) +contextual -implicitDefEqProofs only [amC M,↓amD,Nat.reduceBEq,Nat.reduceAdd,env,ab,fD,amG,AV.cell,Nat.reduceMul,Nat.reduceLeDiff,hu,h1,bH,mY,wk_tuple,bJ]
  generalize uk l.vowels [u] u l.spells.l=r;cases r with
  |none=>simp only [JT,hp_take];rfl
  |some r=>
   simp only [JT,kv_cons,kv_nil];simp (maxSteps:=3000000) (maxDischargeDepth:=6) +contextual -implicitDefEqProofs only [amC M,↓amD,Nat.reduceBEq,Nat.reduceAdd,env,ab,fD,L6,L7,cut_app,implies_true,wk_tuple];rfl
theorem yc{l:Lex}(h:c7 l=0):l.spells.l.length≤16:=by
 have:=(jr (uC h).2.2.1).1;omega
end
section
attribute [local congr] al br aJ ao aH aA aq ah aj aC aD
variable{E:aX}(M:bR bN E)
theorem YZ(hN:bu E)(hS:Cn E){l:Lex}(hl:l.ok 0)(hV:NQ l){H H0:List AObj}(hc:b4 H0 H){p:Nat}{T:TypeId}(hp:H[p]?=some (.cells l.row T))(k:List Fra) :
  ∀ (n i:Nat) (o:List Str) (u:Str) (He:List AObj),i+n=l.spells.l.length→u.length≤1000→o.length+n≤1000 →
  M.go gi H0 (.c de :: .lp ⟨(some [3,11,12,13]),[(12,1,aE)],false⟩ de He :: .blk 0 :: .c (.lv [12])::k) (kv [(3,.ptr p 0),(11,.str u),(12,.slice (.own H.length) 1 (o.map bJ)),(13,.int .i64 i)]) (H++[.tok (o.length*1) aE]) =
   JT M gi 12 H0 k (uk l.vowels o u (l.spells.l.drop i)) H
 |0,i,o,u,He,h,hu,ho=>by
  have e:i=l.spells.l.length:=by omega
  subst e;have hp':=fun L=>bZ (L:=L) hp
  rw [List.drop_length,uk,JT];rw [ag M de.eq_1];simp (maxSteps:=3000000) (maxDischargeDepth:=6) +contextual -implicitDefEqProofs only [amC M,↓amD,Nat.reduceBEq,Nat.reduceAdd,env,ab,db,Nat.lt_irrefl,hp',bH]
 |n+1,i,o,u,He,h,hu,ho=>by
  have hi:i<l.spells.l.length:=by omega
  have hx:l.spells.l[i]?=some l.spells.l[i]:=ZC hi;have hd:(l.spells.l.drop i)=l.spells.l[i]::l.spells.l.drop (i+1):=ZD hi;have hm:l.spells.l[i]∈l.spells.l:=ZJ hi;obtain ⟨p1,p2,p3,p4,p5⟩:=NS (hV.spells _ hm);have hx0:=hl.spells.all _ hm;have hsp:=fun H=>L4 M hN hS hl hV.vowels hx0 p1 p2 p3 p4 (s:=u) (by omega) H
  have hp':=fun L=>bZ (L:=L) hp
  have hcm:=fun L=>tr hc L
  have htm:=fun L=>EC hc L
  rw [hd,uk];generalize l.spells.l[i]=x at hx hsp;generalize rX l.vowels x u=u' at hsp;cases hdl:decide ((u'.length:Int)≤512) with
  |false=>
   simp only [sel,JT];simp only [hdl] at hsp;rw [ag M de.eq_1];simp (maxSteps:=3000000) (maxDischargeDepth:=6) +contextual -implicitDefEqProofs only [amC M,↓amD,Nat.reduceBEq,Nat.reduceAdd,env,ab,db,amG,AV.cell,Nat.reduceMul,Nat.reduceLeDiff,hx,hi,hsp,hp',aF hi,bH,nk,hcm,htm,noS,cY,wk_tuple]
  |true=>
   simp only [hdl] at hsp;have hul:u'.length≤1000:=by have:=of_decide_eq_true hdl;omega
   have ap:=fun L=>GQ (row:=bJ) (l:=o) (x:=u') (r:=[.str u']) (sz:=1) (bytes:=16) (e:=aE) H L rfl rfl rfl (by omega) (by omega)
   have ih:=fun He=>YZ hN hS hl hV hc hp k n (i+1) (o++[u']) u' He (by omega) hul (by simp;omega)
   simp only [kv_cons,kv_nil] at ih;simp only [sel];rw [ag M de.eq_1];simp (maxSteps:=3000000) (maxDischargeDepth:=6) +contextual -implicitDefEqProofs only [amC M,↓amD,Nat.reduceBEq,Nat.reduceAdd,env,ab,db,amG,AV.cell,Nat.reduceMul,Nat.reduceLeDiff,hx,hi,hsp,hp',ap,ih,aZ hi hl.spells.len,aF hi,bH,nk]
theorem PC(hN:bu E)(hS:Cn E){l:Lex}(hl:l.ok 0)(hV:NQ l)(hsl:l.spells.l.length≤900){s:aL}{u:Str}(hul:u.length≤1000)(H:List AObj) :
  M.go gi H [.c de,.lp ⟨some [3,11,12,13],[(12,1,aE)],false⟩ de (H++[.cells l.row ae,.cells s.row aS,.tok 1 aE]),.blk 0,.c (.lv [12]),.c (Sh.Q (Sh.O [Sh.m 86 12,Sh.m 6 86,Sh.mc 7 Sh.T]) Sh.R)]
   (su (su (su (su Env.leaf 13 (.int .i64 0)) 12 (.slice (.own (H.length+2)) 1 [[.str u]])) 11 (.str u)) 3 (.ptr H.length 0)) (H++[.cells l.row ae,.cells s.row aS,.tok 1 aE])=some (.ret (BN (uk l.vowels [u] u l.spells.l)),H):=by
 have h1:=fun k He=>YZ M hN hS hl hV (H:=H++[.cells l.row ae,.cells s.row aS]) (H0:=H) (cut_app H _) (p:=H.length) (T:=ae) (by rw [cI];rfl) k l.spells.l.length 0 [u] u He (by omega) hul (by simp;omega)
 simp only [kv_cons,kv_nil,Int.ofNat_zero,List.drop_zero,List.length_append,List.length_cons,List.length_nil,Nat.zero_add,Nat.reduceAdd,List.append_assoc,List.cons_append,List.nil_append,List.map_cons,List.map_nil,bJ,Nat.mul_one] at h1;rw [h1];generalize uk l.vowels [u] u l.spells.l=r;cases r with
 |none=>simp only [JT,hp_take];rfl
 |some r=>
  simp only [JT,kv_cons,kv_nil];simp (maxSteps:=3000000) (maxDischargeDepth:=6) +contextual -implicitDefEqProofs only [amC M,↓amD,Nat.reduceBEq,Nat.reduceAdd,env,ab,db,L6,L7,cut_app,implies_true,wk_tuple];rfl
theorem PD(hN:bu E)(hR:uB E)(hS:Cn E)(hF:ui E){l:Lex}(hl:l.ok 0)(hk:c7 l=0){e q:Int}{x:ak}{c:aG}{s:aL}(hA:At l e q x c s)(H:List AObj) :
  M.run pE [.agg l.row,.int .i64 e,.int .i64 q] H=some (.ret (BN (qk l x s)),H):=by
 rw [aN M hF.truchmanref02_steps rfl (c:=qd) rfl,qd];have hV:=NR hk;have hsl:=yc hk;have ha':=fun H=>KI M hR hF hl hk e q H
 simp only [hA.sl hk,Option.getD_some,Option.isSome_some] at ha';have hl4:=y9 hA.ent.lem;have hp:=hA.sok.pre.1;have ha:=hA.sok.add.1;cases hd:decide ((x.lem.length:Int)<s.cut) with
 |true=>
  have e1:BN (qk l x s)=noS:=by simp [BN,qk,Fq,hd,sel,noS]
  rw [e1];simp (maxSteps:=3000000) (maxDischargeDepth:=6) +contextual -implicitDefEqProofs only [amC M,↓amD,Nat.reduceBEq,Nat.reduceAdd,env,ab,db,amG,AV.cell,Nat.reduceMul,Nat.reduceLeDiff,ha',hd,hA.ex,ef hA.e0 hA.el,bH,dg,mY,noS,cY,wk_tuple]
 |false=>
  obtain ⟨m,hm⟩:=Int.eq_ofNat_of_zero_le hA.sok.cut.1;have hml:m≤x.lem.length:=by have:=of_decide_eq_false hd;omega
  have hw:IntKind.i64.wrap ((x.lem.length:Int)-(m:Int))=((x.lem.length-m:Nat):Int):=by rw [dZ (by omega) (by omega)];omega
  have hsc:=Pz (s:=x.lem) (k:=.i64) (i:=x.lem.length-m) (by omega);have e1:qk l x s=uk l.vowels [GB x.lem s] (GB x.lem s) l.spells.l:=by simp [qk,Fq,hd,sel]
  have e2:GB x.lem s=xo s (Co s (x.lem.take (x.lem.length-m))):=by rw [GB,hm];rfl
  have hul:=IT hl4 hA.sok;have hal:(x.lem.take (x.lem.length-m)).length≤24:=by simp;omega
  have hend:=fun (u:Str) (hu:u.length≤38)=>PC M hN hS hl hV (s:=s) (u:=u) (by omega) (by omega) H
  rw [e1];rw [e2] at hul ⊢;generalize x.lem.take (x.lem.length-m)=a at hsc hal hul;rw [hm] at hd;have hdn:decide (x.lem.length<m)=false:=decide_eq_false (by omega);have hbl:=IS s a hp;cases hp0:s.pre == [] with
  |true=>
   have e3:Co s a=a:=by simp [Co,hp0,sel]
   rw [e3] at hbl hul ⊢;cases ha0:s.add == [] with
   |true=>
    have e4:xo s a=a:=by simp [xo,ha0,sel]
    rw [e4] at hul ⊢;simp (maxSteps:=3000000) (maxDischargeDepth:=6) +contextual -implicitDefEqProofs only [amC M,↓amD,Nat.reduceBEq,Nat.reduceAdd,env,ab,db,amG,AV.cell,Nat.reduceMul,Nat.reduceLeDiff,ha',hend _ hul,hd,hdn,hm,hw,hsc,hp0,ha0,hA.ex,ef hA.e0 hA.el,bH,dg,mY,wk_tuple]
   |false=>
    have e4:xo s a=(a++[43])++s.add:=by simp [xo,ha0,sel]
    rw [e4] at hul ⊢;simp (maxSteps:=3000000) (maxDischargeDepth:=6) +contextual -implicitDefEqProofs only [amC M,↓amD,Nat.reduceBEq,Nat.reduceAdd,env,ab,db,amG,AV.cell,Nat.reduceMul,Nat.reduceLeDiff,ha',hend _ hul,hd,hdn,hm,hw,hsc,hp0,ha0,lg (s:=a) (t:=[43]) (by simp;omega),lg (s:=a++[43]) (t:=s.add) (by simp;omega),hA.ex,ef hA.e0 hA.el,bH,dg,mY,wk_tuple]
  |false=>
   have e3:Co s a=(s.pre++[43])++a:=by simp [Co,hp0,sel]
   rw [e3] at hbl hul ⊢;cases ha0:s.add == [] with
   |true=>
    have e4:xo s ((s.pre++[43])++a)=(s.pre++[43])++a:=by simp [xo,ha0,sel]
    rw [e4] at hul ⊢;simp (maxSteps:=3000000) (maxDischargeDepth:=6) +contextual -implicitDefEqProofs only [amC M,↓amD,Nat.reduceBEq,Nat.reduceAdd,env,ab,db,amG,AV.cell,Nat.reduceMul,Nat.reduceLeDiff,ha',hend _ hul,hd,hdn,hm,hw,hsc,hp0,ha0,lg (s:=s.pre) (t:=[43]) (by simp;omega),lg (s:=s.pre++[43]) (t:=a) (by simp;omega),hA.ex,ef hA.e0 hA.el,bH,dg,mY,wk_tuple]
   |false=>
    have e4:xo s ((s.pre++[43])++a)=(((s.pre++[43])++a)++[43])++s.add:=by simp [xo,ha0,sel]
    rw [e4] at hul ⊢;simp (maxSteps:=3000000) (maxDischargeDepth:=6) +contextual -implicitDefEqProofs only [amC M,↓amD,Nat.reduceBEq,Nat.reduceAdd,env,ab,db,amG,AV.cell,Nat.reduceMul,Nat.reduceLeDiff,ha',hend _ hul,hd,hdn,hm,hw,hsc,hp0,ha0,lg (s:=s.pre) (t:=[43]) (by simp;omega),lg (s:=s.pre++[43]) (t:=a) (by simp;omega),lg (s:=s.pre++[43]++a) (t:=[43]) (by simp at hbl ⊢;omega),lg (s:=s.pre++[43]++a++[43]) (t:=s.add) (by simp at hbl ⊢;omega),hA.ex,ef hA.e0 hA.el,bH,dg,mY,wk_tuple]
end
section
attribute [local congr] al br aJ ao aH aA aq ah aj aC aD
variable{E:aX}(M:bR bN E)
structure GC (M:bR bN E):Prop where
 count:∀ (s:Str) (c:UInt8) (H:List AObj),M.run dE [.str s,.int .u8 c.toNat] H=some (.ret (.int .i64 (Lib.countByte s c:Nat)),H)
 noZero:∀ (n:Nat) (H:List AObj),n≤281474976710656→M.run dc [.int .i64 n] H=some (.ret (.rslice H.length 0 n 1 true),H++[.cells (List.replicate n .unk) dj])
theorem NT{H L L':List AObj}(h:L.length≤L'.length)(hw:∀ x∈L',WN (H++L).length x):b4 (H++L) (H++L'):=⟨by simp;omega,fun i x hi hx=>by
 by_cases h1:i<H.length
 ·left;rw [ZE h1] at hx ⊢;exact hx
 ·right;rw [ZF (by omega)] at hx;exact hw x (ZG hx)⟩
abbrev rY(a x:AV):AObj:=.cells [a,x] bt
theorem Qz(hB:s6 E)(hX:sM M)(H:List AObj) :
  M.run cu [.ptr H.length 0] (H++[rY .nilp (.slice .nil 1 [])])=some (.ret (.tuple []),H++[rY (.ptr H.length 0) (.slice .nil 1 [])]):=by
 rw [aN M hB.strings_Builder_copyCheck rfl (c:=bX) rfl,bX];have h1:=hX.same H.length 0
 have hc:b4 (H++[rY .nilp (.slice .nil 1 [])]) (H++[rY (.ptr H.length 0) (.slice .nil 1 [])]):=NT (by simp) (by
  intro x hx;obtain rfl:x=_:=by simpa using hx
  intro c hc;simp only [List.mem_cons,List.not_mem_nil,or_false] at hc;rcases hc with rfl | rfl
  ·exact wk_ptr (by simp)
  ·exact XR _ _)
 have ht:(H++[rY (.ptr H.length 0) (.slice .nil 1 [])]).take (H.length+1)=H++[rY (.ptr H.length 0) (.slice .nil 1 [])]:=List.take_of_length_le (by simp);have e1:OB (H++[rY .nilp (.slice .nil 1 [])]) (.ptr H.length 0)=some (.ptr H.length 0):=by simp [OB,cI]
 have e2:OC (H++[rY .nilp (.slice .nil 1 [])]) bt 2 (.ptr H.length 0)=some (.ptr H.length 0):=by simp [OC,cI]
 simp (maxSteps:=3000000) (maxDischargeDepth:=6) +contextual -implicitDefEqProofs only [amC M,↓amD,Nat.reduceBEq,Nat.reduceAdd,env,ab,iL,amG,AV.cell,Nat.reduceMul,Nat.reduceLeDiff,h1,qU,NM,rnc,e1,e2,hc,ht,wk_tuple]
theorem VY(hB:s6 E)(H L:List AObj)(x:AV) :
  M.run cu [.ptr H.length 0] (H++(rY (.ptr H.length 0) x::L))=some (.ret (.tuple []),H++(rY (.ptr H.length 0) x::L)):=by
 rw [aN M hB.strings_Builder_copyCheck rfl (c:=bX) rfl,bX];have ht:(H++(rY (.ptr H.length 0) x::L)).take (H.length+(L.length+1))=H++(rY (.ptr H.length 0) x::L):=List.take_of_length_le (by simp);simp (maxSteps:=3000000) (maxDischargeDepth:=6) +contextual -implicitDefEqProofs only [amC M,↓amD,Nat.reduceBEq,Nat.reduceAdd,env,ab,iL,IJ,NN,rnc,ht,wk_tuple]
theorem PE{g:FuncId}{first cap args:List AV}{H H':List AObj}{v:AV}(h:H'.take H.length=H)(T L:List Nat):Bi bN E .keep (.fn (.func g) first cap) args H T L (some (.ret v,H'))=some (v,H',T,L):=by
 unfold Bi uF;simp only [Ey h,Ay.b,if_true]
theorem TZ(hF:ui E)(hX:GC M)(H:List AObj){n:Nat}(hn:n≤281474976710656) :
  M.run nY [.ptr H.length 0,.int .i64 n] (H++[rY (.ptr H.length 0) (.slice .nil 1 [])])=some (.ret (.tuple []),H++[rY (.ptr H.length 0) (.rslice (H.length+1) 0 0 1 true),.cells (List.replicate n .unk) dj]):=by
 rw [aN M hF.strings_Builder_grow rfl (c:=oK) rfl,oK];have w1:IntKind.i64.wrap (2*0)=0:=by decide
 have w2:IntKind.i64.wrap (0+(n:Int))=(n:Int):=by rw [dZ (by omega) (by omega)];omega
 have h1:=fun H=>hX.noZero n H hn
 have e0:((0:Nat):Int)=0:=rfl;have e1:Q2 (.slice .nil 1 [])=some (.int .i64 0):=rfl;have e2:yq 1 (.rslice (H.length+1) 0 n 1 true) none (some (.int .i64 0)) none=some (.rslice (H.length+1) 0 0 1 true):=by simp [yq,fT]
 have e3:rcp (H++[rY (.ptr H.length 0) (.slice .nil 1 []),.cells (List.replicate n .unk) dj]) 1 false (.rslice (H.length+1) 0 0 1 true) (.slice .nil 1 [])=some (.int .i64 0,H++[rY (.ptr H.length 0) (.slice .nil 1 []),.cells (List.replicate n .unk) dj]):=by
  simp only [rcp,uq,true_or,if_true,hp_getk,List.getElem?_cons_succ,List.getElem?_cons_zero,List.length_nil,Nat.le_refl,Nat.zero_le,Nat.zero_mul,Nat.add_zero,true_and,and_true,List.flatten_nil,aW];rw [if_pos (by rfl)];rw [Z2 _ _ (by omega)];simp
 have hdk:=fun T L=>PE (E:=E) (g:=dc) (first:=[]) (cap:=[]) (args:=[.int .i64 n]) (H:=H++[rY (.ptr H.length 0) (.slice .nil 1 [])]) (H':=H++[rY (.ptr H.length 0) (.slice .nil 1 []),.cells (List.replicate n .unk) dj]) (v:=.rslice (H.length+1) 0 n 1 true) (by
  rw [show H++[rY (.ptr H.length 0) (.slice .nil 1 []),AObj.cells (List.replicate n .unk) dj]=(H++[rY (.ptr H.length 0) (.slice .nil 1 [])])++[.cells (List.replicate n .unk) dj] by simp,List.take_left]) T L
 simp (maxSteps:=3000000) (maxDischargeDepth:=6) +contextual -implicitDefEqProofs only [amC M,↓amD,Nat.reduceBEq,Nat.reduceAdd,env,ab,zM,amG,AV.cell,Nat.reduceMul,Nat.reduceLeDiff,rnc,w1,w2,h1,e0,e1,e2,e3,hdk]
theorem RY(hB:s6 E)(hE:sM M)(hF:ui E)(hX:GC M)(H:List AObj){n:Nat}(h0:0<n)(hn:n≤281474976710656) :
  M.run kQ [.ptr H.length 0,.int .i64 n] (H++[rY .nilp (.slice .nil 1 [])])=some (.ret (.tuple []),H++[rY (.ptr H.length 0) (.rslice (H.length+1) 0 0 1 true),.cells (List.replicate n .unk) dj]):=by
 rw [aN M hF.strings_Builder_Grow rfl (c:=jm) rfl,jm];have w1:IntKind.i64.wrap (0-0)=0:=by decide
 have e0:((0:Nat):Int)=0:=rfl;have e1:Q2 (.slice .nil 1 [])=some (.int .i64 0):=rfl;have d1:decide ((n:Int)<0)=false:=decide_eq_false (by omega);have d2:decide ((0:Int)<(n:Int))=true:=decide_eq_true (by omega);have d3:decide (0<n)=true:=decide_eq_true h0;simp (maxSteps:=3000000) (maxDischargeDepth:=6) +contextual -implicitDefEqProofs only [amC M,↓amD,Nat.reduceBEq,Nat.reduceAdd,env,ab,tB,amG,AV.cell,Nat.reduceMul,Nat.reduceLeDiff,rnc,Qz M hB hE,TZ M hF hX H hn,w1,e0,e1,d1,d2,d3]
theorem PF(hB:s6 E)(hE:sM M)(hF:ui E)(H:List AObj) :
  M.run kQ [.ptr H.length 0,.int .i64 0] (H++[rY .nilp (.slice .nil 1 [])])=some (.ret (.tuple []),H++[rY (.ptr H.length 0) (.slice .nil 1 [])]):=by
 rw [aN M hF.strings_Builder_Grow rfl (c:=jm) rfl,jm];have w1:IntKind.i64.wrap (0-0)=0:=by decide
 have e0:((0:Nat):Int)=0:=rfl;have e1:Q2 (.slice .nil 1 [])=some (.int .i64 0):=rfl;have d1:decide ((0:Int)<0)=false:=rfl;simp (maxSteps:=3000000) (maxDischargeDepth:=6) +contextual -implicitDefEqProofs only [amC M,↓amD,Nat.reduceBEq,Nat.reduceAdd,env,ab,tB,amG,AV.cell,Nat.reduceMul,Nat.reduceLeDiff,rnc,Qz M hB hE,w1,e0,e1,d1]
end
section
attribute [local congr] al br aJ ao aH aA aq ah aj aC aD
variable{E:aX}(M:bR bN E)
def s7(s:Str):Str:=s.filter fun c => !(c == 43)
inductive BL where
 |nil
 |room (n:Nat)
 |own (w:Str)
def BL.str:BL→Str
 |.own w=>w
 |_=>[]
def BL.wr:BL→Str→BL
 |.nil,_=>.nil
 |.room _,s=>.own s
 |.own w,s=>.own (w++s)
def BL.heap(H:List AObj):BL→List AObj
 |.nil=>H++[rY (.ptr H.length 0) (.slice .nil 1 [])]
 |.room n=>H++[rY (.ptr H.length 0) (.rslice (H.length+1) 0 0 1 true),.cells (List.replicate n .unk) dj]
 |.own w=>H++[rY (.ptr H.length 0) (.slice (.own (H.length+1)) 1 (gA w)),bTok w]
theorem NU(H:List AObj):BL.heap H .nil=H++[rY (.ptr H.length 0) (.slice .nil 1 [])]:=rfl
theorem KJ(H:List AObj)(n:Nat):BL.heap H (.room n)=H++[rY (.ptr H.length 0) (.rslice (H.length+1) 0 0 1 true),.cells (List.replicate n .unk) dj]:=rfl
theorem BL.wr_str(b:BL)(s:Str)(h:b = .nil→s=[]):(b.wr s).str=b.str++s:=by
 cases b with
 |nil=>rw [h rfl];rfl
 |room n=>rfl
 |own w=>rfl
theorem BL.wr_nil{b:BL}{s:Str}(h:b.wr s = .nil):b = .nil:=by cases b<;>simp [BL.wr] at h ⊢
theorem ap2(H:List AObj)(x:AObj){w s:Str}(h:w.length+s.length≤140737488355328) :
  rap false (H++[x,bTok w]) dj 1 1 true (.slice (.own (H.length+1)) 1 (gA w)) (.str s)=some (.slice (.own (H.length+1)) 1 (gA (w++s)),H++[x,bTok (w++s)]):=by
 have:=Py (H++[x]) [] h;rw [ZI,ZI,ZH] at this;exact this
theorem apR(H:List AObj)(x:AObj)(n:Nat){s:Str}(h:s.length≤140737488355328) :
  rap false (H++[x,.cells (List.replicate n .unk) dj]) dj 1 1 true (.rslice (H.length+1) 0 0 1 true) (.str s)=some (.slice (.own (H.length+1)) 1 (gA s),H++[x,bTok s]):=by
 have h2:=ap2 H x (w:=[]) (s:=s) (by simpa using h)
 have e:(H++[x,AObj.cells (List.replicate n .unk) dj]).set (H.length+1) (.tok 0 dj)=H++[x,bTok []]:=by
  rw [List.set_append_right _ _ (by omega)];simp
 rw [Z7] at h2;rw [← h2]
 show (match (H++[x,AObj.cells (List.replicate n .unk) dj])[H.length+1]? with
  |some (.cells _ T)=>xE ((H++[x,AObj.cells (List.replicate n .unk) dj]).set (H.length+1) (.tok 0 T)) dj 1 1 true (.slice (.own (H.length+1)) 1 []) (.str s)
  |_=>none)=_
 rw [hp_getk];simp only [List.getElem?_cons_succ,List.getElem?_cons_zero];rw [e];rfl
theorem apN(H:List AObj):rap false H dj 1 1 true (.slice .nil 1 []) (.str [])=some (.slice .nil 1 [],H):=by
 simp [rap,xE,uq,nj]
theorem T4(H:List AObj)(x y:AObj)(w:Str):b4 (H++[x,y]) (H++[rY (.ptr H.length 0) (.slice (.own (H.length+1)) 1 (gA w)),bTok w]):=NT (by simp) (by
 intro z hz;simp only [List.mem_cons,List.not_mem_nil,or_false] at hz;rcases hz with rfl | rfl
 ·intro c hc
  simp only [List.mem_cons,List.not_mem_nil,or_false] at hc;rcases hc with rfl | rfl
  ·exact wk_ptr (by simp)
  ·exact wk_slice (show H.length+1<_ by simp) (NL _ _)
 ·trivial)
theorem L8(H:List AObj)(x y:AObj):(H++[x,y]).take (H.length+2)=H++[x,y]:=List.take_of_length_le (by simp)
theorem QA(H:List AObj)(x:AObj):(H++[x]).take (H.length+1)=H++[x]:=List.take_of_length_le (by simp)
theorem PG(hB:s6 E)(H:List AObj)(b:BL){s:Str}(h:b.str.length+s.length≤140737488355328)(hn:b = .nil→s=[]) :
  M.run aM [.ptr H.length 0,.str s] (b.heap H)=some (.ret (.tuple [.int .i64 s.length,.nilif]),(b.wr s).heap H):=by
 rw [aN M hB.strings_Builder_WriteString rfl (c:=cF) rfl,cF];have hc1:=fun L x=>VY M hB H L x
 cases b with
 |nil=>
  rw [hn rfl];simp only [BL.heap,BL.wr];have a1:=fun H=>apN H
  simp (maxSteps:=3000000) (maxDischargeDepth:=6) +contextual -implicitDefEqProofs only [amC M,↓amD,Nat.reduceBEq,Nat.reduceAdd,env,ab,dM,amG,AV.cell,Nat.reduceMul,Nat.reduceLeDiff,hc1,rnc,a1,QA,cut_refl,wk_tuple]
 |room n=>
  simp only [BL.heap,BL.wr];have a1:=fun x=>apR H x n (s:=s) (by simp [BL.str] at h;omega)
  have hcut:=fun x y=>T4 H x y s
  simp (maxSteps:=3000000) (maxDischargeDepth:=6) +contextual -implicitDefEqProofs only [amC M,↓amD,Nat.reduceBEq,Nat.reduceAdd,env,ab,dM,amG,AV.cell,Nat.reduceMul,Nat.reduceLeDiff,hc1,rnc,a1,hcut,L8,wk_tuple]
 |own w=>
  simp only [BL.heap,BL.wr];have a1:=fun x=>ap2 H x (w:=w) (s:=s) h
  have hcut:=fun x y=>T4 H x y (w++s)
  simp (maxSteps:=3000000) (maxDischargeDepth:=6) +contextual -implicitDefEqProofs only [amC M,↓amD,Nat.reduceBEq,Nat.reduceAdd,env,ab,dM,amG,AV.cell,Nat.reduceMul,Nat.reduceLeDiff,hc1,rnc,a1,hcut,L8,wk_tuple]
theorem T5(hB:s6 E)(H:List AObj)(b:BL)(h:b.str.length≤9223372036854775807)(hr:∀ n,b≠.room n) :
  M.run cT [.ptr H.length 0] (b.heap H)=some (.ret (.str b.str),b.heap H):=by
 rw [aN M hB.strings_Builder_String rfl (c:=gm) rfl,gm];cases b with
 |room n=>exact absurd rfl (hr n)
 |nil=>
  simp only [BL.heap,BL.str];have e1:Q3 (.slice .nil 1 [])=some (.sdp 0 []):=rfl;have e2:∀ H,Lk H dj (.sdp 0 []) (.int .i64 0)=some (.str []):=fun H=>rfl
  have e0:((0:Nat):Int)=0:=rfl;simp (maxSteps:=3000000) (maxDischargeDepth:=6) +contextual -implicitDefEqProofs only [amC M,↓amD,Nat.reduceBEq,Nat.reduceAdd,env,ab,mR,amG,AV.cell,Nat.reduceMul,Nat.reduceLeDiff,qU,rnc,e0,e1,e2,QA]
 |own w=>
  simp only [BL.heap,BL.str] at h ⊢
  have e2:∀ x,Lk (H++[x,bTok w]) dj (.sdp (H.length+1) (gA w)) (.int .i64 (w.length:Int))=some (.str w):=fun x=>by
   have:=WY (H++[x]) [] w h;rw [ZI,ZH] at this;exact this
  simp (maxSteps:=3000000) (maxDischargeDepth:=6) +contextual -implicitDefEqProofs only [amC M,↓amD,Nat.reduceBEq,Nat.reduceAdd,env,ab,mR,amG,AV.cell,Nat.reduceMul,Nat.reduceLeDiff,qU,rnc,WZ,e2,L8]
theorem PH(hF:ui E)(hS:SpE E)(hX:sM M)(s:Str)(c:UInt8)(H:List AObj):M.run o4 [.str s,.str [c]] H=some (.ret (.int .i64 (Lib.indexByte s c)),H):=by
 have h1:M.run cM [.str s,.int .u8 c.toNat] H=some (.ret (.int .i64 (Lib.indexByte s c)),H):=by
  rw [aN M hS.internal_stringslite_IndexByte rfl (c:=dv) rfl,dv];have h2:=hX.index s c H;simp (maxSteps:=3000000) (maxDischargeDepth:=6) +contextual -implicitDefEqProofs only [amC M,↓amD,Nat.reduceBEq,Nat.reduceAdd,env,ab,mI,h2]
 have h2:M.run gC [.str s,.str [c]] H=some (.ret (.int .i64 (Lib.indexByte s c)),H):=by
  rw [aN M hF.internal_stringslite_Index rfl (c:=ky) rfl,ky];have e0:((([c].length:Nat):Int) == 0)=false:=rfl;have e1:((([c].length:Nat):Int) == 1)=true:=rfl;have e2:FP ([c]:Str)[0]?=some (.int .u8 (c.toNat:Int)):=rfl;cases he:([c]:Str) == s with
  |true=>
   have:Lib.indexByte s c=0:=by rw [← eq_of_beq he];simp [Lib.indexByte]
   rw [this];simp (maxSteps:=3000000) (maxDischargeDepth:=6) +contextual -implicitDefEqProofs only [amC M,↓amD,Nat.reduceBEq,Nat.reduceAdd,env,ab,pa,e0,e1,he]
  |false=>
   simp (maxSteps:=3000000) (maxDischargeDepth:=6) +contextual -implicitDefEqProofs only [amC M,↓amD,Nat.reduceBEq,Nat.reduceAdd,env,ab,pa,e0,e1,e2,h1,he]
 rw [aN M hF.strings_Index rfl (c:=vu) rfl,vu];simp (maxSteps:=3000000) (maxDischargeDepth:=6) +contextual -implicitDefEqProofs only [amC M,↓amD,Nat.reduceBEq,Nat.reduceAdd,env,ab,Gg,h2]
theorem PI(hF:ui E)(hX:GC M)(s:Str)(c:UInt8)(H:List AObj):M.run o3 [.str s,.str [c]] H=some (.ret (.int .i64 (Lib.countByte s c:Nat)),H):=by
 rw [aN M hF.strings_Count rfl (c:=vt) rfl,vt];have h2:=hX.count s c H;have e0:((([c].length:Nat):Int) == 0)=false:=rfl;have e1:((([c].length:Nat):Int) == 1)=true:=rfl;have e2:FP ([c]:Str)[0]?=some (.int .u8 (c.toNat:Int)):=rfl;simp (maxSteps:=3000000) (maxDischargeDepth:=6) +contextual -implicitDefEqProofs only [amC M,↓amD,Nat.reduceBEq,Nat.reduceAdd,env,ab,Gf,e0,e1,e2,h2]
theorem T6(a b:Str):s7 (a++b)=s7 a++s7 b:=List.filter_append ..
theorem FT:∀ (s:Str) (m:Nat),Lib.countByte s 43=m+1→∃ a r,s=a++43::r∧s7 a=a∧Lib.indexByte s 43=(a.length:Int)∧Lib.countByte r 43=m
 |[],m,h=>by simp [Lib.countByte] at h
 |c::s,m,h=>by
  by_cases hc:c=43
  ·subst hc
   exact ⟨[],s,rfl,rfl,by simp [Lib.indexByte],by simpa [Lib.countByte] using h⟩
  ·obtain ⟨a,r,h1,h2,h3,h4⟩:=FT s m (by rwa [Lib.countByte,List.count_cons_of_ne (Ne.symm (by simpa using (fun e=>hc e.symm)))] at h)
   refine ⟨c::a,r,by rw [h1];rfl, ?_, ?_,h4⟩
   ·simp only [s7,List.filter_cons] at h2 ⊢
    simp [hc,h2]
   ·have hb:(c == 43)=false:=by simpa using hc
    simp only [Lib.indexByte,hb,h3]
    have:((a.length:Int) == -1)=false:=beq_eq_false_iff_ne.2 (by omega)
    simp [this]
theorem QB{s:Str}(h:Lib.countByte s 43=0):s7 s=s:=by
 simp only [Lib.countByte] at h;rw [List.count_eq_zero] at h
 exact List.filter_eq_self.2 fun c hc=>by
  have:c≠43:=fun e=>h (e ▸ hc)
  simpa using this
theorem NV{s:Str}(h:∀ x∈s,x=43):s7 s=[]:=List.filter_eq_nil_iff.2 fun c hc=>by simp [h c hc]
theorem rpl(hN:bu E)(hF:ui E)(hS:SpE E)(hX:sM M)(hB:s6 E){s:Str}(hs:s.length≤1000000){H H0:List AObj}(N:Nat)(k:List Fra):∀ (m i st:Nat) (b:BL) (He:List AObj),i+m=N→N≤1000000→st≤s.length→b.str.length≤st→Lib.countByte (s.drop st) 43=m→(b = .nil→∀ x∈s,x=43) →
  ∃ (st':Nat) (b':BL),st'≤s.length∧b'.str++s.drop st'=b.str++s7 (s.drop st)∧b'.str.length≤st'∧(b' = .nil→∀ x∈s,x=43) ∧
   M.go jo H0 (.c kD :: .lp ⟨(some [0,1,2,10,11,52,53]),[],false⟩ kD He :: .blk 0 :: .c (.lv [0,10,11])::k) (kv [(0,.str s),(1,.str [43]),(2,.str []),(10,.ptr H.length 0),(11,.int .i64 st),(52,.int .i64 N),(53,.int .i64 i)]) (b.heap H)=M.go jo H0 k (kv [(0,.str s),(10,.ptr H.length 0),(11,.int .i64 st')]) (b'.heap H)
 |0,i,st,b,He,hi,hN2,hst,hbl,hc,hb=>by
  refine ⟨st,b,hst,by rw [QB hc],hbl,hb, ?_⟩;have e:i=N:=by omega
  subst e;rw [ag M kD.eq_1];simp (maxSteps:=3000000) (maxDischargeDepth:=6) +contextual -implicitDefEqProofs only [amC M,↓amD,Nat.reduceBEq,Nat.reduceAdd,env,ab,ki,Nat.lt_irrefl]
 |m+1,i,st,b,He,hi,hN2,hst,hbl,hc,hb=>by
  obtain ⟨a,r,h1,h2,h3,h4⟩:=FT _ _ hc
  have hlen:a.length+(r.length+1)=s.length-st:=by
   have:=congrArg List.length h1;simpa using this.symm
  have hdr:s.drop (st+a.length+1)=r:=by
   rw [Nat.add_assoc,← Z8,h1,List.drop_append,aaa (by omega)];simp
  have hta:(s.drop st).take a.length=a:=by rw [h1];simp
  have hbn:b = .nil→a=[]:=fun e=>by
   have:s7 a=[]:=NV fun x hx=>hb e x (List.mem_of_mem_drop (by rw [h1];simp [hx]))
   rw [← h2,this]
  have hw1:=PG M hB H b (s:=a) (by omega) hbn;have hs1:=b.wr_str a hbn;have hw2:=PG M hB H (b.wr a) (s:=[]) (by rw [hs1];simp;omega) (fun _=>rfl);have hs2:=(b.wr a).wr_str [] (fun _=>rfl);rw [Z6] at hs2;have hbb:(b.wr a).wr [] = .nil→∀ x∈s,x=43:=fun e=>hb (BL.wr_nil (BL.wr_nil e))
  obtain ⟨st',b',g1,g2,g3,g4,g5⟩:=rpl hN hF hS hX hB hs (H:=H) (H0:=H0) N k m (i+1) (st+a.length+1) ((b.wr a).wr []) (((b.wr a).wr []).heap H) (by omega) hN2 (by omega) (by rw [hs2,hs1];simp;omega) (by rw [hdr];exact h4) hbb;refine ⟨st',b',g1, ?_,g3,g4, ?_⟩
  ·rw [g2,hs2,hs1,hdr,h1,T6,h2,ZI]
   congr 1
  ·simp only [kv_cons,kv_nil] at g5 ⊢
   rw [← g5];have hin:i<N:=by omega
   have hix:=fun H=>PH M hF hS hX (s.drop st) 43 H
   rw [h3] at hix;have q1:=y7 (s:=s) (k:=.i64) hst;have q2:=D5 (s:=s) (k:=.i64) (k':=.i64) (i:=st) (j:=st+a.length) (by omega) (by omega);rw [Z5,hta] at q2;have q3:IntKind.i64.wrap ((st:Int)+(a.length:Int))=((st+a.length:Nat):Int):=by rw [dZ (by omega) (by omega)];omega
   have q4:IntKind.i64.wrap (((st+a.length:Nat):Int)+1)=((st+a.length+1:Nat):Int):=by rw [dZ (by omega) (by omega)];omega
   have q5:((([43]:Str).length:Nat):Int)=1:=rfl;rw [ag M kD.eq_1];simp (maxSteps:=3000000) (maxDischargeDepth:=6) +contextual -implicitDefEqProofs only [amC M,↓amD,Nat.reduceBEq,Nat.reduceAdd,env,ab,ki,hin,hix,q1,q2,q3,q4,q5,hw1,hw2,aZ hin (show N≤aQ by simp only [aQ];omega)]
theorem NW(hN:bu E)(hF:ui E)(hS:SpE E)(hX:sM M)(hY:GC M)(hB:s6 E){s:Str}(hs:s.length≤1000000)(H:List AObj) :
  M.run tu [.str s,.str [43],.str [],.int .i64 (-1)] H=some (.ret (.str (s7 s)),H):=by
 rw [aN M hF.strings_Replace rfl (c:=tE) rfl,tE];have hct:=fun H=>PI M hF hY s 43 H
 have q5:((([43]:Str).length:Nat):Int)=1:=rfl;have q6:(([43]:Str) == [])=false:=rfl;have q7:((-1:Int) == 0)=false:=rfl;have q8:decide ((-1:Int)<0)=true:=rfl;have q9:decide ((0:Int)<1)=true:=rfl;have z0:((0:Nat):Int)=0:=rfl;have z1:((1:Nat):Int)=1:=rfl;have w1:IntKind.i64.wrap (0-1) = -1:=by decide
 generalize hc:Lib.countByte s 43=n at hct;have hcl:n≤s.length:=by rw [← hc];exact List.count_le_length
 cases hn:(n:Int) == 0 with
 |true=>
  have:n=0:=by have:=eq_of_beq hn;omega
  rw [QB (by rw [hc];exact this)];simp (maxSteps:=3000000) (maxDischargeDepth:=6) +contextual -implicitDefEqProofs only [amC M,↓amD,Nat.reduceBEq,Nat.reduceAdd,env,ab,ki,hct,q5,q6,q7,q8,hn]
 |false=>
  have hn0:0<n:=by have:=beq_eq_false_iff_ne.1 hn;omega
  have w2:IntKind.i64.wrap ((n:Int) * -1) = -(n:Int):=by rw [dZ (by omega) (by omega)];omega
  have w3:IntKind.i64.wrap ((s.length:Int) + -(n:Int))=((s.length-n:Nat):Int):=by rw [dZ (by omega) (by omega)];omega
  have fin:∀ (b:BL) (st:Nat),st≤s.length→b.str.length≤st→b.str++s.drop st=s7 s→(b = .nil→∀ x∈s,x=43) →
    M.go jo H [.c (.seq (.seq (.ops [⟨(some 99),none,(.op (.mv (.t 0)))⟩,⟨(some 100),none,(.op (.mv (.t 11)))⟩,⟨(some 101),none,(.op (.sls (.t 99) (some (.t 100)) none))⟩,⟨(some 102),none,(.call (.c (.fn (.func aM) [] [])) [(.t 10),(.t 101)])⟩]) (.lv [10])) (.seq (.ops [⟨(some 103),none,(.call (.c (.fn (.func cT) [] [])) [(.t 10)])⟩,⟨(some 8),none,(.op (.mv (.t 103)))⟩]) .ret))] (su (su (su Env.leaf 11 (.int .i64 st)) 10 (.ptr H.length 0)) 0 (.str s)) (b.heap H)=some (.ret (.str (s7 s)),H):=by
   intro b st h1 h2 h3 h4
   have hbn:b = .nil→s.drop st=[]:=fun e=>by
    have h5:=NV (h4 e);rw [h5] at h3;exact (List.append_eq_nil_iff.1 h3).2
   have a1:=PG M hB H b (s:=s.drop st) (by simp;omega) hbn;have a2:=b.wr_str (s.drop st) hbn;have a3:=T5 M hB H (b.wr (s.drop st)) (by rw [a2];simp;omega) (fun n e=>by cases b<;>simp [BL.wr] at e);rw [a2,h3] at a3;have q1:=y7 (s:=s) (k:=.i64) h1;have hcut:∀ b:BL,b4 H (b.heap H):=fun b=>by cases b<;>exact cut_app H _
   have htk:∀ b:BL,(b.heap H).take H.length=H:=fun b=>by cases b<;>simp [BL.heap]
   simp (maxSteps:=3000000) (maxDischargeDepth:=6) +contextual -implicitDefEqProofs only [amC M,↓amD,Nat.reduceBEq,Nat.reduceAdd,env,ab,ki,q1,a1,a3,hcut,htk]
  by_cases hg:s.length-n=0
  ·have hall:∀ x∈s,x=43:=by
    have:s.count 43=s.length:=by rw [Lib.countByte] at hc;omega
    exact fun x hx=>((List.count_eq_length.1 this) x hx).symm
   have hgr:=PF M hB hX hF H;obtain ⟨st',b',g1,g2,g3,g4,g5⟩:=rpl M hN hF hS hX hB hs (H:=H) (H0:=H) n [.c (.seq (.seq (.ops [⟨(some 99),none,(.op (.mv (.t 0)))⟩,⟨(some 100),none,(.op (.mv (.t 11)))⟩,⟨(some 101),none,(.op (.sls (.t 99) (some (.t 100)) none))⟩,⟨(some 102),none,(.call (.c (.fn (.func aM) [] [])) [(.t 10),(.t 101)])⟩]) (.lv [10])) (.seq (.ops [⟨(some 103),none,(.call (.c (.fn (.func cT) [] [])) [(.t 10)])⟩,⟨(some 8),none,(.op (.mv (.t 103)))⟩]) .ret))] n 0 0 .nil (H++[rY (.ptr H.length 0) (.slice .nil 1 [])]) (by omega) (by omega) (Nat.zero_le _) (ZO _) hc (fun _=>hall)
   have g6:=fin b' st' g1 g3 g2 g4;simp only [kv_cons,kv_nil,Int.ofNat_zero,NU,KJ] at g5;rw [hg,z0] at w3;rw [← g6,← g5];simp (maxSteps:=3000000) (maxDischargeDepth:=6) +contextual -implicitDefEqProofs only [amC M,↓amD,Nat.reduceBEq,Nat.reduceAdd,env,ab,ki,amG,AV.cell,Nat.reduceMul,Nat.reduceLeDiff,hct,z0,z1,q5,q6,q7,q8,q9,hn,w1,w2,w3,hgr]
  ·have hgr:=RY M hB hX hF hY H (n:=s.length-n) (by omega) (by omega)
   obtain ⟨st',b',g1,g2,g3,g4,g5⟩:=rpl M hN hF hS hX hB hs (H:=H) (H0:=H) n [.c (.seq (.seq (.ops [⟨(some 99),none,(.op (.mv (.t 0)))⟩,⟨(some 100),none,(.op (.mv (.t 11)))⟩,⟨(some 101),none,(.op (.sls (.t 99) (some (.t 100)) none))⟩,⟨(some 102),none,(.call (.c (.fn (.func aM) [] [])) [(.t 10),(.t 101)])⟩]) (.lv [10])) (.seq (.ops [⟨(some 103),none,(.call (.c (.fn (.func cT) [] [])) [(.t 10)])⟩,⟨(some 8),none,(.op (.mv (.t 103)))⟩]) .ret))] n 0 0 (.room (s.length-n)) (H++[rY (.ptr H.length 0) (.rslice (H.length+1) 0 0 1 true),.cells (List.replicate (s.length-n) .unk) dj]) (by omega) (by omega) (Nat.zero_le _) (ZO _) hc (fun e=>by cases e)
   have g6:=fin b' st' g1 g3 g2 g4;simp only [kv_cons,kv_nil,Int.ofNat_zero,NU,KJ] at g5;rw [← g6,← g5];simp (maxSteps:=3000000) (maxDischargeDepth:=6) +contextual -implicitDefEqProofs only [amC M,↓amD,Nat.reduceBEq,Nat.reduceAdd,env,ab,ki,amG,AV.cell,Nat.reduceMul,Nat.reduceLeDiff,hct,z0,z1,q5,q6,q7,q8,q9,hn,w1,w2,w3,hgr]
theorem IU(hN:bu E)(hF:ui E)(hS:SpE E)(hX:sM M)(hY:GC M)(hB:s6 E){s:Str}(hs:s.length≤1000000)(H:List AObj) :
  M.run qJ [.str s,.str [43],.str []] H=some (.ret (.str (s7 s)),H):=by
 rw [aN M hF.strings_ReplaceAll rfl (c:=qP) rfl,qP];simp (maxSteps:=3000000) (maxDischargeDepth:=6) +contextual -implicitDefEqProofs only [amC M,↓amD,Nat.reduceBEq,Nat.reduceAdd,env,ab,Bw,NW M hN hF hS hX hY hB hs]
end
section
attribute [local congr] al br aJ ao aH aA aq ah aj aC aD
variable{E:aX}(M:bR bN E)
def RZ(q:Int):Nat→bo→Option AV:=fun _ f=>sel (f.slot == q) (some (.str f.word)) none
def NX(l:List bo)(q:Int):Option Str:=(l.find? fun f=>f.slot == q).map (·.word)
theorem Fs(q:Int)(H:List AObj)(x:Option Out):∀ (l:List bo) (i:Nat),orE (bS (RZ q) i l) H x=match NX l q with
  |some w=>some (.ret (.str w),H)
  |none=>x
 |[],_=>rfl
 |f::l,i=>by
  rw [lj,show RZ q i f=sel (f.slot == q) (some (.str f.word)) none from rfl,DK,B3,Bo,yx,Bp,Fs q H x l];simp only [NX,List.find?_cons];cases f.slot == q<;>rfl
def Cp(o:Option (List Str)):Str:=
 match o with
 |none=>[]
 |some r=>sel (decide ((24:Int)<((s7 (r.getLastD [])).length:Int))) [] (s7 (r.getLastD []))
def vH(l:Lex)(x:ak)(s:aL)(q:Int):Str:=
 match NX x.forms.l q with
 |some w=>w
 |none=>Cp (qk l x s)
theorem IV(v:Str):∀ (l:List aV) (o:List Str) (u:Str) (r:List Str),u.length≤1000→uk v (o++[u]) u l=some r→∃ r' u',r=r'++[u']∧u'.length≤1000∧r.length=o.length+1+l.length
 |[],o,u,r,hu,h=>by
  obtain rfl:=Option.some.inj h;exact ⟨o,u,rfl,hu,by simp⟩
 |x::l,o,u,r,hu,h=>by
  rw [uk] at h;cases hd:decide (((rX v x u).length:Int)≤512) with
  |false=>rw [hd] at h;simp [sel] at h
  |true=>
   rw [hd] at h;obtain ⟨r',u',h1,h2,h3⟩:=IV v l (o++[u]) (rX v x u) r (by have:=of_decide_eq_true hd;omega) h;exact ⟨r',u',h1,h2,by rw [h3];simp;omega⟩
theorem FU{l:Lex}(hk:c7 l=0){e q:Int}{x:ak}{c:aG}{s:aL}(hA:At l e q x c s){r:List Str}(h:qk l x s=some r):∃ r' u',r=r'++[u']∧u'.length≤1000∧r.length≤100:=by
 unfold qk at h;cases ho:Fq x.lem s with
 |none=>rw [ho] at h;cases h
 |some u=>
  rw [ho] at h
  have hul:u.length≤1000:=by
   have:=IT (y9 hA.ent.lem) hA.sok;unfold Fq at ho;revert ho;cases decide ((x.lem.length:Int)<s.cut) with
   |true=>simp [sel]
   |false=>intro ho;rw [← Option.some.inj ho];omega
  obtain ⟨r',u',h1,h2,h3⟩:=IV l.vowels l.spells.l [] u r hul h;have:=yc hk;exact ⟨r',u',h1,h2,by simp at h3;omega⟩
theorem mfl{H H0:List AObj}{e q:Int}{x:ak}{n0:Nat}(hx0:x.ok n0)(hn:n0≤H.length){p:Nat}(hpl:p<H.length)(hc:b4 H0 H)(k:List Fra):∀ (n i:Nat),i+n=(x.forms.l).length →
  M.go gg H0 (.c iy :: .lp ⟨(some [1,2,3,20,21,22]),[],true⟩ iy H :: .blk 0 :: .c (.lv [1,2,3])::k) (kv [(1,.int .i64 e),(2,.int .i64 q),(3,.ptr p 0),(20,.slice x.forms.tag 2 (x.forms.l.map bo.row)),(21,.int .i64 x.forms.l.length),(22,.int .i64 i)]) H =
   orE (bS (RZ q) i (x.forms.l.drop i)) (H.take H0.length) (M.go gg H0 k (kv [(1,.int .i64 e),(2,.int .i64 q),(3,.ptr p 0)]) H)
 |0,i,h=>by
  have e:i=(x.forms.l).length:=by omega
  subst e;rw [ag M iy.eq_1];simp (maxSteps:=3000000) (maxDischargeDepth:=6) +contextual -implicitDefEqProofs only [amC M,↓amD,Nat.reduceBEq,Nat.reduceAdd,env,ab,gh,Nat.lt_irrefl,List.drop_length]
 |n+1,i,h=>by
  have hi:i<(x.forms.l).length:=by omega
  have hx:(x.forms.l)[i]?=some (x.forms.l)[i]:=ZC hi;have hd:((x.forms.l).drop i)=(x.forms.l)[i]::(x.forms.l).drop (i+1):=ZD hi;have hm:(x.forms.l)[i]∈(x.forms.l):=ZJ hi;have ih:=mfl (H:=H) (H0:=H0) (e:=e) (q:=q) (x:=x) (n0:=n0) (hx0:=hx0) (hn:=hn) (p:=p) (hpl:=hpl) hc k n (i+1)  (by omega);simp only [kv_cons,kv_nil] at ih;have w2:Wk H.length (.ptr p 0) (.ptr p 0):=wk_ptr hpl;have w3:Wk H.length (.slice x.forms.tag 2 (x.forms.l.map bo.row)) (.slice x.forms.tag 2 (x.forms.l.map bo.row)):=(hx0.forms.mono hn (fun _ h=>h.mono hn)).wk (fun _ h=>h.wk)
  rw [ag M iy.eq_1];simp (maxSteps:=3000000) (maxDischargeDepth:=6) +contextual -implicitDefEqProofs only [amC M,↓amD,Nat.reduceBEq,Nat.reduceAdd,env,ab,gh,hx,hd,hi,ih,amG,AV.cell,w2,w3,aZ hi hx0.forms.len,aF hi,Bn,hc,RZ]
theorem D7(r':List Str)(u':Str){t:Tag}(h:(r'++[u']).length≤100):Eu 1 (.slice t 1 ((r'++[u']).map bJ)) (.int .i64 (IntKind.i64.wrap (((r'++[u']).length:Int)-1)))=some (.vptr 1 ((r'++[u']).map bJ) r'.length 0):=by
 have e:IntKind.i64.wrap (((r'++[u']).length:Int)-1)=(r'.length:Int):=by
  simp only [List.length_append,List.length_cons,List.length_nil] at h ⊢;rw [dZ (by omega) (by omega)];omega
 rw [e];exact aF (by simp)
theorem D8(r':List Str)(u':Str):(r'++[u'])[r'.length]?=some u':=by simp
theorem L9(r':List Str)(u':Str):(r'++[u']).getLastD []=u':=by simp
theorem T7(hN:bu E)(hW:WdE M)(hE:mU E)(hS:SpE E)(hX:sM M)(hY:GC M)(hB:s6 E)(hF:ui E){l:Lex}(hl:l.ok 0)(hk:c7 l=0){e q:Int}{x:ak}{c:aG}{s:aL}(hA:At l e q x c s)(H:List AObj) :
  M.run lR [.agg l.row,.int .i64 e,.int .i64 q] H=some (.ret (.str (vH l x s q)),H):=by
 rw [aN M hF.morph_language_form rfl (c:=pU) rfl,pU];have hx0:=hl.entries.all x (ZG hA.ex);have h1:=fun k=>mfl M (H:=H++[.cells l.row aP]) (H0:=H) (e:=e) (q:=q) hx0 (Nat.zero_le _) (p:=H.length) (by simp) (cut_app H _) k x.forms.l.length 0 (by omega)
 simp only [kv_cons,kv_nil,Int.ofNat_zero,List.drop_zero,Fs] at h1;have hsl:=fun H=>TU M hW hE hF hl e q H
 simp only [hA.sl hk,Option.getD_some,Option.isSome_some] at hsl;have hst:=fun H=>RW M hN hS hX hB hF hl (NR hk) hA (by have:=yc hk;omega) H
 have hsw:∀ n,WkL n s.row s.row:=fun n=>(((hl.classes.all c hA.cm).slots.all s (ZG hA.sx)).mono (Nat.zero_le n)).wk
 cases hi:NX x.forms.l q with
 |some w=>
  have e1:vH l x s q=w:=by simp [vH,hi]
  rw [e1];simp only [hi] at h1;simp (maxSteps:=3000000) (maxDischargeDepth:=6) +contextual -implicitDefEqProofs only [amC M,↓amD,Nat.reduceBEq,Nat.reduceAdd,env,ab,gh,amG,AV.cell,Nat.reduceMul,Nat.reduceLeDiff,h1,hA.ex,ef hA.e0 hA.el,bH,dg]
 |none=>
  have e1:vH l x s q=Cp (qk l x s):=by simp [vH,hi]
  rw [e1];simp only [hi] at h1;cases hr:qk l x s with
  |none=>
   simp only [hr,BN,Option.getD_none,Option.isSome_none,List.map_nil] at hst;simp (maxSteps:=3000000) (maxDischargeDepth:=6) +contextual -implicitDefEqProofs only [amC M,↓amD,Nat.reduceBEq,Nat.reduceAdd,env,ab,gh,amG,AV.cell,Nat.reduceMul,Nat.reduceLeDiff,h1,hsl,hst,hA.ex,ef hA.e0 hA.el,bH,dg,mY,Cp]
  |some r=>
   obtain ⟨r',u',g1,g2,g3⟩:=FU hk hA hr;subst g1;simp only [hr,BN,Option.getD_some,Option.isSome_some] at hst;have hra:=fun H=>IU M hN hF hS hX hY hB (s:=u') (by omega) H
   cases hd:decide ((24:Int)<((s7 u').length:Int)) with
   |true=>
    have e2:Cp (some (r'++[u']))=[]:=by simp only [Cp,L9,hd,sel]
    rw [e2];simp (maxSteps:=3000000) (maxDischargeDepth:=6) +contextual -implicitDefEqProofs only [amC M,↓amD,Nat.reduceBEq,Nat.reduceAdd,env,ab,gh,amG,AV.cell,Nat.reduceMul,Nat.reduceLeDiff,h1,hsl,hst,hra,hd,D7 r' u' g3,D8,hA.ex,ef hA.e0 hA.el,bH,dg,mY,Ju]
   |false=>
    have e2:Cp (some (r'++[u']))=s7 u':=by simp only [Cp,L9,hd,sel]
    rw [e2];simp (maxSteps:=3000000) (maxDischargeDepth:=6) +contextual -implicitDefEqProofs only [amC M,↓amD,Nat.reduceBEq,Nat.reduceAdd,env,ab,gh,amG,AV.cell,Nat.reduceMul,Nat.reduceLeDiff,h1,hsl,hst,hra,hd,D7 r' u' g3,D8,hA.ex,ef hA.e0 hA.el,bH,dg,mY,Ju]
end
end Go.Am
