import Derived.Test.YtdaikompdjachaaGreatDoorA5
import Derived.Lib.Bytealg
import Derived.Shelf.SlSortCmp.WholeK
import Derived.Lib.RowBridge
/-
  Part 6 of the tool: an abstract machine over the model, proved sound, and what it says of the functions that the law reaches. Condition: none but those that each theorem names.
-/
set_option linter.unusedVariables false
set_option linter.unusedSimpArgs false
set_option maxRecDepth 100000
set_option maxHeartbeats 4000000
namespace Go.Am
open Go.RowKit
section
attribute [local congr] aS eF bZ aT bC bk aU aI aJ bm bn
variable{E:bP}(M:dV ei E)
theorem UJ(e:Int)(i:Nat)(l:List Int):vu (fun _ e=>e) i (e::l)=sel (!(e == 0)) e (vu (fun _ e=>e) (i+1) l):=rfl
theorem UK(i:Nat):vu (fun _ (e:Int)=>e) i []=0:=rfl
theorem gX(hN:bq E)(hR:sZ E){l:Lex}{n:Nat}(hl:l.ok n){H:List ag}(hn:n≤H.length):M.run gv [.agg l.row] H=some (.ret (.int .u8 (bK l)),H):=by
 rw [aK M hR.truchmanref02_Check rfl (c:=pz) rfl,pz]
 have hp:(H++[ag.cells l.row au])[H.length]?=some (.cells l.row au):=by rw [cS];rfl
 have h0:=fun k He=>VS M hl hp (cut_app H _) k (l.vowels.length-1) 1 (by omega) He rfl
 have h1:=fun k=>VT M hN hl hp (cut_app H _) k l.spells.l.length 0 (by omega)
 have h2:=fun k=>VU M hN hR hl hp (cut_app H _) k l.links.l.length 0 (by omega)
 simp only [kv_cons,kv_nil,Int.ofNat_zero,(show ((1:Nat):Int)=1 from rfl),List.drop_zero,Pu] at h0 h1 h2
 have ho:=BI M hN hl.vowels (more:=[]) (by simp)
 have e1:vu (fun _ e=>e) 0 [Rq l,zD l,uQ l,xM l,zE l,BQ l]=sel (ofF [] l.vowels) (sel (Pt l.vowels) (sel (!(zD l == 0)) (zD l) (sel (!(uQ l == 0)) (uQ l) (sel (!(xM l == 0)) (xM l) (sel (!(zE l == 0)) (zE l) (BQ l))))) 1) 1:=by
  simp only [UJ,UK,Qv]
  cases ofF [] l.vowels with
  |false=>rfl
  |true=>
   cases Pt l.vowels with
   |false=>rfl
   |true=>
    simp only [sel]
    cases h5:BQ l == 0 with
    |false=>rfl
    |true=>rw [eq_of_beq h5];rfl
 rw [bK,e1]
 cases hb:uQ l == 0 with
 |false=>
  simp (maxSteps:=3000000) (maxDischargeDepth:=6) +contextual -implicitDefEqProofs only [amA M,amB,↓ae,↓aa,↓aj,↓ah,Nat.reduceBEq,Nat.reduceAdd,env,ao,ek,h0,bp,ho,Ie M hN hR hl,GB M hN hR hl,hb]
 |true=>
  have hsh:=Ob (eq_of_beq hb)
  have e4:zE l=sel (decide ((16:Int)<(l.spells.l.length:Int))) 3 (vu (fun _ x=>uP x) 0 l.spells.l):=rfl
  have e5:BQ l=sel (decide ((8:Int)<(l.links.l.length:Int))) 3 (vu (fun _ x=>GA l x) 0 l.links.l):=rfl
  have h1':∀ (x:Option Out),orE (bN (qF fun _ x=>uP x) 0 l.spells.l) H x=sel (vu (fun _ x=>uP x) 0 l.spells.l == 0) x (some (.ret (.int .u8 (vu (fun _ x=>uP x) 0 l.spells.l)),H)):=fun x=>by
   rw [← Gz,MQ]
  simp (maxSteps:=3000000) (maxDischargeDepth:=6) +contextual -implicitDefEqProofs only [amA M,amB,↓ae,↓aa,↓aj,↓ah,Nat.reduceBEq,Nat.reduceAdd,env,ao,ek,h0,h1,h2,h1',bp,ho,Ie M hN hR hl,GB M hN hR hl,MT M hN hR hl hsh,hn,hb,sw]
  rw [e4,e5]
  cases decide ((16:Int)<(l.spells.l.length:Int))<;>cases decide ((8:Int)<(l.links.l.length:Int))<;>simp only [sel,slc]<;>rfl
end
section
attribute [local congr] aS eF bZ aT bC bk aU aI aJ bm bn
variable{E:bP}(M:dV ei E)
abbrev w64(n:Int):Int:=IntKind.i64.wrap n
theorem Of{H L:List ag}{k k':IntKind}{a b:Int}{T T':TypeId}(L2:List ag):bU (H++(.cells [.int k a] T::L)) (H++(.cells [.int k' b] T'::(L++L2))):=
 ⟨by simp,fun i x hi hx=>by
  rcases Nat.lt_trichotomy i H.length with h | h | h
  ·left;rw [List.getElem?_append_left h] at hx ⊢;exact hx
  ·subst h;rw [cS] at hx;right
   obtain rfl:_=x:=by simpa using hx
   intro c hc
   simp only [List.mem_singleton] at hc
   subst hc;exact wk_int _ _ _
  ·left
   obtain ⟨j,rfl⟩:∃ j,i=H.length+(j+1):=⟨i-H.length-1,by omega⟩
   rw [hp_getk] at hx ⊢
   simp only [List.getElem?_cons_succ] at hx ⊢
   have:j<L.length:=by simp at hi;omega
   rwa [List.getElem?_append_left this] at hx⟩
theorem Hu{H:List ag}{k k':IntKind}{a b:Int}{T T':TypeId}(L2:List ag):bU (H++[.cells [.int k a] T]) (H++(.cells [.int k' b] T'::L2)):=Of (L:=[]) L2
theorem Rx{H L:List ag}{k k':IntKind}{a b:Int}{T T':TypeId}:bU (H++(.cells [.int k a] T::L)) (H++(.cells [.int k' b] T'::L)):=by
 have:=Of (H:=H) (L:=L) (k:=k) (k':=k') (a:=a) (b:=b) (T:=T) (T':=T') []
 rwa [List.append_nil] at this
theorem Vk(H L:List ag)(y:ag):(H++(y::L)).take (H.length+(L.length+1))=H++(y::L):=List.take_of_length_le (by simp)
theorem Pv(H L:List ag)(y:ag):(H++(y::L)).take (H.length+1)=H++[y]:=by
 rw [List.take_append];simp
 exact List.take_of_length_le (by omega)
def S3(m:Int)(f:aw):Int:=w64 (m+w64 (w64 (1+(f.name.length:Int))+(f.value.length:Int)))
def Kb(m:Int)(b:List aw):Int:=w64 ((b.take 100).foldl S3 m+(b.length:Int))
theorem MU{n m:Nat}(h:m=min 100 n):(decide (m<n)&&decide ((m:Int)<100))=false:=by
 rw [Bool.eq_false_iff];simp;omega
theorem Pw{i m n:Nat}(h:m=min 100 n)(hi:i<m):decide ((i:Int)<100)=true:=decide_eq_true (by omega)
theorem gr1{H H0:List ag}{L:List ag}{T:TypeId}{b Lf:List aw}(hM:Lf.length=min 100 b.length)(hL:∀ k,k<Lf.length→b[k]?=Lf[k]?){tg:Tag}(k:List Fra):∀ (n i:Nat) (m:Int) (He:List ag),i+n=Lf.length →
  M.go cU H0 (.c fX :: .lp ⟨(some [0,1,3]),[],false⟩ fX He :: .blk 0 :: .c (.lv [0,1])::k) (kv [(0,.slice tg 2 (b.map aw.row)),(1,.ptr H.length 0),(3,.int .i64 i)]) (H++(.cells [.int .i64 m] T::L)) =
   (M.go cU H0 k (kv [(0,.slice tg 2 (b.map aw.row)),(1,.ptr H.length 0)]) (H++(.cells [.int .i64 ((Lf.drop i).foldl S3 m)] T::L)))
 |0,i,m,He,h=>by
  have e:i=Lf.length:=by omega
  subst e
  rw [aq M fX.eq_1]
  simp (maxSteps:=3000000) (maxDischargeDepth:=6) +contextual -implicitDefEqProofs only [amA M,amB,↓ae,↓aa,↓aj,↓ah,Nat.reduceBEq,Nat.reduceAdd,env,ao,mO,Nat.lt_irrefl,List.drop_length,MU hM,List.foldl_nil]
 |n+1,i,m,He,h=>by
  have hi:i<Lf.length:=by omega
  have hx:Lf[i]?=some Lf[i]:=List.getElem?_eq_getElem hi
  have hd:(Lf.drop i)=Lf[i]::Lf.drop (i+1):=List.drop_eq_getElem_cons hi
  have hm:Lf[i]∈Lf:=List.getElem_mem hi
  have ih:=fun m He=>gr1 (H:=H) (H0:=H0) (L:=L) (T:=T) (b:=b) (Lf:=Lf) (hM:=hM) (hL:=hL) (tg:=tg) k n (i+1) m He (by omega)
  simp only [kv_cons,kv_nil] at ih
  have hib:i<b.length:=by omega
  have hxb:=(hL i hi).trans hx
  rw [aq M fX.eq_1]
  simp (maxSteps:=3000000) (maxDischargeDepth:=6) +contextual -implicitDefEqProofs only [amA M,amB,↓ae,↓aa,↓aj,↓ah,Nat.reduceBEq,Nat.reduceAdd,env,ao,mO,hx,hd,hi,ih,amG,AV.cell,hib,hxb,Pw hM hi,aC hib,qn,bt (n:=100) (show i<100 by omega) (by simp [aZ]),List.foldl_cons,S3]
theorem Fv(hg:E.fn hT=some cU){b:List aw}{tg:Tag}(H L:List ag)(m:Int)(T:TypeId) :
  M.run hT [.slice tg 2 (b.map aw.row),.ptr H.length 0] (H++(.cells [.int .i64 m] T::L))=some (.ret (.tuple []),H++(.cells [.int .i64 (Kb m b)] T::L)):=by
 rw [aK M hg rfl (c:=mN) rfl,mN]
 have h1:=fun k He=>gr1 M (H:=H) (H0:=H++(.cells [.int .i64 m] T::L)) (L:=L) (T:=T) (b:=b) (Lf:=b.take 100) (by simp) (Dy b 100) (tg:=tg) k (b.take 100).length 0 m He (by omega)
 simp only [kv_cons,kv_nil,Int.ofNat_zero,List.drop_zero] at h1
 simp (maxSteps:=3000000) (maxDischargeDepth:=6) +contextual -implicitDefEqProofs only [amA M,amB,↓ae,↓aa,↓aj,↓ah,Nat.reduceBEq,Nat.reduceAdd,env,ao,mO,amG,AV.cell,Nat.reduceMul,Nat.reduceLeDiff,h1,Rx,Vk,wk_tuple,Kb,lr_row1,List.set_cons_zero]
end
section
attribute [local congr] aS eF bZ aT bC bk aU aI aJ bm bn
variable{E:bP}(M:dV ei E)
structure Fw (E:bP):Prop where
 truchmanlaw02_Great_1:E.fn hT=some cU
 truchmanlaw02_Great:E.fn pb=some aD
abbrev ub(m:Int):ag:=.cells [.int .i64 m] EF
abbrev zF(n:Nat):AV:=.fn (.func hT) [] [.ptr n 0]
def Vl(m:Int)(s:Str):Int:=w64 (m+w64 (1+(s.length:Int)))
def Px(m:Int)(t:bA):Int:=w64 ((t.values.l.take 100).foldl Vl (w64 (m+w64 (1+(t.name.length:Int))))+(t.values.l.length:Int))
theorem gl0{H H0:List ag}{l:Lex}{p:Nat}{T:TypeId}(hp:H[p]?=some (.cells l.row T)){i0:Nat}{t:bA}(ht:l.traits.l[i0]?=some t){Lf:List Str}(hM:Lf.length=min 100 t.values.l.length)(hL:∀ k,k<Lf.length→t.values.l[k]?=Lf[k]?)(k:List Fra):∀ (n i:Nat) (m:Int) (He:List ag),i+n=Lf.length →
  M.go aD H0 (.c ie :: .lp ⟨(some [1,3,4,5,6]),[],false⟩ ie He :: .blk 2 :: .c (.lv [1,3,4,5])::k) (kv [(1,.ptr p 0),(3,.ptr H.length 0),(4,zF H.length),(5,.int .i64 i0),(6,.int .i64 i)]) (H++[ub m]) =
   (M.go aD H0 k (kv [(1,.ptr p 0),(3,.ptr H.length 0),(4,zF H.length),(5,.int .i64 i0)]) (H++[ub ((Lf.drop i).foldl Vl m)]))
 |0,i,m,He,h=>by
  have e:i=Lf.length:=by omega
  subst e
  rw [aq M ie.eq_1]
  simp (maxSteps:=3000000) (maxDischargeDepth:=6) +contextual -implicitDefEqProofs only [amA M,amB,↓ae,↓aa,↓aj,↓ah,Nat.reduceBEq,Nat.reduceAdd,env,ao,bc,Nat.lt_irrefl,List.drop_length,MU hM,List.foldl_nil,cC hp,bp,aC (List.getElem?_eq_some_iff.1 ht).1,ht,pa]
 |n+1,i,m,He,h=>by
  have hi:i<Lf.length:=by omega
  have hx:Lf[i]?=some Lf[i]:=List.getElem?_eq_getElem hi
  have hd:(Lf.drop i)=Lf[i]::Lf.drop (i+1):=List.drop_eq_getElem_cons hi
  have hm:Lf[i]∈Lf:=List.getElem_mem hi
  have ih:=fun m He=>gl0 (H:=H) (H0:=H0) (l:=l) (p:=p) (T:=T) (hp:=hp) (i0:=i0) (t:=t) (ht:=ht) (Lf:=Lf) (hM:=hM) (hL:=hL) k n (i+1) m He (by omega)
  simp only [kv_cons,kv_nil] at ih
  have hib:i<t.values.l.length:=by omega
  have hxb:=(hL i hi).trans hx
  rw [aq M ie.eq_1]
  simp (maxSteps:=3000000) (maxDischargeDepth:=6) +contextual -implicitDefEqProofs only [amA M,amB,↓ae,↓aa,↓aj,↓ah,Nat.reduceBEq,Nat.reduceAdd,env,ao,bc,hx,hd,hi,ih,amG,AV.cell,Nat.reduceMul,Nat.reduceLeDiff,cC hp,bp,aC (List.getElem?_eq_some_iff.1 ht).1,ht,pa,KM,hib,hxb,Pw hM hi,aC hib,bt (n:=100) (show i<100 by omega) (by simp [aZ]),List.foldl_cons,Vl]
theorem gl1{H H0:List ag}{l:Lex}{n0:Nat}(hl:l.ok n0){p:Nat}{T:TypeId}(hp:H[p]?=some (.cells l.row T))(k:List Fra):∀ (n i:Nat) (m:Int) (He:List ag),i+n=(l.traits.l).length →
  M.go aD H0 (.c ig :: .lp ⟨(some [1,3,4,5]),[],false⟩ ig He :: .blk 0 :: .c (.lv [1,3,4])::k) (kv [(1,.ptr p 0),(3,.ptr H.length 0),(4,zF H.length),(5,.int .i64 i)]) (H++[ub m]) =
   (M.go aD H0 k (kv [(1,.ptr p 0),(3,.ptr H.length 0),(4,zF H.length)]) (H++[ub ((l.traits.l.drop i).foldl Px m)]))
 |0,i,m,He,h=>by
  have e:i=(l.traits.l).length:=by omega
  subst e
  rw [aq M ig.eq_1]
  simp (maxSteps:=3000000) (maxDischargeDepth:=6) +contextual -implicitDefEqProofs only [amA M,amB,↓ae,↓aa,↓aj,↓ah,Nat.reduceBEq,Nat.reduceAdd,env,ao,bc,Nat.lt_irrefl,List.drop_length,List.foldl_nil,cC hp,bp]
 |n+1,i,m,He,h=>by
  have hi:i<(l.traits.l).length:=by omega
  have hx:(l.traits.l)[i]?=some (l.traits.l)[i]:=List.getElem?_eq_getElem hi
  have hd:((l.traits.l).drop i)=(l.traits.l)[i]::(l.traits.l).drop (i+1):=List.drop_eq_getElem_cons hi
  have hm:(l.traits.l)[i]∈(l.traits.l):=List.getElem_mem hi
  have ih:=fun m He=>gl1 (H:=H) (H0:=H0) (l:=l) (n0:=n0) (hl:=hl) (p:=p) (T:=T) (hp:=hp) k n (i+1) m He (by omega)
  simp only [kv_cons,kv_nil] at ih
  have h0:=fun m k He=>gl0 M (H0:=H0) hp (i0:=i) hx (Lf:=l.traits.l[i].values.l.take 100) (by simp) (Dy _ 100) k (l.traits.l[i].values.l.take 100).length 0 m He (by omega)
  simp only [kv_cons,kv_nil,Int.ofNat_zero,List.drop_zero] at h0
  rw [aq M ig.eq_1]
  simp (maxSteps:=3000000) (maxDischargeDepth:=6) +contextual -implicitDefEqProofs only [amA M,amB,↓ae,↓aa,↓aj,↓ah,Nat.reduceBEq,Nat.reduceAdd,env,ao,bc,hx,hd,hi,ih,amG,AV.cell,Nat.reduceMul,Nat.reduceLeDiff,cC hp,bp,aC hi,pa,h0,bt hi hl.traits.len,List.foldl_cons,Px]
def S4(m:Int)(s:bD):Int:=Kb (w64 (m+w64 (w64 (1+(s.pre.length:Int))+(s.add.length:Int)))) s.feats.l
def S5(c:aV):Bool:=decide ((12:Int)<(c.slots.l.length:Int))&&decide ((c.slots.l.length:Int)≤24)||decide ((60:Int)<(c.slots.l.length:Int))
def Py(m:Int)(c:aV):Int:=c.slots.l.foldl S4 (w64 (m+w64 (1+(c.name.length:Int))))
theorem gl2{H H0:List ag}(hg:Fw E){l:Lex}{n0:Nat}(hl:l.ok n0){p:Nat}{T:TypeId}(hp:H[p]?=some (.cells l.row T)){i0:Nat}{c:aV}(hci:l.classes.l[i0]?=some c)(k:List Fra):∀ (n i:Nat) (m:Int),i+n=(c.slots.l).length →
  M.go aD H0 (.c ij :: .lp ⟨(some [1,3,4,7,8]),[],true⟩ ij (H++[ub m]) :: .blk 6 :: .c (.lv [1,3,4,7])::k) (kv [(1,.ptr p 0),(3,.ptr H.length 0),(4,zF H.length),(7,.int .i64 i0),(8,.int .i64 i)]) (H++[ub m]) =
   (M.go aD H0 k (kv [(1,.ptr p 0),(3,.ptr H.length 0),(4,zF H.length),(7,.int .i64 i0)]) (H++[ub ((c.slots.l.drop i).foldl S4 m)]))
 |0,i,m,h=>by
  have e:i=(c.slots.l).length:=by omega
  subst e
  rw [aq M ij.eq_1]
  simp (maxSteps:=3000000) (maxDischargeDepth:=6) +contextual -implicitDefEqProofs only [amA M,amB,↓ae,↓aa,↓aj,↓ah,Nat.reduceBEq,Nat.reduceAdd,env,ao,bc,Nat.lt_irrefl,List.drop_length,List.foldl_nil,cC hp,bp,aC (List.getElem?_eq_some_iff.1 hci).1,hci,gW]
 |n+1,i,m,h=>by
  have hi:i<(c.slots.l).length:=by omega
  have hx:(c.slots.l)[i]?=some (c.slots.l)[i]:=List.getElem?_eq_getElem hi
  have hd:((c.slots.l).drop i)=(c.slots.l)[i]::(c.slots.l).drop (i+1):=List.drop_eq_getElem_cons hi
  have hm:(c.slots.l)[i]∈(c.slots.l):=List.getElem_mem hi
  have ih:=fun m=>gl2 (H:=H) (H0:=H0) (hg:=hg) (l:=l) (n0:=n0) (hl:=hl) (p:=p) (T:=T) (hp:=hp) (i0:=i0) (c:=c) (hci:=hci) k n (i+1) m (by omega)
  simp only [kv_cons,kv_nil] at ih
  have hco:=hl.classes.all c (List.mem_of_getElem? hci)
  have hpl:=(List.getElem?_eq_some_iff.1 hp).1
  have w1:Wk (H.length+1) (.ptr p 0) (.ptr p 0):=wk_ptr (by omega)
  have w2:Wk (H.length+1) (.ptr H.length 0) (.ptr H.length 0):=wk_ptr (by omega)
  have w3:Wk (H.length+1) (zF H.length) (zF H.length):=wk_fn trivial ⟨wk_ptr (by omega),trivial⟩
  rw [aq M ij.eq_1]
  simp (maxSteps:=3000000) (maxDischargeDepth:=6) +contextual -implicitDefEqProofs only [amA M,amB,↓ae,↓aa,↓aj,↓ah,Nat.reduceBEq,Nat.reduceAdd,env,ao,bc,hx,hd,hi,ih,amG,AV.cell,Nat.reduceMul,Nat.reduceLeDiff,cC hp,w1,w2,w3,Hu,Pv,bp,aC (List.getElem?_eq_some_iff.1 hci).1,hci,gW,aC hi,eU,Fv M hg.truchmanlaw02_Great_1,bt hi hco.slots.len,List.foldl_cons,S4]
theorem gl3{H H0:List ag}(hg:Fw E){l:Lex}{n0:Nat}(hl:l.ok n0){p:Nat}{T:TypeId}(hp:H[p]?=some (.cells l.row T))(hc:bU H0 H)(k:List Fra):∀ (n i:Nat) (m:Int),i+n=(l.classes.l).length →
  M.go aD H0 (.c ik :: .lp ⟨(some [1,3,4,7]),[],true⟩ ik (H++[ub m]) :: .blk 4 :: .c (.lv [1,3,4])::k) (kv [(1,.ptr p 0),(3,.ptr H.length 0),(4,zF H.length),(7,.int .i64 i)]) (H++[ub m]) =
   sel ((l.classes.l.drop i).any S5) (some (.ret (.bool true),H.take H0.length)) (M.go aD H0 k (kv [(1,.ptr p 0),(3,.ptr H.length 0),(4,zF H.length)]) (H++[ub ((l.classes.l.drop i).foldl Py m)]))
 |0,i,m,h=>by
  have e:i=(l.classes.l).length:=by omega
  subst e
  rw [aq M ik.eq_1]
  simp (maxSteps:=3000000) (maxDischargeDepth:=6) +contextual -implicitDefEqProofs only [amA M,amB,↓ae,↓aa,↓aj,↓ah,Nat.reduceBEq,Nat.reduceAdd,env,ao,bc,Nat.lt_irrefl,List.drop_length,List.foldl_nil,List.any_nil,cC hp,bp]
 |n+1,i,m,h=>by
  have hi:i<(l.classes.l).length:=by omega
  have hx:(l.classes.l)[i]?=some (l.classes.l)[i]:=List.getElem?_eq_getElem hi
  have hd:((l.classes.l).drop i)=(l.classes.l)[i]::(l.classes.l).drop (i+1):=List.drop_eq_getElem_cons hi
  have hm:(l.classes.l)[i]∈(l.classes.l):=List.getElem_mem hi
  have ih:=fun m=>gl3 (H:=H) (H0:=H0) (hg:=hg) (l:=l) (n0:=n0) (hl:=hl) (p:=p) (T:=T) (hp:=hp) hc k n (i+1) m (by omega)
  simp only [kv_cons,kv_nil] at ih
  have hco:=hl.classes.all _ hm
  have hpl:=(List.getElem?_eq_some_iff.1 hp).1
  have w1:Wk (H.length+1) (.ptr p 0) (.ptr p 0):=wk_ptr (by omega)
  have w2:Wk (H.length+1) (.ptr H.length 0) (.ptr H.length 0):=wk_ptr (by omega)
  have w3:Wk (H.length+1) (zF H.length) (zF H.length):=wk_fn trivial ⟨wk_ptr (by omega),trivial⟩
  have h0:=fun m k=>gl2 M (H0:=H0) hg hl hp (i0:=i) hx k l.classes.l[i].slots.l.length 0 m (by omega)
  simp only [kv_cons,kv_nil,Int.ofNat_zero,List.drop_zero] at h0
  rw [aq M ik.eq_1]
  simp (maxSteps:=3000000) (maxDischargeDepth:=6) +contextual -implicitDefEqProofs only [amA M,amB,↓ae,↓aa,↓aj,↓ah,Nat.reduceBEq,Nat.reduceAdd,env,ao,bc,hx,hd,hi,ih,amG,AV.cell,Nat.reduceMul,Nat.reduceLeDiff,cC hp,w1,w2,w3,Hu,Pv,bp,aC hi,gW,h0,bt hi hl.classes.len,List.foldl_cons,List.any_cons,Py,S5,hc]
  generalize (decide ((12:Int)<(l.classes.l[i].slots.l.length:Int))&&decide ((l.classes.l[i].slots.l.length:Int)≤24)||decide ((60:Int)<(l.classes.l[i].slots.l.length:Int)))=b
  cases b<;>simp only [slc,Bool.true_or,Bool.false_or]
end
section
attribute [local congr] aS eF bZ aT bC bk aU aI aJ bm bn
variable{E:bP}(M:dV ei E)
def irN(m:Int)(f:bQ):Int:=w64 (m+(f.word.length:Int))
def Pz(m:Int)(x:aQ):Int:=(x.forms.l.take 100).foldl irN (Kb (w64 (m+w64 (w64 (w64 (1+(x.lem.length:Int))+(x.cls.length:Int))+(x.forms.l.length:Int)))) x.feats.l)
theorem gl4{H H0:List ag}{x:aQ}{T2:TypeId}{p i0:Nat}{Lf:List bQ}(hM:Lf.length=min 100 x.forms.l.length)(hL:∀ k,k<Lf.length→x.forms.l[k]?=Lf[k]?)(k:List Fra):∀ (n i:Nat) (m:Int) (He:List ag),i+n=Lf.length →
  M.go aD H0 (.c il :: .lp ⟨(some [1,3,4,10,11,12]),[],false⟩ il He :: .blk 10 :: .c (.lv [1,3,4,10])::k) (kv [(1,.ptr p 0),(3,.ptr H.length 0),(4,zF H.length),(10,.int .i64 i0),(11,.ptr (H.length+1) 0),(12,.int .i64 i)]) (H++[ub m,.cells x.row T2]) =
   (M.go aD H0 k (kv [(1,.ptr p 0),(3,.ptr H.length 0),(4,zF H.length),(10,.int .i64 i0)]) (H++[ub ((Lf.drop i).foldl irN m),.cells x.row T2]))
 |0,i,m,He,h=>by
  have e:i=Lf.length:=by omega
  subst e
  rw [aq M il.eq_1]
  simp (maxSteps:=3000000) (maxDischargeDepth:=6) +contextual -implicitDefEqProofs only [amA M,amB,↓ae,↓aa,↓aj,↓ah,Nat.reduceBEq,Nat.reduceAdd,env,ao,bc,Nat.lt_irrefl,List.drop_length,MU hM,List.foldl_nil,dc]
 |n+1,i,m,He,h=>by
  have hi:i<Lf.length:=by omega
  have hx:Lf[i]?=some Lf[i]:=List.getElem?_eq_getElem hi
  have hd:(Lf.drop i)=Lf[i]::Lf.drop (i+1):=List.drop_eq_getElem_cons hi
  have hm:Lf[i]∈Lf:=List.getElem_mem hi
  have ih:=fun m He=>gl4 (H:=H) (H0:=H0) (x:=x) (T2:=T2) (p:=p) (i0:=i0) (Lf:=Lf) (hM:=hM) (hL:=hL) k n (i+1) m He (by omega)
  simp only [kv_cons,kv_nil] at ih
  have hib:i<x.forms.l.length:=by omega
  have hxb:=(hL i hi).trans hx
  rw [aq M il.eq_1]
  simp (maxSteps:=3000000) (maxDischargeDepth:=6) +contextual -implicitDefEqProofs only [amA M,amB,↓ae,↓aa,↓aj,↓ah,Nat.reduceBEq,Nat.reduceAdd,env,ao,bc,hx,hd,hi,ih,amG,AV.cell,Nat.reduceMul,Nat.reduceLeDiff,dc,Bt,hib,hxb,Pw hM hi,aC hib,bt (n:=100) (show i<100 by omega) (by simp [aZ]),List.foldl_cons,irN]
theorem gl5{H H0:List ag}(hg:Fw E){l:Lex}{n0:Nat}(hl:l.ok n0){p:Nat}{T:TypeId}(hp:H[p]?=some (.cells l.row T))(k:List Fra):∀ (n i:Nat) (m:Int),i+n=(l.entries.l).length →
  M.go aD H0 (.c im :: .lp ⟨(some [1,3,4,10]),[],true⟩ im (H++[ub m]) :: .blk 8 :: .c (.lv [1,3,4])::k) (kv [(1,.ptr p 0),(3,.ptr H.length 0),(4,zF H.length),(10,.int .i64 i)]) (H++[ub m]) =
   (M.go aD H0 k (kv [(1,.ptr p 0),(3,.ptr H.length 0),(4,zF H.length)]) (H++[ub ((l.entries.l.drop i).foldl Pz m)]))
 |0,i,m,h=>by
  have e:i=(l.entries.l).length:=by omega
  subst e
  rw [aq M im.eq_1]
  simp (maxSteps:=3000000) (maxDischargeDepth:=6) +contextual -implicitDefEqProofs only [amA M,amB,↓ae,↓aa,↓aj,↓ah,Nat.reduceBEq,Nat.reduceAdd,env,ao,bc,Nat.lt_irrefl,List.drop_length,List.foldl_nil,cC hp,bp]
 |n+1,i,m,h=>by
  have hi:i<(l.entries.l).length:=by omega
  have hx:(l.entries.l)[i]?=some (l.entries.l)[i]:=List.getElem?_eq_getElem hi
  have hd:((l.entries.l).drop i)=(l.entries.l)[i]::(l.entries.l).drop (i+1):=List.drop_eq_getElem_cons hi
  have hm:(l.entries.l)[i]∈(l.entries.l):=List.getElem_mem hi
  have ih:=fun m=>gl5 (H:=H) (H0:=H0) (hg:=hg) (l:=l) (n0:=n0) (hl:=hl) (p:=p) (T:=T) (hp:=hp) k n (i+1) m (by omega)
  simp only [kv_cons,kv_nil] at ih
  have hpl:=(List.getElem?_eq_some_iff.1 hp).1
  have w1:Wk (H.length+1) (.ptr p 0) (.ptr p 0):=wk_ptr (by omega)
  have w2:Wk (H.length+1) (.ptr H.length 0) (.ptr H.length 0):=wk_ptr (by omega)
  have w3:Wk (H.length+1) (zF H.length) (zF H.length):=wk_fn trivial ⟨wk_ptr (by omega),trivial⟩
  have h0:=fun m k He=>gl4 M (H:=H) (H0:=H0) (x:=l.entries.l[i]) (T2:=b6) (p:=p) (i0:=i) (Lf:=l.entries.l[i].forms.l.take 100) (by simp) (Dy _ 100) k (l.entries.l[i].forms.l.take 100).length 0 m He (by omega)
  simp only [kv_cons,kv_nil,Int.ofNat_zero,List.drop_zero] at h0
  rw [aq M im.eq_1]
  simp (maxSteps:=3000000) (maxDischargeDepth:=6) +contextual -implicitDefEqProofs only [amA M,amB,↓ae,↓aa,↓aj,↓ah,Nat.reduceBEq,Nat.reduceAdd,env,ao,bc,hx,hd,hi,ih,amG,AV.cell,Nat.reduceMul,Nat.reduceLeDiff,cC hp,w1,w2,w3,Hu,Pv,bp,aC hi,dc,h0,Fv M hg.truchmanlaw02_Great_1,bt hi hl.entries.len,List.foldl_cons,Pz]
def PA(m:Int)(x:br):Int:=w64 (m+w64 (w64 (w64 ((x.frm.length:Int)+(x.to.length:Int))+(x.left.length:Int))+(x.right.length:Int)))
def S6(m:Int)(x:eI):Int:=Kb (w64 (m+w64 ((x.cls.length:Int)+(x.glue.length:Int)))) x.feats.l
theorem gl6{H H0:List ag}{l:Lex}{n0:Nat}(hl:l.ok n0){p:Nat}{T:TypeId}(hp:H[p]?=some (.cells l.row T))(k:List Fra):∀ (n i:Nat) (m:Int) (He:List ag),i+n=(l.spells.l).length →
  M.go aD H0 (.c iq :: .lp ⟨(some [1,3,4,13]),[],false⟩ iq He :: .blk 12 :: .c (.lv [1,3,4])::k) (kv [(1,.ptr p 0),(3,.ptr H.length 0),(4,zF H.length),(13,.int .i64 i)]) (H++[ub m]) =
   (M.go aD H0 k (kv [(1,.ptr p 0),(3,.ptr H.length 0),(4,zF H.length)]) (H++[ub ((l.spells.l.drop i).foldl PA m)]))
 |0,i,m,He,h=>by
  have e:i=(l.spells.l).length:=by omega
  subst e
  rw [aq M iq.eq_1]
  simp (maxSteps:=3000000) (maxDischargeDepth:=6) +contextual -implicitDefEqProofs only [amA M,amB,↓ae,↓aa,↓aj,↓ah,Nat.reduceBEq,Nat.reduceAdd,env,ao,bc,Nat.lt_irrefl,List.drop_length,List.foldl_nil,cC hp,bp]
 |n+1,i,m,He,h=>by
  have hi:i<(l.spells.l).length:=by omega
  have hx:(l.spells.l)[i]?=some (l.spells.l)[i]:=List.getElem?_eq_getElem hi
  have hd:((l.spells.l).drop i)=(l.spells.l)[i]::(l.spells.l).drop (i+1):=List.drop_eq_getElem_cons hi
  have hm:(l.spells.l)[i]∈(l.spells.l):=List.getElem_mem hi
  have ih:=fun m He=>gl6 (H:=H) (H0:=H0) (l:=l) (n0:=n0) (hl:=hl) (p:=p) (T:=T) (hp:=hp) k n (i+1) m He (by omega)
  simp only [kv_cons,kv_nil] at ih
  rw [aq M iq.eq_1]
  simp (maxSteps:=3000000) (maxDischargeDepth:=6) +contextual -implicitDefEqProofs only [amA M,amB,↓ae,↓aa,↓aj,↓ah,Nat.reduceBEq,Nat.reduceAdd,env,ao,bc,hx,hd,hi,ih,amG,AV.cell,Nat.reduceMul,Nat.reduceLeDiff,cC hp,bp,aC hi,l9,bt hi hl.spells.len,List.foldl_cons,PA]
theorem gl7{H H0:List ag}(hg:Fw E){l:Lex}{n0:Nat}(hl:l.ok n0){p:Nat}{T:TypeId}(hp:H[p]?=some (.cells l.row T))(k:List Fra):∀ (n i:Nat) (m:Int) (He:List ag),i+n=(l.links.l).length →
  M.go aD H0 (.c ir :: .lp ⟨(some [1,3,4,14]),[],false⟩ ir He :: .blk 14 :: .c (.lv [3])::k) (kv [(1,.ptr p 0),(3,.ptr H.length 0),(4,zF H.length),(14,.int .i64 i)]) (H++[ub m]) =
   (M.go aD H0 k (kv [(3,.ptr H.length 0)]) (H++[ub ((l.links.l.drop i).foldl S6 m)]))
 |0,i,m,He,h=>by
  have e:i=(l.links.l).length:=by omega
  subst e
  rw [aq M ir.eq_1]
  simp (maxSteps:=3000000) (maxDischargeDepth:=6) +contextual -implicitDefEqProofs only [amA M,amB,↓ae,↓aa,↓aj,↓ah,Nat.reduceBEq,Nat.reduceAdd,env,ao,bc,Nat.lt_irrefl,List.drop_length,List.foldl_nil,cC hp,bp]
 |n+1,i,m,He,h=>by
  have hi:i<(l.links.l).length:=by omega
  have hx:(l.links.l)[i]?=some (l.links.l)[i]:=List.getElem?_eq_getElem hi
  have hd:((l.links.l).drop i)=(l.links.l)[i]::(l.links.l).drop (i+1):=List.drop_eq_getElem_cons hi
  have hm:(l.links.l)[i]∈(l.links.l):=List.getElem_mem hi
  have ih:=fun m He=>gl7 (H:=H) (H0:=H0) (hg:=hg) (l:=l) (n0:=n0) (hl:=hl) (p:=p) (T:=T) (hp:=hp) k n (i+1) m He (by omega)
  simp only [kv_cons,kv_nil] at ih
  rw [aq M ir.eq_1]
  simp (maxSteps:=3000000) (maxDischargeDepth:=6) +contextual -implicitDefEqProofs only [amA M,amB,↓ae,↓aa,↓aj,↓ah,Nat.reduceBEq,Nat.reduceAdd,env,ao,bc,hx,hd,hi,ih,amG,AV.cell,Nat.reduceMul,Nat.reduceLeDiff,cC hp,bp,aC hi,LG,Fv M hg.truchmanlaw02_Great_1,bt hi hl.links.len,List.foldl_cons,S6]
def S7(l:Lex):Bool:=
 decide ((60:Int)<(l.entries.l.length:Int))&&decide ((l.entries.l.length:Int)≤128)||decide ((200:Int)<(l.entries.l.length:Int))||decide ((40:Int)<(l.traits.l.length:Int))||decide ((40:Int)<(l.classes.l.length:Int))||decide ((40:Int)<(l.spells.l.length:Int))||decide ((40:Int)<(l.links.l.length:Int)) ||
  (l.classes.l.any S5||decide (6000<l.links.l.foldl S6 (l.spells.l.foldl PA (l.entries.l.foldl Pz (l.classes.l.foldl Py (l.traits.l.foldl Px (l.vowels.length:Int)))))))
theorem Ry(hg:Fw E){l:Lex}{n:Nat}(hl:l.ok n)(H:List ag):M.run pb [.agg l.row] H=some (.ret (.bool (S7 l)),H):=by
 rw [aK M hg.truchmanlaw02_Great rfl (c:=pq) rfl,pq]
 have hp:(H++[ag.cells l.row au])[H.length]?=some (.cells l.row au):=by rw [cS];rfl
 have h1:=fun m k He=>gl1 M (H0:=H) hl hp k l.traits.l.length 0 m He (by omega)
 have h3:=fun m k=>gl3 M (H0:=H) hg hl hp (cut_app H _) k l.classes.l.length 0 m (by omega)
 have h5:=fun m k=>gl5 M (H0:=H) hg hl hp k l.entries.l.length 0 m (by omega)
 have h6:=fun m k He=>gl6 M (H0:=H) hl hp k l.spells.l.length 0 m He (by omega)
 have h7:=fun m k He=>gl7 M (H0:=H) hg hl hp k l.links.l.length 0 m He (by omega)
 simp only [kv_cons,kv_nil,Int.ofNat_zero,List.drop_zero,lo_app3,ML,lo_app0,lo_len,lo_len1,lo_len0,Nat.zero_add,hp_take] at h1 h3 h5 h6 h7
 simp (maxSteps:=3000000) (maxDischargeDepth:=6) +contextual -implicitDefEqProofs only [amA M,amB,↓ae,↓aa,↓aj,↓ah,Nat.reduceBEq,Nat.reduceAdd,env,ao,bc,amG,AV.cell,Nat.reduceMul,Nat.reduceLeDiff,h1,h3,h5,h6,h7,bp,S7,Bool.or_assoc]
end
section
attribute [local congr] aS eF bZ aT bC bk aU aI aJ bm bn
variable{E:bP}(M:dV ei E)
structure sy (M:dV ei E):Prop where
 index:∀ (s:Str) (c:UInt8) (H:List ag),M.run dy [.str s,.int .u8 c.toNat] H=some (.ret (.int .i64 (Lib.indexByte s c)),H)
 same:∀ (i o:Nat) (H:List ag),M.run hZ [.ptr i o] H=some (.ret (.ptr i o),H)
structure s4 (E:bP):Prop where
 strings_Builder_WriteString:E.fn aE=some cQ
 strings_Builder_WriteByte:E.fn fq=some dk
 strings_Builder_String:E.fn dn=some dY
 strings_Builder_Len:E.fn pj=some fo
 strings_Builder_copyCheck:E.fn cD=some dm
abbrev gQ(s:Str):List (List AV):=s.map fun b=>[.int .u8 (b.toNat:Int)]
abbrev bTok(w:Str):ag:=.tok w.length dN
abbrev kT(a:AV)(n:Nat)(w:Str)(T:TypeId):ag:=.cells [a,.slice (.own n) 1 (gQ w)] T
theorem PB(s:Str):si 1 (gQ s)=true:=by simp [si,gQ,AV.cell]
theorem GC:∀ s:Str,r8 (gQ s)=some s
 |[]=>rfl
 |c::s=>by
  have:=GC s
  simp only [gQ] at this ⊢
  simp only [List.map_cons,r8,this,Option.map_some]
  congr 2
  simp
theorem Og:∀ s:Str,DL (gQ s)=true
 |[]=>rfl
 |c::s=>by
  have:=Og s
  simp only [gQ] at this ⊢
  simp only [List.map_cons,DL,this,Bool.and_true,Bool.and_eq_true,decide_eq_true_eq]
  have:=c.toNat_lt
  omega
theorem L3(w s:Str):gQ (w++s)=gQ w++(gQ s).map (·.map AV.strip):=by
 simp only [gQ,List.map_append,List.map_map]
 congr 1
theorem S8(H L:List ag){w s:Str}(h:w.length+s.length≤140737488355328)(x:AV)(hx:∀ H,E2 H 1 true x=some (gQ s)) :
  rap false (H++(bTok w::L)) dN 1 1 true (.slice (.own H.length) 1 (gQ w)) x=some (.slice (.own H.length) 1 (gQ (w++s)),H++(bTok (w++s)::L)):=by
 have h1:(gQ w).length=w.length:=by simp [gQ]
 have h2:(gQ s).length=s.length:=by simp [gQ]
 have hc:(w.length+s.length)*1≤140737488355328∧w.length+s.length≤4611686018427387904∧si 1 (gQ s)=true:=⟨by omega,by omega,PB s⟩
 rw [L3]
 cases s with
 |nil=>simp [rap,FZ,hx,h1,gQ,si];simp at h;omega
 |cons c s=>
  simp only [rap,FZ,hx,h1,h2,or_true,true_and,hc,if_true,and_self]
  simp only [gQ,List.map_cons,cS,List.getElem?_cons_zero,hp_set0,List.set_cons_zero,Nat.mul_one,List.length_cons,List.length_map,and_self,if_true,List.length_append,bTok]
theorem Un(s:Str)(H:List ag):E2 H 1 true (.str s)=some (gQ s):=by simp [E2]
theorem PC(H L:List ag){w s:Str}(h:w.length+s.length≤140737488355328) :
  rap false (H++(bTok w::L)) dN 1 1 true (.slice (.own H.length) 1 (gQ w)) (.str s)=some (.slice (.own H.length) 1 (gQ (w++s)),H++(bTok (w++s)::L)):=S8 H L h _ (Un s)
theorem Qw(H L:List ag){w:Str}{c:UInt8}(h:w.length+1≤140737488355328) :
  rap false (H++(bTok w::L)) dN 1 1 false (.slice (.own H.length) 1 (gQ w)) (.slice .full 1 [[.int .u8 (c.toNat:Int)]])=some (.slice (.own H.length) 1 (gQ (w++[c])),H++(bTok (w++[c])::L)):=by
 have h1:(gQ w).length=w.length:=by simp [gQ]
 have hc:(w.length+1)*1≤140737488355328∧w.length+1≤4611686018427387904:=⟨by omega,by omega⟩
 simp only [rap,FZ,E2,h1,or_true,if_true,List.length_cons,List.length_nil,Nat.zero_add,true_and,hc,and_self]
 simp [si,AV.cell,cS,hp_set0,L3,gQ,AV.strip,h1,List.map_append]
theorem UL(H L:List ag)(w:Str)(hw:w.length≤9223372036854775807):Mu (H++(bTok w::L)) dN (.sdp H.length (gQ w)) (.int .i64 (w.length:Int))=some (.str w):=by
 cases w with
 |nil=>simp [gQ,Mu]
 |cons c w=>
  have h1:=GC (c::w)
  have h2:=Og (c::w)
  simp only [gQ,List.map_cons] at h1 h2 ⊢
  simp only [Mu,cS,List.getElem?_cons_zero,h1,h2]
  rw [if_pos]
  exact ⟨trivial,trivial,Nat.le_refl _,hw,trivial⟩
theorem UM(n:Nat)(w:Str):QQ (.slice (.own n) 1 (gQ w))=some (.sdp n (gQ w)):=by cases w<;>rfl
theorem GD{H L:List ag}{n n':Nat}{T T' T1 T2:TypeId}{cs cs':List AV}(h:WkL (H.length+(L.length+1+1)) cs' cs'):bU (H++(.tok n T :: .cells cs T1::L)) (H++(.tok n' T' :: .cells cs' T2::L)):=
 ⟨by simp,fun i x hi hx=>by
  rcases Nat.lt_trichotomy i H.length with hl | hl | hl
  ·left;rw [List.getElem?_append_left hl] at hx ⊢;exact hx
  ·subst hl;rw [cS] at hx;right
   obtain rfl:_=x:=by simpa using hx
   trivial
  ·obtain ⟨j,rfl⟩:∃ j,i=H.length+(j+1):=⟨i-H.length-1,by omega⟩
   rw [hp_getk] at hx ⊢
   cases j with
   |zero=>
    right
    obtain rfl:_=x:=by simpa using hx
    intro c hc
    obtain ⟨k,hk⟩:=List.getElem?_of_mem hc
    obtain ⟨y,h1,h2⟩:=h.get k c hk
    rw [hk] at h1;cases h1
    simpa [Nat.add_assoc] using h2
   |succ j=>left;simpa using hx⟩
theorem vw(H L:List ag)(x y:ag):(H++(x::y::L)).take (H.length+(L.length+1+1))=H++(x::y::L):=List.take_of_length_le (by simp)
theorem Oh(n:Nat)(w:Str):qk n (gQ w):=by
 rw [rowsWk_map];exact fun _ _=>⟨wk_int _ _ _,trivial⟩
theorem S9(H L:List ag)(w:Str):WkL (H.length+(L.length+1+1)) [.ptr (H.length+1) 0,.slice (.own H.length) 1 (gQ w)] [.ptr (H.length+1) 0,.slice (.own H.length) 1 (gQ w)]:=
 ⟨wk_ptr (by omega),wk_slice (show H.length<_ by omega) (Oh _ _),trivial⟩
theorem qU:(∀ (a:Env) (H:List ag) (x:RX),rop a H (.usl x)=cK H (QQ (rx a x)))∧(∀ (a:Env) (H:List ag) (e:TypeId) (x n:RX),rop a H (.ust e x n)=cK H (Mu H e (rx a x) (rx a n)))∧(∀ (a:Env) (H:List ag) (x:RX),rop a H (.cvu x)=cK H (OP H (rx a x)))∧(∀ (a:Env) (H:List ag) (u:TypeId) (sz:Nat) (x:RX),rop a H (.cvf u sz x)=cK H (OQ H u sz (rx a x))) ∧
 (∀ (a:Env) (H:List ag) (cs:List AV) (e:TypeId) (j:Nat) (T:TypeId),rop a H (.nwb cs e j T)=some (.ptr (H.length+1) 0,H++[.tok 0 T,.cells (cs.set j (.slice (.own H.length) 1 [])) e])):=
 ⟨fun _ _ _=>rfl,fun _ _ _ _ _=>rfl,fun _ _ _=>rfl,fun _ _ _ _ _=>rfl,fun _ _ _ _ _ _=>rfl⟩
theorem Oi:req .ptr .nilp .nilp=some true:=rfl
theorem Kc(i o:Nat):req .ptr (.ptr i o) .nilp=some false:=rfl
theorem Oj(i o:Nat):req .ptr (.ptr i o) (.ptr i o)=some true:=by simp [req]
theorem VV(H L:List ag)(x:ag)(a b:AV)(T:TypeId):OP (H++(x :: .cells [a,b] T::L)) (.ptr (H.length+1) 0)=some (.ptr (H.length+1) 0):=by
 simp [OP,hp_getk]
theorem VW(H L:List ag)(x:ag)(a b:AV)(T:TypeId):OQ (H++(x :: .cells [a,b] T::L)) T 2 (.ptr (H.length+1) 0)=some (.ptr (H.length+1) 0):=by
 simp [OQ,hp_getk]
theorem Dz(hB:s4 E)(hX:sy M)(H L:List ag)(w:Str) :
  M.run cD [.ptr (H.length+1) 0] (H++(bTok w::kT .nilp H.length w bu::L))=some (.ret (.tuple []),H++(bTok w::kT (.ptr (H.length+1) 0) H.length w bu::L)):=by
 rw [aK M hB.strings_Builder_copyCheck rfl (c:=bT) rfl,bT]
 have h1:=hX.same (H.length+1) 0
 have hw:=S9 H L w
 simp (maxSteps:=3000000) (maxDischargeDepth:=6) +contextual -implicitDefEqProofs only [amA M,amB,↓ae,↓aa,↓aj,↓ah,Nat.reduceBEq,Nat.reduceAdd,env,ao,iO,amG,AV.cell,Nat.reduceMul,Nat.reduceLeDiff,h1,qU,Oi,rnc,VV,VW,GD hw,vw,wk_tuple]
theorem DA(hB:s4 E)(H L:List ag)(w:Str)(T:TypeId) :
  M.run cD [.ptr (H.length+1) 0] (H++(bTok w::kT (.ptr (H.length+1) 0) H.length w T::L))=some (.ret (.tuple []),H++(bTok w::kT (.ptr (H.length+1) 0) H.length w T::L)):=by
 rw [aK M hB.strings_Builder_copyCheck rfl (c:=bT) rfl,bT]
 simp (maxSteps:=3000000) (maxDischargeDepth:=6) +contextual -implicitDefEqProofs only [amA M,amB,↓ae,↓aa,↓aj,↓ah,Nat.reduceBEq,Nat.reduceAdd,env,ao,iO,Kc,Oj,rnc,vw,wk_tuple]
theorem Hv(hB:s4 E)(hX:sy M)(H L:List ag){w s:Str}{T:TypeId}(h:w.length+s.length≤140737488355328) :
  M.run aE [.ptr (H.length+1) 0,.str s] (H++(bTok w::kT .nilp H.length w bu::L))=some (.ret (.tuple [.int .i64 s.length,.nilif]),H++(bTok (w++s)::kT (.ptr (H.length+1) 0) H.length (w++s) bu::L)):=by
 rw [aK M hB.strings_Builder_WriteString rfl (c:=cP) rfl,cP]
 have hw:=S9 H L (w++s)
 simp (maxSteps:=3000000) (maxDischargeDepth:=6) +contextual -implicitDefEqProofs only [amA M,amB,↓ae,↓aa,↓aj,↓ah,Nat.reduceBEq,Nat.reduceAdd,env,ao,eK,amG,AV.cell,Nat.reduceMul,Nat.reduceLeDiff,(Dz M hB hX),rnc,PC _ _ h,GD hw,vw,wk_tuple]
theorem Kd(hB:s4 E)(hX:sy M)(H L:List ag){w:Str}{c:UInt8}{T:TypeId}(h:w.length+1≤140737488355328) :
  M.run fq [.ptr (H.length+1) 0,.int .u8 c.toNat] (H++(bTok w::kT .nilp H.length w bu::L))=some (.ret .nilif,H++(bTok (w++[c])::kT (.ptr (H.length+1) 0) H.length (w++[c]) bu::L)):=by
 rw [aK M hB.strings_Builder_WriteByte rfl (c:=fw) rfl,fw]
 have hw:=S9 H L (w++[c])
 simp (maxSteps:=3000000) (maxDischargeDepth:=6) +contextual -implicitDefEqProofs only [amA M,amB,↓ae,↓aa,↓aj,↓ah,Nat.reduceBEq,Nat.reduceAdd,env,ao,p8,amG,AV.cell,Nat.reduceMul,Nat.reduceLeDiff,(Dz M hB hX),rnc,Qw _ _ h,GD hw,vw,wk_tuple]
theorem Hw(hB:s4 E)(hX:sy M)(H L:List ag){w s:Str}{T:TypeId}(h:w.length+s.length≤140737488355328) :
  M.run aE [.ptr (H.length+1) 0,.str s] (H++(bTok w::kT (.ptr (H.length+1) 0) H.length w T::L))=some (.ret (.tuple [.int .i64 s.length,.nilif]),H++(bTok (w++s)::kT (.ptr (H.length+1) 0) H.length (w++s) T::L)):=by
 rw [aK M hB.strings_Builder_WriteString rfl (c:=cP) rfl,cP]
 have hw:=S9 H L (w++s)
 simp (maxSteps:=3000000) (maxDischargeDepth:=6) +contextual -implicitDefEqProofs only [amA M,amB,↓ae,↓aa,↓aj,↓ah,Nat.reduceBEq,Nat.reduceAdd,env,ao,eK,amG,AV.cell,Nat.reduceMul,Nat.reduceLeDiff,(DA M hB),rnc,PC _ _ h,GD hw,vw,wk_tuple]
theorem Ke(hB:s4 E)(hX:sy M)(H L:List ag){w:Str}{c:UInt8}{T:TypeId}(h:w.length+1≤140737488355328) :
  M.run fq [.ptr (H.length+1) 0,.int .u8 c.toNat] (H++(bTok w::kT (.ptr (H.length+1) 0) H.length w T::L))=some (.ret .nilif,H++(bTok (w++[c])::kT (.ptr (H.length+1) 0) H.length (w++[c]) T::L)):=by
 rw [aK M hB.strings_Builder_WriteByte rfl (c:=fw) rfl,fw]
 have hw:=S9 H L (w++[c])
 simp (maxSteps:=3000000) (maxDischargeDepth:=6) +contextual -implicitDefEqProofs only [amA M,amB,↓ae,↓aa,↓aj,↓ah,Nat.reduceBEq,Nat.reduceAdd,env,ao,p8,amG,AV.cell,Nat.reduceMul,Nat.reduceLeDiff,(DA M hB),rnc,Qw _ _ h,GD hw,vw,wk_tuple]
theorem Ol(hB:s4 E)(H L:List ag){w:Str}{a:AV}{T:TypeId}(hw:w.length≤9223372036854775807) :
  M.run dn [.ptr (H.length+1) 0] (H++(bTok w::kT a H.length w T::L))=some (.ret (.str w),H++(bTok w::kT a H.length w T::L)):=by
 rw [aK M hB.strings_Builder_String rfl (c:=gP) rfl,gP]
 simp (maxSteps:=3000000) (maxDischargeDepth:=6) +contextual -implicitDefEqProofs only [amA M,amB,↓ae,↓aa,↓aj,↓ah,Nat.reduceBEq,Nat.reduceAdd,env,ao,ml,qU,rnc,UM,UL H _ w hw,vw]
theorem Ta(hB:s4 E)(H L:List ag){w:Str}{a:AV}{T:TypeId} :
  M.run pj [.ptr (H.length+1) 0] (H++(bTok w::kT a H.length w T::L))=some (.ret (.int .i64 w.length),H++(bTok w::kT a H.length w T::L)):=by
 rw [aK M hB.strings_Builder_Len rfl (c:=pO) rfl,pO]
 simp (maxSteps:=3000000) (maxDischargeDepth:=6) +contextual -implicitDefEqProofs only [amA M,amB,↓ae,↓aa,↓aj,↓ah,Nat.reduceBEq,Nat.reduceAdd,env,ao,Cp,rnc,vw]
end
section
attribute [local congr] aS eF bZ aT bC bk aU aI aJ bm bn
variable{E:bP}(M:dV ei E)
structure SpE (E:bP):Prop where
 internal_stringslite_HasPrefix:E.fn iU=some b7
 internal_stringslite_IndexByte:E.fn cT=some b8
 morph_language_left:E.fn ph=some dE
 morph_language_match:E.fn kx=some eQ
 morph_language_right:E.fn nL=some dj
 morph_language_spell:E.fn nJ=some dg
 strings_HasPrefix:E.fn ri=some gl
 strings_IndexByte:E.fn rj=some gp
theorem A6{s:Str}{k:IntKind}{i:Nat}(h:i≤s.length):Mt (.str s) (some (.int k (i:Int))) none=some (.str (s.drop i)):=by
 simp [Mt,fP,h]
 exact List.take_of_length_le (by simp)
theorem PD{s:Str}{k:IntKind}{i:Nat}(h:i≤s.length):Mt (.str s) none (some (.int k (i:Int)))=some (.str (s.take i)):=by
 simp [Mt,fP,h]
theorem GE{s:Str}{k k':IntKind}{i j:Nat}(h:i≤j)(hj:j≤s.length):Mt (.str s) (some (.int k (i:Int))) (some (.int k' (j:Int)))=some (.str ((s.drop i).take (j-i))):=by
 simp [Mt,fP,h,hj]
def BS(s p:Str):Bool:=decide (p.length≤s.length)&&(s.take p.length == p)
theorem Kf(hS:SpE E)(s p:Str)(H:List ag):M.run iU [.str s,.str p] H=some (.ret (.bool (BS s p)),H):=by
 rw [aK M hS.internal_stringslite_HasPrefix rfl (c:=jb) rfl,jb]
 cases hd:decide (p.length≤s.length) with
 |true=>
  have hle:p.length≤s.length:=of_decide_eq_true hd
  simp (maxSteps:=3000000) (maxDischargeDepth:=6) +contextual -implicitDefEqProofs only [amA M,amB,↓ae,↓aa,↓aj,↓ah,Nat.reduceBEq,Nat.reduceAdd,env,ao,lV,BS,hd,PD hle]
 |false=>
  simp (maxSteps:=3000000) (maxDischargeDepth:=6) +contextual -implicitDefEqProofs only [amA M,amB,↓ae,↓aa,↓aj,↓ah,Nat.reduceBEq,Nat.reduceAdd,env,ao,lV,BS,hd]
theorem u6(hS:SpE E)(s p:Str)(H:List ag):M.run ri [.str s,.str p] H=some (.ret (.bool (BS s p)),H):=by
 have h1:=Kf M hS s p H
 rw [aK M hS.strings_HasPrefix rfl (c:=rk) rfl,rk]
 simp (maxSteps:=3000000) (maxDischargeDepth:=6) +contextual -implicitDefEqProofs only [amA M,amB,↓ae,↓aa,↓aj,↓ah,Nat.reduceBEq,Nat.reduceAdd,env,ao,D2,h1]
theorem L4:∀ (s:Str) (c:UInt8),decide ((0:Int)≤Lib.indexByte s c)=s.any fun d=>d == c
 |[],c=>rfl
 |d::s,c=>by
  rw [Lib.indexByte,List.any_cons,← L4 s c]
  cases h:d == c with
  |true=>simp
  |false=>
   have hg:=Lib.indexByte_ge s c
   simp only [Bool.false_or]
   by_cases h2:Lib.indexByte s c = -1
   ·simp [h2]
   ·have:(Lib.indexByte s c == -1)=false:=by simpa using h2
    simp only [this]
    rw [Bool.eq_iff_iff];simp;omega
theorem K6(hS:SpE E)(hX:sy M)(s:Str)(c:UInt8)(H:List ag):M.run rj [.str s,.int .u8 c.toNat] H=some (.ret (.int .i64 (Lib.indexByte s c)),H):=by
 have h1:M.run cT [.str s,.int .u8 c.toNat] H=some (.ret (.int .i64 (Lib.indexByte s c)),H):=by
  rw [aK M hS.internal_stringslite_IndexByte rfl (c:=dU) rfl,dU]
  simp (maxSteps:=3000000) (maxDischargeDepth:=6) +contextual -implicitDefEqProofs only [amA M,amB,↓ae,↓aa,↓aj,↓ah,Nat.reduceBEq,Nat.reduceAdd,env,ao,lW,hX.index]
 rw [aK M hS.strings_IndexByte rfl (c:=rl) rfl,rl]
 simp (maxSteps:=3000000) (maxDischargeDepth:=6) +contextual -implicitDefEqProofs only [amA M,amB,↓ae,↓aa,↓aj,↓ah,Nat.reduceBEq,Nat.reduceAdd,env,ao,D4,h1]
def Kg(s:Str)(at_:Int):Option UInt8:=if at_<0 then none else s[at_.toNat]?
def isV(v:Str)(c:UInt8):Bool:=v.any fun d=>d == c
def uc(v:Str)(p:UInt8)(s:Str)(at_:Int):Bool:=
 match Kg s at_ with
 |none=>((p.toNat:Int) == 35)&&((at_ == -1)||(at_ == (s.length:Int)))
 |some c=>sel ((p.toNat:Int) == 67) (jt c && !isV v c) (sel ((p.toNat:Int) == 86) (jt c&&isV v c) (p.toNat == c.toNat))
theorem L5(hN:bq E)(hS:SpE E)(hX:sy M){l:Lex}(p:UInt8)(s:Str)(at_:Int)(H:List ag) :
  M.run kx [.agg l.row,.int .u8 p.toNat,.str s,.int .i64 at_] H=some (.ret (.bool (uc l.vowels p s at_)),H):=by
 rw [aK M hS.morph_language_match rfl (c:=oq) rfl,oq]
 by_cases h:at_<0
 ·have e:Kg s at_=none:=if_pos h
  have hd:decide (at_<0)=true:=decide_eq_true h
  simp (maxSteps:=3000000) (maxDischargeDepth:=6) +contextual -implicitDefEqProofs only [amA M,amB,↓ae,↓aa,↓aj,↓ah,Nat.reduceBEq,Nat.reduceAdd,env,ao,ot,hd,uc,e,cut_app]
 ·obtain ⟨j,rfl⟩:∃ j:Nat,at_=(j:Int):=⟨at_.toNat,by omega⟩
  have e:Kg s (j:Int)=s[j]? := by simp [Kg,h]
  by_cases hj:j<s.length
  ·have hx:s[j]?=some s[j]:=List.getElem?_eq_getElem hj
   have hd:decide (s.length≤j)=false:=decide_eq_false (by omega)
   simp (maxSteps:=3000000) (maxDischargeDepth:=6) +contextual -implicitDefEqProofs only [amA M,amB,↓ae,↓aa,↓aj,↓ah,Nat.reduceBEq,Nat.reduceAdd,env,ao,ot,IP,hd,hx,uc,e,bp,cut_app,K6 M hS hX,L4,oC M hN.letter,isV]
  ·have hx:s[j]?=none:=List.getElem?_eq_none (by omega)
   have hd:decide (s.length≤j)=true:=decide_eq_true (by omega)
   simp (maxSteps:=3000000) (maxDischargeDepth:=6) +contextual -implicitDefEqProofs only [amA M,amB,↓ae,↓aa,↓aj,↓ah,Nat.reduceBEq,Nat.reduceAdd,env,ao,ot,IP,hd,hx,uc,e,cut_app]
def Tb{α:Type}(f:Nat→α→Bool):Nat→List α→Bool
 |_,[]=>true
 |i,x::l=>f i x&&Tb f (i+1) l
def K7{α:Type}(f:Nat→α→Bool):Nat→α→Option AV:=fun i x=>sel (f i x) none (some (.bool false))
theorem BU{α:Type}(f:Nat→α→Bool)(H:List ag)(x:Option Out):∀ (l:List α) (i:Nat),orE (bN (K7 f) i l) H x=sel (Tb f i l) x (some (.ret (.bool false),H))
 |[],_=>rfl
 |y::l,i=>by
  rw [kH,MN,BU f H x l,Tb]
  unfold K7
  cases f i y<;>rfl
theorem spl{H H0:List ag}(hN:bq E)(hS:SpE E)(hX:sy M){l:Lex}{q:Str}{s:Str}{a:Nat}(ha:a≤aZ){L:Str}(hLl:L.length=q.length)(hqs:q.length≤aZ)(hL:∀ k,k<L.length→q[q.length-1-k]?=L[k]?){p:Nat}{T:TypeId}(hp:H[p]?=some (.cells l.row T))(hc:bU H0 H)(k:List Fra):∀ (n i:Nat) (He:List ag),i+n=L.length →
  M.go dE H0 (.c iI :: .lp ⟨(some [1,2,3,4,11,12]),[],false⟩ iI He :: .blk 0 :: .c (.lv [])::k) (kv [(1,.str q),(2,.str s),(3,.int .i64 a),(4,.ptr p 0),(11,.int .i64 L.length),(12,.int .i64 i)]) H =
   orE (bN (K7 fun k c=>uc l.vowels c s ((a:Int)-1-(k:Int))) i (L.drop i)) (H.take H0.length) (M.go dE H0 k .leaf H)
 |0,i,He,h=>by
  have e:i=L.length:=by omega
  subst e
  rw [aq M iI.eq_1]
  simp (maxSteps:=3000000) (maxDischargeDepth:=6) +contextual -implicitDefEqProofs only [amA M,amB,↓ae,↓aa,↓aj,↓ah,Nat.reduceBEq,Nat.reduceAdd,env,ao,pN,Nat.lt_irrefl,List.drop_length]
 |n+1,i,He,h=>by
  have hi:i<L.length:=by omega
  have hx:L[i]?=some L[i]:=List.getElem?_eq_getElem hi
  have hd:(L.drop i)=L[i]::L.drop (i+1):=List.drop_eq_getElem_cons hi
  have hm:L[i]∈L:=List.getElem_mem hi
  have ih:=fun He=>spl (H:=H) (H0:=H0) (hN:=hN) (hS:=hS) (hX:=hX) (l:=l) (q:=q) (s:=s) (a:=a) (ha:=ha) (L:=L) (hLl:=hLl) (hqs:=hqs) (hL:=hL) (p:=p) (T:=T) (hp:=hp) hc k n (i+1)  He (by omega)
  simp only [kv_cons,kv_nil] at ih
  have hq:=(hL i hi).trans hx
  have e1:IntKind.i64.wrap ((q.length:Int)-1)=((q.length-1:Nat):Int):=Qk (by omega) hqs
  have e2:IntKind.i64.wrap (((q.length-1:Nat):Int)-(i:Int))=((q.length-1-i:Nat):Int):=by
   simp only [aZ] at hqs;rw [dx (by omega) (by omega)];omega
  have e3:IntKind.i64.wrap ((a:Int)-1)=(a:Int)-1:=by simp only [aZ] at ha;exact dx (by omega) (by omega)
  have e4:IntKind.i64.wrap ((a:Int)-1-(i:Int))=(a:Int)-1-(i:Int):=by simp only [aZ] at ha hqs;exact dx (by omega) (by omega)
  rw [aq M iI.eq_1]
  simp (maxSteps:=3000000) (maxDischargeDepth:=6) +contextual -implicitDefEqProofs only [amA M,amB,↓ae,↓aa,↓aj,↓ah,Nat.reduceBEq,Nat.reduceAdd,env,ao,pN,hx,hd,hi,ih,hq,e1,e2,e3,e4,hp,bp,L5 M hN hS hX,bt hi (show L.length≤aZ by omega),K7,hc]
def L6(v p s:Str)(a:Nat):Bool:=Tb (fun k c=>uc v c s ((a:Int)-1-(k:Int))) 0 p.reverse
theorem Qx(q:Str):∀ k,k<q.reverse.length→q[q.length-1-k]?=q.reverse[k]? := fun k hk=>by
 rw [List.getElem?_reverse (by simpa using hk)]
theorem Tc(hN:bq E)(hS:SpE E)(hX:sy M){l:Lex}{q:Str}(hq:q.length≤aZ)(s:Str){a:Nat}(ha:a≤aZ)(H:List ag) :
  M.run ph [.agg l.row,.str q,.str s,.int .i64 a] H=some (.ret (.bool (L6 l.vowels q s a)),H):=by
 rw [aK M hS.morph_language_left rfl (c:=pM) rfl,pM]
 have h1:=fun k He=>spl M hN hS hX (H:=H++[.cells l.row aM]) (H0:=H) (l:=l) (q:=q) (s:=s) ha (L:=q.reverse) (by simp) hq (Qx q) (p:=H.length) (T:=aM) (by rw [cS];rfl) (cut_app H _) k q.reverse.length 0 He (by omega)
 simp only [kv_cons,kv_nil,Int.ofNat_zero,List.drop_zero,BU,List.length_reverse] at h1
 simp (maxSteps:=3000000) (maxDischargeDepth:=6) +contextual -implicitDefEqProofs only [amA M,amB,↓ae,↓aa,↓aj,↓ah,Nat.reduceBEq,Nat.reduceAdd,env,ao,pN,h1,L6,cut_app]
theorem spr{H H0:List ag}(hN:bq E)(hS:SpE E)(hX:sy M){l:Lex}{q:Str}{s:Str}{a:Nat}(ha:a+q.length≤aZ){p:Nat}{T:TypeId}(hp:H[p]?=some (.cells l.row T))(hc:bU H0 H)(k:List Fra):∀ (n i:Nat) (He:List ag),i+n=q.length →
  M.go dj H0 (.c gO :: .lp ⟨(some [1,2,3,4,11,12]),[],false⟩ gO He :: .blk 0 :: .c (.lv [])::k) (kv [(1,.str q),(2,.str s),(3,.int .i64 a),(4,.ptr p 0),(11,.int .i64 q.length),(12,.int .i64 i)]) H =
   orE (bN (K7 fun k c=>uc l.vowels c s ((a+k:Nat):Int)) i (q.drop i)) (H.take H0.length) (M.go dj H0 k .leaf H)
 |0,i,He,h=>by
  have e:i=q.length:=by omega
  subst e
  rw [aq M gO.eq_1]
  simp (maxSteps:=3000000) (maxDischargeDepth:=6) +contextual -implicitDefEqProofs only [amA M,amB,↓ae,↓aa,↓aj,↓ah,Nat.reduceBEq,Nat.reduceAdd,env,ao,om,Nat.lt_irrefl,List.drop_length]
 |n+1,i,He,h=>by
  have hi:i<q.length:=by omega
  have hx:q[i]?=some q[i]:=List.getElem?_eq_getElem hi
  have hd:(q.drop i)=q[i]::q.drop (i+1):=List.drop_eq_getElem_cons hi
  have hm:q[i]∈q:=List.getElem_mem hi
  have ih:=fun He=>spr (H:=H) (H0:=H0) (hN:=hN) (hS:=hS) (hX:=hX) (l:=l) (q:=q) (s:=s) (a:=a) (ha:=ha) (p:=p) (T:=T) (hp:=hp) hc k n (i+1)  He (by omega)
  simp only [kv_cons,kv_nil] at ih
  have e1:IntKind.i64.wrap ((a:Int)+(i:Int))=((a+i:Nat):Int):=by simp only [aZ] at ha;rw [dx (by omega) (by omega)];omega
  rw [aq M gO.eq_1]
  simp (maxSteps:=3000000) (maxDischargeDepth:=6) +contextual -implicitDefEqProofs only [amA M,amB,↓ae,↓aa,↓aj,↓ah,Nat.reduceBEq,Nat.reduceAdd,env,ao,om,hx,hd,hi,ih,e1,hp,bp,L5 M hN hS hX,bt hi (show q.length≤aZ by omega),K7,hc]
def Kh(v p s:Str)(a:Nat):Bool:=Tb (fun k c=>uc v c s ((a+k:Nat):Int)) 0 p
theorem Rz(hN:bq E)(hS:SpE E)(hX:sy M){l:Lex}{q:Str}(s:Str){a:Nat}(ha:a+q.length≤aZ)(H:List ag) :
  M.run nL [.agg l.row,.str q,.str s,.int .i64 a] H=some (.ret (.bool (Kh l.vowels q s a)),H):=by
 rw [aK M hS.morph_language_right rfl (c:=oh) rfl,oh]
 have h1:=fun k He=>spr M hN hS hX (H:=H++[.cells l.row aM]) (H0:=H) (l:=l) (q:=q) (s:=s) ha (p:=H.length) (T:=aM) (by rw [cS];rfl) (cut_app H _) k q.length 0 He (by omega)
 simp only [kv_cons,kv_nil,Int.ofNat_zero,List.drop_zero,BU] at h1
 simp (maxSteps:=3000000) (maxDischargeDepth:=6) +contextual -implicitDefEqProofs only [amA M,amB,↓ae,↓aa,↓aj,↓ah,Nat.reduceBEq,Nat.reduceAdd,env,ao,om,h1,Kh,cut_app]
end
section
attribute [local congr] aS eF bZ aT bC bk aU aI aJ bm bn
variable{E:bP}(M:dV ei E)
def PE(v:Str)(x:br)(s:Str)(i:Nat):Bool:=BS (s.drop i) x.frm&&(L6 v x.left s i&&Kh v x.right s (i+x.frm.length))
def DB(v:Str)(x:br)(s:Str):Nat→Nat→Str→Str
 |0,_,w=>w
 |n+1,i,w=>match s[i]? with
  |none=>w
  |some c=>match PE v x s i with
   |true=>DB v x s n (i+x.frm.length) (w++x.to)
   |false=>DB v x s n (i+1) (w++[c])
def uC(v:Str)(x:br)(s:Str):Str:=DB v x s (s.length+1) 0 []
theorem Ki(v:Str)(x:br)(s:Str)(ht:x.to.length≤6):∀ (n i:Nat) (w:Str),(DB v x s n i w).length≤w.length+6*n
 |0,i,w=>by simp only [DB];omega
 |n+1,i,w=>by
  unfold DB
  split
  ·omega
  ·split
   ·have:=Ki v x s ht n (i+x.frm.length) (w++x.to)
    simp only [List.length_append] at this
    omega
   ·rename_i c _ _ _
    have:=Ki v x s ht n (i+1) (w++[c])
    simp only [List.length_append,List.length_singleton] at this
    omega
theorem RA(v:Str)(x:br)(s:Str)(ht:x.to.length≤6):(uC v x s).length≤6*(s.length+1):=by
 have:=Ki v x s ht (s.length+1) 0 []
 simpa [uC] using this
theorem Hx(hB:s4 E)(hX:sy M)(H L:List ag){w s:Str}{a:AV}(ha:a = .nilp∨a = .ptr (H.length+1) 0)(h:w.length+s.length≤140737488355328) :
  M.run aE [.ptr (H.length+1) 0,.str s] (H++(bTok w::kT a H.length w bu::L))=some (.ret (.tuple [.int .i64 s.length,.nilif]),H++(bTok (w++s)::kT (.ptr (H.length+1) 0) H.length (w++s) bu::L)):=by
 rcases ha with rfl | rfl
 ·exact Hv M (T:=0) hB hX H L h
 ·exact Hw M hB hX H L h
theorem Kj(hB:s4 E)(hX:sy M)(H L:List ag){w:Str}{c:UInt8}{a:AV}(ha:a = .nilp∨a = .ptr (H.length+1) 0)(h:w.length+1≤140737488355328) :
  M.run fq [.ptr (H.length+1) 0,.int .u8 c.toNat] (H++(bTok w::kT a H.length w bu::L))=some (.ret .nilif,H++(bTok (w++[c])::kT (.ptr (H.length+1) 0) H.length (w++[c]) bu::L)):=by
 rcases ha with rfl | rfl
 ·exact Kd M (T:=0) hB hX H L h
 ·exact Ke M hB hX H L h
theorem spw(hN:bq E)(hS:SpE E)(hX:sy M)(hB:s4 E){l:Lex}{x:br}{n0:Nat}(hx0:x.ok n0)(h0:x.frm≠[])(ht:x.to.length≤6)(hfr:x.frm.length≤6)(hri:x.right.length≤6){s:Str}(hs:s.length≤1000000)
  {H H0:List ag}{p q:Nat}{T T2:TypeId} (hp:H[p]?=some (.cells l.row T)) (hq:H[q]?=some (.cells x.row T2)):∀ (n i:Nat) (w:Str) (a:AV),(a = .nilp∨a = .ptr (H.length+1) 0)→s.length<i+n→i≤s.length+6→w.length≤6*i →
  ∃ a',∀ (k:List Fra) (He:List ag),M.go dg H0 (.c dW :: .lp ⟨(some [2,3,4,8,9]),[],false⟩ dW He :: .blk 0 :: .c (.lv [8])::k) (kv [(2,.str s),(3,.ptr p 0),(4,.ptr q 0),(8,.ptr (H.length+1) 0),(9,.int .i64 i)]) (H++[bTok w,kT a H.length w bu]) =
   M.go dg H0 k (kv [(8,.ptr (H.length+1) 0)]) (H++[bTok (DB l.vowels x s n i w),kT a' H.length (DB l.vowels x s n i w) bu])
 |0,i,w,a,ha,hn,hi,hw=>by
  refine ⟨a,fun k He => ?_⟩
  have e:¬ i<s.length:=by omega
  rw [DB]
  rw [aq M dW.eq_1]
  simp (maxSteps:=3000000) (maxDischargeDepth:=6) +contextual -implicitDefEqProofs only [amA M,amB,↓ae,↓aa,↓aj,↓ah,Nat.reduceBEq,Nat.reduceAdd,env,ao,eM,e]
 |n+1,i,w,a,ha,hn,hi,hw=>by
  have hp':=fun L=>cC (L:=L) hp
  have hq':=fun L=>cC (L:=L) hq
  by_cases h:i<s.length
  ·have hx:s[i]?=some s[i]:=List.getElem?_eq_getElem h
   have hf:0<x.frm.length:=by cases hxf:x.frm with
    |nil=>exact absurd hxf h0
    |cons a b=>simp
   have l1:=fun H=>Tc M hN hS hX (l:=l) hx0.left s (show i≤aZ by simp only [aZ];omega) H
   have r1:=fun H=>Rz M hN hS hX (l:=l) (q:=x.right) s (show (i+x.frm.length)+x.right.length≤aZ by simp only [aZ];omega) H
   have e1:IntKind.i64.wrap ((i:Int)+(x.frm.length:Int))=((i+x.frm.length:Nat):Int):=by rw [dx (by omega) (by omega)];omega
   cases hA:PE l.vowels x s i with
   |true=>
    obtain ⟨a',ih⟩:=spw hN hS hX hB hx0 h0 ht hfr hri hs hp hq n (i+x.frm.length) (w++x.to) (.ptr (H.length+1) 0) (.inr rfl) (by omega) (by omega) (by simp;omega)
    refine ⟨a',fun k He => ?_⟩
    simp only [kv_cons,kv_nil] at ih
    rw [DB,hx,hA]
    simp only [PE,Bool.and_eq_true] at hA
    have w1:=Hx M hB hX H [] (w:=w) (s:=x.to) ha (by omega)
    rw [aq M dW.eq_1]
    simp (maxSteps:=3000000) (maxDischargeDepth:=6) +contextual -implicitDefEqProofs only [amA M,amB,↓ae,↓aa,↓aj,↓ah,Nat.reduceBEq,Nat.reduceAdd,env,ao,eM,h,hx,ih,hp',hq',bp,l9,A6 (Nat.le_of_lt h),u6 M hS,l1,r1,e1,hA.1,hA.2.1,hA.2.2,w1]
    all_goals exact ih _ _
   |false=>
    obtain ⟨a',ih⟩:=spw hN hS hX hB hx0 h0 ht hfr hri hs hp hq n (i+1) (w++[s[i]]) (.ptr (H.length+1) 0) (.inr rfl) (by omega) (by omega) (by simp;omega)
    refine ⟨a',fun k He => ?_⟩
    simp only [kv_cons,kv_nil] at ih
    rw [DB,hx,hA]
    have w1:=Kj M hB hX H [] (w:=w) (c:=s[i]) ha (by omega)
    have hA2:(BS (s.drop i) x.frm&&L6 l.vowels x.left s i&&Kh l.vowels x.right s (i+x.frm.length))=false:=by rw [← hA,PE,Bool.and_assoc]
    rw [aq M dW.eq_1]
    cases c1:BS (s.drop i) x.frm with
    |false=>
     simp (maxSteps:=3000000) (maxDischargeDepth:=6) +contextual -implicitDefEqProofs only [amA M,amB,↓ae,↓aa,↓aj,↓ah,Nat.reduceBEq,Nat.reduceAdd,env,ao,eM,h,hx,ih,hp',hq',bp,l9,A6 (Nat.le_of_lt h),u6 M hS,c1,w1,bt h (show s.length≤aZ by simp only [aZ];omega)]
     all_goals exact ih _ _
    |true=>
     cases c2:L6 l.vowels x.left s i with
     |false=>
      simp (maxSteps:=3000000) (maxDischargeDepth:=6) +contextual -implicitDefEqProofs only [amA M,amB,↓ae,↓aa,↓aj,↓ah,Nat.reduceBEq,Nat.reduceAdd,env,ao,eM,h,hx,ih,hp',hq',bp,l9,A6 (Nat.le_of_lt h),u6 M hS,l1,c1,c2,w1,bt h (show s.length≤aZ by simp only [aZ];omega)]
      all_goals exact ih _ _
     |true=>
      rw [c1,c2] at hA2
      simp only [Bool.true_and] at hA2
      simp (maxSteps:=3000000) (maxDischargeDepth:=6) +contextual -implicitDefEqProofs only [amA M,amB,↓ae,↓aa,↓aj,↓ah,Nat.reduceBEq,Nat.reduceAdd,env,ao,eM,h,hx,ih,hp',hq',bp,l9,A6 (Nat.le_of_lt h),u6 M hS,l1,r1,e1,c1,c2,hA2,w1,bt h (show s.length≤aZ by simp only [aZ];omega)]
      all_goals exact ih _ _
  ·refine ⟨a,fun k He => ?_⟩
   have hx:s[i]?=none:=List.getElem?_eq_none (by omega)
   rw [DB,hx]
   rw [aq M dW.eq_1]
   simp (maxSteps:=3000000) (maxDischargeDepth:=6) +contextual -implicitDefEqProofs only [amA M,amB,↓ae,↓aa,↓aj,↓ah,Nat.reduceBEq,Nat.reduceAdd,env,ao,eM,h]
theorem RB(hN:bq E)(hS:SpE E)(hX:sy M)(hB:s4 E){l:Lex}{x:br}{n0:Nat}(hx0:x.ok n0)(h0:x.frm≠[])(ht:x.to.length≤6)(hfr:x.frm.length≤6)(hri:x.right.length≤6){s:Str}(hs:s.length≤1000000)(H:List ag) :
  M.run nJ [.agg l.row,.agg x.row,.str s] H=some (.ret (.tuple [.str (uC l.vowels x s),.bool (decide (((uC l.vowels x s).length:Int)≤512))]),H):=by
 rw [aK M hS.morph_language_spell rfl (c:=nV) rfl,nV]
 have hlen:(uC l.vowels x s).length≤9223372036854775807:=by have:=RA l.vowels x s ht;omega
 obtain ⟨a',h1⟩:=spw M hN hS hX hB hx0 h0 ht hfr hri hs (l:=l) (H:=H++[.cells l.row aM,.cells x.row c7]) (H0:=H) (p:=H.length) (q:=H.length+1) (T:=aM) (T2:=c7) (by rw [cS];rfl) (by rw [hp_getk];rfl) (s.length+1) 0 [] .nilp (.inl rfl) (by omega) (by omega) (by simp)
 have h2:=Ol M hB (H++[.cells l.row aM,.cells x.row c7]) [] (a:=a') (T:=bu) hlen
 have h3:=Ta M hB (H++[.cells l.row aM,.cells x.row c7]) [] (w:=uC l.vowels x s) (a:=a') (T:=bu)
 rw [← uC] at h1
 simp only [kv_cons,kv_nil,Int.ofNat_zero,lo_app3,ML,lo_app0,lo_len,lo_len1,lo_len0,Nat.zero_add,Nat.reduceAdd,Nat.add_assoc,(show bTok [] = .tok 0 dN from rfl),(show ∀ a n T,kT a n [] T = .cells [a,.slice (.own n) 1 []] T from fun _ _ _=>rfl)] at h1 h2 h3
 simp (maxSteps:=3000000) (maxDischargeDepth:=6) +contextual -implicitDefEqProofs only [amA M,amB,↓ae,↓aa,↓aj,↓ah,Nat.reduceBEq,Nat.reduceAdd,env,ao,eM,amG,AV.cell,Nat.reduceMul,Nat.reduceLeDiff,qU,Nat.add_assoc,h1,h2,h3,wk_tuple]
end
section
attribute [local congr] aS eF bZ aT bC bk aU aI aJ bm bn
variable{E:bP}(M:dV ei E)
structure Er (E:bP):Prop where
 truchmanref02_matches:E.fn jV=some dI
 truchmanref02_applies:E.fn mL=some cu
 truchmanref02_rewrite:E.fn mK=some dH
theorem rma{H H0:List ag}{l:Lex}{n0:Nat}(hl:l.ok n0){pc:UInt8}{s:Str}{j:Nat}(hj:j<s.length){p:Nat}{T:TypeId}(hp:H[p]?=some (.cells l.row T))(k:List Fra):∀ (n i:Nat) (b:Bool) (He:List ag),i+n=(l.vowels).length →
  M.go dI H0 (.c gi :: .lp ⟨(some [1,2,3,4,9,10]),[],false⟩ gi He :: .blk 0 :: .c (.lv [1,2,3,9])::k) (kv [(1,.int .u8 pc.toNat),(2,.str s),(3,.int .i64 j),(4,.ptr p 0),(9,.bool b),(10,.int .i64 i)]) H =
   (M.go dI H0 k (kv [(1,.int .u8 pc.toNat),(2,.str s),(3,.int .i64 j),(9,.bool (b||(l.vowels.drop i).any fun d=>d.toNat == s[j].toNat))]) H)
 |0,i,b,He,h=>by
  have e:i=(l.vowels).length:=by omega
  subst e
  rw [aq M gi.eq_1]
  simp (maxSteps:=3000000) (maxDischargeDepth:=6) +contextual -implicitDefEqProofs only [amA M,amB,↓ae,↓aa,↓aj,↓ah,Nat.reduceBEq,Nat.reduceAdd,env,ao,iM,Nat.lt_irrefl,List.drop_length,bp,hp,List.any_nil]
 |n+1,i,b,He,h=>by
  have hi:i<(l.vowels).length:=by omega
  have hx:(l.vowels)[i]?=some (l.vowels)[i]:=List.getElem?_eq_getElem hi
  have hd:((l.vowels).drop i)=(l.vowels)[i]::(l.vowels).drop (i+1):=List.drop_eq_getElem_cons hi
  have hm:(l.vowels)[i]∈(l.vowels):=List.getElem_mem hi
  have ih:=fun b He=>rma (H:=H) (H0:=H0) (l:=l) (n0:=n0) (hl:=hl) (pc:=pc) (s:=s) (j:=j) (hj:=hj) (p:=p) (T:=T) (hp:=hp) k n (i+1) b He (by omega)
  simp only [kv_cons,kv_nil] at ih
  have hxj:s[j]?=some s[j]:=List.getElem?_eq_getElem hj
  have hlv:=hl.vowels
  rw [aq M gi.eq_1]
  simp (maxSteps:=3000000) (maxDischargeDepth:=6) +contextual -implicitDefEqProofs only [amA M,amB,↓ae,↓aa,↓aj,↓ah,Nat.reduceBEq,Nat.reduceAdd,env,ao,iM,hx,hd,hi,ih,hxj,bp,hp,bt hi hlv,List.any_cons,Bool.or_assoc]
theorem RC(c d:UInt8):(c.toNat == d.toNat)=(c == d):=by
 rw [Bool.eq_iff_iff];simp [UInt8.toNat_inj]
theorem Td{v:Str}(hv:v.all jt=true)(p:UInt8)(s:Str)(c:UInt8):sel ((p.toNat:Int) == 67) (jt c && !isV v c) (sel ((p.toNat:Int) == 86) (jt c&&isV v c) (p.toNat == c.toNat))=sel ((p.toNat:Int) == 86) (isV v c) (sel ((p.toNat:Int) == 67) (jt c && !isV v c) (p.toNat == c.toNat)):=by
 have h:isV v c=true→jt c=true:=fun h=>by
  obtain ⟨d,hd,he⟩:=List.any_eq_true.1 h
  rw [← eq_of_beq he]
  exact List.all_eq_true.1 hv d hd
 by_cases h1:(p.toNat:Int)=67
 ·have h2:((p.toNat:Int) == 86)=false:=by rw [h1];rfl
  have h3:((p.toNat:Int) == 67)=true:=by simpa using h1
  rw [h2,h3];rfl
 ·have h3:((p.toNat:Int) == 67)=false:=by simpa using h1
  rw [h3]
  cases hV:isV v c with
  |true=>rw [h hV];rfl
  |false=>cases ((p.toNat:Int) == 86)<;>simp [sel]
theorem GF(hN:bq E)(hR:Er E){l:Lex}{n0:Nat}(hl:l.ok n0)(hv:l.vowels.all jt=true)(p:UInt8)(s:Str)(at_:Int)(H:List ag) :
  M.run jV [.agg l.row,.int .u8 p.toNat,.str s,.int .i64 at_] H=some (.ret (.bool (uc l.vowels p s at_)),H):=by
 rw [aK M hR.truchmanref02_matches rfl (c:=mZ) rfl,mZ]
 by_cases h:at_<0
 ·have e:Kg s at_=none:=if_pos h
  have hd:decide (at_<0)=true:=decide_eq_true h
  simp (maxSteps:=3000000) (maxDischargeDepth:=6) +contextual -implicitDefEqProofs only [amA M,amB,↓ae,↓aa,↓aj,↓ah,Nat.reduceBEq,Nat.reduceAdd,env,ao,iM,hd,uc,e,cut_app]
 ·obtain ⟨j,rfl⟩:∃ j:Nat,at_=(j:Int):=⟨at_.toNat,by omega⟩
  have e:Kg s (j:Int)=s[j]? := by simp [Kg,h]
  by_cases hj:j<s.length
  ·have hx:s[j]?=some s[j]:=List.getElem?_eq_getElem hj
   have hd:decide (s.length≤j)=false:=decide_eq_false (by omega)
   have h1:=fun b k He=>rma M (H:=H++[.cells l.row au]) (H0:=H) hl (pc:=p) (s:=s) (j:=j) hj (p:=H.length) (T:=au) (by rw [cS];rfl) k l.vowels.length 0 b He (by omega)
   simp only [kv_cons,kv_nil,Int.ofNat_zero,List.drop_zero,RC] at h1
   have e2:=Td hv p s s[j]
   simp (maxSteps:=3000000) (maxDischargeDepth:=6) +contextual -implicitDefEqProofs only [amA M,amB,↓ae,↓aa,↓aj,↓ah,Nat.reduceBEq,Nat.reduceAdd,env,ao,iM,IP,hd,hx,uc,e,h1,cut_app,Fq M hN.Letter,isV]
   exact congrArg (fun b=>some (wg.ret (AV.bool b),H)) e2.symm
  ·have hx:s[j]?=none:=List.getElem?_eq_none (by omega)
   have hd:decide (s.length≤j)=true:=decide_eq_true (by omega)
   simp (maxSteps:=3000000) (maxDischargeDepth:=6) +contextual -implicitDefEqProofs only [amA M,amB,↓ae,↓aa,↓aj,↓ah,Nat.reduceBEq,Nat.reduceAdd,env,ao,iM,IP,hd,hx,uc,e,cut_app]
theorem VX{H H0:List ag}(hN:bq E)(hR:Er E){l:Lex}{n0:Nat}(hl:l.ok n0)(hv:l.vowels.all jt=true){x:br}(hx0:x.ok n0){s:Str}{a:Nat}(ha:a≤aZ){L:Str}(hLl:L.length=x.left.length)(hL:∀ k,k<L.length→x.left[x.left.length-1-k]?=L[k]?){p q:Nat}{T T2:TypeId}(hp:H[p]?=some (.cells l.row T))(hqq:H[q]?=some (.cells x.row T2))(hc:bU H0 H)(k:List Fra):∀ (n i:Nat) (He:List ag),i+n=L.length →
  M.go cu H0 (.c gg :: .lp ⟨(some [2,3,4,5,9]),[],false⟩ gg He :: .blk 0 :: .c (.lv [2,3,4,5])::k) (kv [(2,.str s),(3,.int .i64 a),(4,.ptr p 0),(5,.ptr q 0),(9,.int .i64 i)]) H =
   orE (bN (K7 fun k c=>uc l.vowels c s ((a:Int)-1-(k:Int))) i (L.drop i)) (H.take H0.length) (M.go cu H0 k (kv [(2,.str s),(3,.int .i64 a),(4,.ptr p 0),(5,.ptr q 0)]) H)
 |0,i,He,h=>by
  have e:i=L.length:=by omega
  subst e
  rw [aq M gg.eq_1]
  simp (maxSteps:=3000000) (maxDischargeDepth:=6) +contextual -implicitDefEqProofs only [amA M,amB,↓ae,↓aa,↓aj,↓ah,Nat.reduceBEq,Nat.reduceAdd,env,ao,fA,Nat.lt_irrefl,List.drop_length,l9,hqq,(show decide (L.length<x.left.length)=false from decide_eq_false (by omega))]
 |n+1,i,He,h=>by
  have hi:i<L.length:=by omega
  have hx:L[i]?=some L[i]:=List.getElem?_eq_getElem hi
  have hd:(L.drop i)=L[i]::L.drop (i+1):=List.drop_eq_getElem_cons hi
  have hm:L[i]∈L:=List.getElem_mem hi
  have ih:=fun He=>VX (H:=H) (H0:=H0) (hN:=hN) (hR:=hR) (l:=l) (n0:=n0) (hl:=hl) (hv:=hv) (x:=x) (hx0:=hx0) (s:=s) (a:=a) (ha:=ha) (L:=L) (hLl:=hLl) (hL:=hL) (p:=p) (q:=q) (T:=T) (T2:=T2) (hp:=hp) (hqq:=hqq) hc k n (i+1)  He (by omega)
  simp only [kv_cons,kv_nil] at ih
  have hq:=(hL i hi).trans hx
  have hqs:=hx0.left
  have hil:decide (i<x.left.length)=true:=decide_eq_true (by omega)
  have e1:IntKind.i64.wrap ((x.left.length:Int)-1)=((x.left.length-1:Nat):Int):=Qk (by omega) hqs
  have e2:IntKind.i64.wrap (((x.left.length-1:Nat):Int)-(i:Int))=((x.left.length-1-i:Nat):Int):=by
   simp only [aZ] at hqs;rw [dx (by omega) (by omega)];omega
  have e3:IntKind.i64.wrap ((a:Int)-1)=(a:Int)-1:=by simp only [aZ] at ha;exact dx (by omega) (by omega)
  have e4:IntKind.i64.wrap ((a:Int)-1-(i:Int))=(a:Int)-1-(i:Int):=by simp only [aZ] at ha hqs;exact dx (by omega) (by omega)
  rw [aq M gg.eq_1]
  simp (maxSteps:=3000000) (maxDischargeDepth:=6) +contextual -implicitDefEqProofs only [amA M,amB,↓ae,↓aa,↓aj,↓ah,Nat.reduceBEq,Nat.reduceAdd,env,ao,fA,hx,hd,hi,ih,hq,hil,e1,e2,e3,e4,hp,hqq,bp,l9,GF M hN hR hl hv,bt hi (show L.length≤aZ by omega),K7,hc]
theorem VY{H H0:List ag}(hN:bq E)(hR:Er E){l:Lex}{n0:Nat}(hl:l.ok n0)(hv:l.vowels.all jt=true){x:br}{s:Str}{a:Nat}(ha:a+x.frm.length+x.right.length≤aZ){p q:Nat}{T T2:TypeId}(hp:H[p]?=some (.cells l.row T))(hqq:H[q]?=some (.cells x.row T2))(hc:bU H0 H)(k:List Fra):∀ (n i:Nat) (He:List ag),i+n=(x.right).length →
  M.go cu H0 (.c gh :: .lp ⟨(some [2,3,4,5,10]),[],false⟩ gh He :: .blk 2 :: .c (.lv [])::k) (kv [(2,.str s),(3,.int .i64 a),(4,.ptr p 0),(5,.ptr q 0),(10,.int .i64 i)]) H =
   orE (bN (K7 fun k c=>uc l.vowels c s ((a+x.frm.length+k:Nat):Int)) i (x.right.drop i)) (H.take H0.length) (M.go cu H0 k .leaf H)
 |0,i,He,h=>by
  have e:i=(x.right).length:=by omega
  subst e
  rw [aq M gh.eq_1]
  simp (maxSteps:=3000000) (maxDischargeDepth:=6) +contextual -implicitDefEqProofs only [amA M,amB,↓ae,↓aa,↓aj,↓ah,Nat.reduceBEq,Nat.reduceAdd,env,ao,fA,Nat.lt_irrefl,List.drop_length,l9,hqq]
 |n+1,i,He,h=>by
  have hi:i<(x.right).length:=by omega
  have hx:(x.right)[i]?=some (x.right)[i]:=List.getElem?_eq_getElem hi
  have hd:((x.right).drop i)=(x.right)[i]::(x.right).drop (i+1):=List.drop_eq_getElem_cons hi
  have hm:(x.right)[i]∈(x.right):=List.getElem_mem hi
  have ih:=fun He=>VY (H:=H) (H0:=H0) (hN:=hN) (hR:=hR) (l:=l) (n0:=n0) (hl:=hl) (hv:=hv) (x:=x) (s:=s) (a:=a) (ha:=ha) (p:=p) (q:=q) (T:=T) (T2:=T2) (hp:=hp) (hqq:=hqq) hc k n (i+1)  He (by omega)
  simp only [kv_cons,kv_nil] at ih
  have e1:IntKind.i64.wrap ((a:Int)+(x.frm.length:Int))=((a+x.frm.length:Nat):Int):=by simp only [aZ] at ha;rw [dx (by omega) (by omega)];omega
  have e2:IntKind.i64.wrap (((a+x.frm.length:Nat):Int)+(i:Int))=((a+x.frm.length+i:Nat):Int):=by simp only [aZ] at ha;rw [dx (by omega) (by omega)];omega
  rw [aq M gh.eq_1]
  simp (maxSteps:=3000000) (maxDischargeDepth:=6) +contextual -implicitDefEqProofs only [amA M,amB,↓ae,↓aa,↓aj,↓ah,Nat.reduceBEq,Nat.reduceAdd,env,ao,fA,hx,hd,hi,ih,e1,e2,hp,hqq,bp,l9,GF M hN hR hl hv,bt hi (show x.right.length≤aZ by omega),K7,hc]
theorem Vm{s f:Str}{i:Nat}(h:i≤s.length):BS (s.drop i) f=(!decide (s.length<i+f.length)&&((s.drop i).take f.length == f)):=by
 unfold BS
 congr 1
 rw [List.length_drop,Bool.eq_iff_iff];simp;omega
theorem MV(hN:bq E)(hR:Er E){l:Lex}{n0:Nat}(hl:l.ok n0)(hv:l.vowels.all jt=true){x:br}(hx0:x.ok n0){s:Str}{a:Nat}(hs:a≤s.length)(ha:s.length+x.frm.length+x.right.length≤aZ)(H:List ag) :
  M.run mL [.agg l.row,.agg x.row,.str s,.int .i64 a] H=some (.ret (.bool (PE l.vowels x s a)),H):=by
 rw [aK M hR.truchmanref02_applies rfl (c:=mS) rfl,mS]
 have h0:=fun k He=>VX M hN hR hl hv hx0 (H:=H++[.cells l.row au,.cells x.row c7]) (H0:=H) (s:=s) (a:=a) (by omega) (L:=x.left.reverse) (by simp) (Qx x.left) (p:=H.length) (q:=H.length+1) (T:=au) (T2:=c7) (by rw [cS];rfl) (by rw [hp_getk];rfl) (cut_app H _) k x.left.reverse.length 0 He (by omega)
 have h1:=fun k He=>VY M hN hR hl hv (x:=x) (H:=H++[.cells l.row au,.cells x.row c7]) (H0:=H) (s:=s) (a:=a) (by omega) (p:=H.length) (q:=H.length+1) (T:=au) (T2:=c7) (by rw [cS];rfl) (by rw [hp_getk];rfl) (cut_app H _) k x.right.length 0 He (by omega)
 simp only [kv_cons,kv_nil,Int.ofNat_zero,List.drop_zero,BU,List.length_reverse,hp_take] at h0 h1
 have e1:IntKind.i64.wrap ((a:Int)+(x.frm.length:Int))=((a+x.frm.length:Nat):Int):=by simp only [aZ] at ha;rw [dx (by omega) (by omega)];omega
 rw [PE,Vm hs]
 by_cases hc:s.length<a+x.frm.length
 ·have hd:decide (s.length<a+x.frm.length)=true:=decide_eq_true hc
  simp (maxSteps:=3000000) (maxDischargeDepth:=6) +contextual -implicitDefEqProofs only [amA M,amB,↓ae,↓aa,↓aj,↓ah,Nat.reduceBEq,Nat.reduceAdd,env,ao,fA,e1,hd,l9,cut_app]
 ·have hd:decide (s.length<a+x.frm.length)=false:=decide_eq_false hc
  have e2:=GE (s:=s) (k:=.i64) (k':=.i64) (i:=a) (j:=a+x.frm.length) (by omega) (by omega)
  rw [Nat.add_sub_cancel_left] at e2
  simp (maxSteps:=3000000) (maxDischargeDepth:=6) +contextual -implicitDefEqProofs only [amA M,amB,↓ae,↓aa,↓aj,↓ah,Nat.reduceBEq,Nat.reduceAdd,env,ao,fA,e1,e2,hd,l9,h0,h1,cut_app,L6,Kh]
end
section
attribute [local congr] aS eF bZ aT bC bk aU aI aJ bm bn
variable{E:bP}(M:dV ei E)
theorem kE{s t:Str}(h:s.length+t.length<9223372036854775808):s7 .add s t=some (.str (s++t)):=Va h
theorem rrw(hN:bq E)(hR:Er E){l:Lex}{n0:Nat}(hl:l.ok n0)(hv:l.vowels.all jt=true){x:br}(hx0:x.ok n0)(h0:x.frm≠[])(ht:x.to.length≤6)(hfr:x.frm.length≤6)(hri:x.right.length≤6){s:Str}(hs:s.length≤1000000)
  {H H0:List ag}{p q:Nat}{T T2:TypeId} (hp:H[p]?=some (.cells l.row T)) (hq:H[q]?=some (.cells x.row T2)) (k:List Fra):∀ (n i:Nat) (w:Str) (He:List ag),s.length<i+n→i≤s.length+6→w.length≤6*i →
  M.go dH H0 (.c dP :: .lp ⟨(some [2,3,4,8,9]),[],false⟩ dP He :: .blk 0 :: .c (.lv [8])::k) (kv [(2,.str s),(3,.ptr p 0),(4,.ptr q 0),(8,.str w),(9,.int .i64 i)]) H=M.go dH H0 k (kv [(8,.str (DB l.vowels x s n i w))]) H
 |0,i,w,He,hn,hi,hw=>by
  have e:¬ i<s.length:=by omega
  rw [DB]
  rw [aq M dP.eq_1]
  simp (maxSteps:=3000000) (maxDischargeDepth:=6) +contextual -implicitDefEqProofs only [amA M,amB,↓ae,↓aa,↓aj,↓ah,Nat.reduceBEq,Nat.reduceAdd,env,ao,iE,e]
 |n+1,i,w,He,hn,hi,hw=>by
  by_cases h:i<s.length
  ·have hx:s[i]?=some s[i]:=List.getElem?_eq_getElem h
   have hf:0<x.frm.length:=by cases hxf:x.frm with
    |nil=>exact absurd hxf h0
    |cons a b=>simp
   have e1:IntKind.i64.wrap ((i:Int)+(x.frm.length:Int))=((i+x.frm.length:Nat):Int):=by rw [dx (by omega) (by omega)];omega
   have a1:=fun H=>MV M hN hR hl hv hx0 (s:=s) (a:=i) (by omega) (by simp only [aZ];omega) H
   cases hA:PE l.vowels x s i with
   |true=>
    have ih:=fun He=>rrw (H0:=H0) hN hR hl hv hx0 h0 ht hfr hri hs hp hq k n (i+x.frm.length) (w++x.to) He (by omega) (by omega) (by simp;omega)
    simp only [kv_cons,kv_nil] at ih
    rw [DB,hx,hA]
    rw [hA] at a1
    rw [aq M dP.eq_1]
    simp (maxSteps:=3000000) (maxDischargeDepth:=6) +contextual -implicitDefEqProofs only [amA M,amB,↓ae,↓aa,↓aj,↓ah,Nat.reduceBEq,Nat.reduceAdd,env,ao,iE,h,hx,ih,hp,hq,bp,l9,a1,e1,kE (s:=w) (t:=x.to) (by omega)]
   |false=>
    have ih:=fun He=>rrw (H0:=H0) hN hR hl hv hx0 h0 ht hfr hri hs hp hq k n (i+1) (w++[s[i]]) He (by omega) (by omega) (by simp;omega)
    simp only [kv_cons,kv_nil] at ih
    rw [DB,hx,hA]
    rw [hA] at a1
    have e2:=GE (s:=s) (k:=.i64) (k':=.i64) (i:=i) (j:=i+1) (by omega) (by omega)
    rw [Nat.add_sub_cancel_left,List.drop_eq_getElem_cons h] at e2
    simp only [List.take_succ_cons,List.take_zero] at e2
    rw [aq M dP.eq_1]
    simp (maxSteps:=3000000) (maxDischargeDepth:=6) +contextual -implicitDefEqProofs only [amA M,amB,↓ae,↓aa,↓aj,↓ah,Nat.reduceBEq,Nat.reduceAdd,env,ao,iE,h,hx,ih,hp,hq,bp,l9,a1,e2,bt h (show s.length≤aZ by simp only [aZ];omega),kE (s:=w) (t:=[s[i]]) (by simp;omega)]
  ·have hx:s[i]?=none:=List.getElem?_eq_none (by omega)
   rw [DB,hx]
   rw [aq M dP.eq_1]
   simp (maxSteps:=3000000) (maxDischargeDepth:=6) +contextual -implicitDefEqProofs only [amA M,amB,↓ae,↓aa,↓aj,↓ah,Nat.reduceBEq,Nat.reduceAdd,env,ao,iE,h]
theorem MW(hN:bq E)(hR:Er E){l:Lex}{n0:Nat}(hl:l.ok n0)(hv:l.vowels.all jt=true){x:br}(hx0:x.ok n0)(h0:x.frm≠[])(ht:x.to.length≤6)(hfr:x.frm.length≤6)(hri:x.right.length≤6){s:Str}(hs:s.length≤1000000)(H:List ag) :
  M.run mK [.agg l.row,.agg x.row,.str s] H=some (.ret (.tuple [.str (uC l.vowels x s),.bool (decide (((uC l.vowels x s).length:Int)≤512))]),H):=by
 rw [aK M hR.truchmanref02_rewrite rfl (c:=mR) rfl,mR]
 have h1:=fun k He=>rrw M hN hR hl hv hx0 h0 ht hfr hri hs (H:=H++[.cells l.row au,.cells x.row c7]) (H0:=H) (p:=H.length) (q:=H.length+1) (T:=au) (T2:=c7) (by rw [cS];rfl) (by rw [hp_getk];rfl) k (s.length+1) 0 [] He (by omega) (by omega) (by simp)
 rw [← uC] at h1
 simp only [kv_cons,kv_nil,Int.ofNat_zero] at h1
 simp (maxSteps:=3000000) (maxDischargeDepth:=6) +contextual -implicitDefEqProofs only [amA M,amB,↓ae,↓aa,↓aj,↓ah,Nat.reduceBEq,Nat.reduceAdd,env,ao,iE,h1,cut_app,wk_tuple]
structure Om (l:Lex):Prop where
 vowels:l.vowels.all jt=true
 spells:∀ x∈l.spells.l,uP x=0
 short:Qu l
theorem Kk{l:Lex}(h:bK l=0):Om l:=by
 unfold bK at h
 simp only [UJ,UK] at h
 rw [Qv,I0] at h
 cases hv:l.vowels.all jt with
 |false=>rw [hv] at h;simp [sel] at h
 |true=>
  rw [hv] at h
  cases hi:Pt l.vowels with
  |false=>rw [hi] at h;simp [sel] at h
  |true=>
   rw [hi] at h
   simp only [sel,beq_self_eq_true,Bool.not_true] at h
   cases h1:zD l == 0 with
   |false=>rw [h1] at h;simp only [Bool.not_false] at h;rw [h] at h1;simp at h1
   |true=>
    rw [h1] at h;simp only [Bool.not_true] at h
    cases h2:uQ l == 0 with
    |false=>rw [h2] at h;simp only [Bool.not_false] at h;rw [h] at h2;simp at h2
    |true=>
     rw [h2] at h;simp only [Bool.not_true] at h
     cases h3:xM l == 0 with
     |false=>rw [h3] at h;simp only [Bool.not_false] at h;rw [h] at h3;simp at h3
     |true=>
      rw [h3] at h;simp only [Bool.not_true] at h
      cases h4:zE l == 0 with
      |false=>rw [h4] at h;simp only [Bool.not_false] at h;rw [h] at h4;simp at h4
      |true=>
       refine ⟨hv,fun x hx => ?_,Ob (eq_of_beq h2)⟩
       obtain ⟨k,hk⟩:=List.getElem?_of_mem hx
       exact (qS (eq_of_beq h4)).2 k x hk
theorem On{x:br}(h:uP x=0):x.frm≠[]∧x.to.length≤6∧x.frm.length≤6∧x.right.length≤6∧x.left.length≤6:=by
 rw [Oe] at h
 cases c1:(x.frm == []||(!ofF [43] x.frm||(!ofF [43] x.to||(!ofF [43,35,86,67] x.left || !ofF [43,35,86,67] x.right)))) with
 |true=>rw [c1] at h;simp [sel] at h
 |false=>
  rw [c1] at h
  cases c2:(decide ((6:Int)<(x.frm.length:Int))||(decide ((6:Int)<(x.to.length:Int))||(decide ((6:Int)<(x.left.length:Int))||decide ((6:Int)<(x.right.length:Int))))) with
  |true=>rw [c2] at h;simp [sel] at h
  |false=>
   simp at c1 c2
   exact ⟨c1.1,by omega,by omega,by omega,by omega⟩
theorem eE{α:Type}{row:α→List AV}{l:List α}{tag:Tag}{sz:Nat}{k:IntKind}{r:Int}(h0:0≤r)(h:r.toNat<l.length):Aj sz (.slice tag sz (l.map row)) (.int k r)=some (.vptr sz (l.map row) r.toNat 0):=by
 have:=aC (row:=row) (tag:=tag) (sz:=sz) (k:=k) h
 rwa [Int.toNat_of_nonneg h0] at this
end
section
attribute [local congr] aS eF bZ aT bC bk aU aI aJ bm bn
variable{E:bP}(M:dV ei E)
structure Hy (E:bP):Prop where
 morph_increasing:E.fn sj=some fD
 slices_Grow_api_Feat_api_Feat:E.fn fC=some db
 slices_Concat_api_Feat_api_Feat:E.fn eY=some cL
 slices_Compact_api_Feat_api_Feat:E.fn eL=some aN
 morph_union:E.fn u1=some o6
 morph_Unify:E.fn KN=some zf
 truchmanlaw02_SameFeats:E.fn lE=some c8
 slices_Index_api_Feat_api_Feat:E.fn lO=some iY
 slices_Contains_api_Feat_api_Feat:E.fn kI=some gE
 morph_Subsumes_1:E.fn w6=some sk
 morph_Subsumes:E.fn G4=some uI
 truchmanref02_Subsumes:E.fn y6=some ma
def b4(l:List aw):List AV:=(l.map aw.row).flatten
def oE(n:Nat):List AV:=(List.replicate n [AV.str [],AV.str []]).flatten
theorem qT(l:List aw):(b4 l).length=l.length*2:=by
 unfold b4
 induction l with
 |nil=>rfl
 |cons x l ih=>simp only [List.map_cons,List.flatten_cons,List.length_append,ih,List.length_cons];simp [aw.row];omega
theorem DS(a b:List aw):b4 (a++b)=b4 a++b4 b:=by simp [b4]
theorem PF(n:Nat):(oE n).length=n*2:=by
 unfold oE;rw [List.length_flatten];simp
theorem Ih(n:Nat):oE n=b4 (List.replicate n ⟨[],[]⟩):=by simp [oE,b4,aw.row]
theorem RD(hU:Hy E)(H:List ag):M.run fC [.slice .nil 2 [],.int .i64 0] H=some (.ret (.slice .nil 2 []),H):=by
 rw [aK M hU.slices_Grow_api_Feat_api_Feat rfl (c:=eh) rfl,eh]
 have w0:IntKind.i64.wrap 0=0:=by decide
 simp (maxSteps:=3000000) (maxDischargeDepth:=6) +contextual -implicitDefEqProofs only [amA M,amB,↓ae,↓aa,↓aj,↓ah,Nat.reduceBEq,Nat.reduceAdd,env,ao,mz,Nn,List.length_nil,Int.ofNat_zero,Int.sub_self,w0,(show decide ((0:Int)<0)=false from rfl)]
theorem Te(hU:Hy E){n:Nat}(h0:0<n)(hn:n≤4000000000)(H:List ag) :
  M.run fC [.slice .nil 2 [],.int .i64 n] H=some (.ret (.rslice H.length 0 0 2 true),H++[.cells (oE n) aR]):=by
 rw [aK M hU.slices_Grow_api_Feat_api_Feat rfl (c:=eh) rfl,eh]
 have w0:IntKind.i64.wrap 0=0:=by decide
 have w1:IntKind.i64.wrap ((n:Int)-0)=(n:Int):=by rw [dx (by omega) (by omega)];omega
 have h1:decide ((n:Int)<0)=false:=decide_eq_false (by omega)
 have h2:decide ((n:Int) > 0)=true:=decide_eq_true (by omega)
 have e1:DY 2 (.slice .nil 2 []) none (some (.int .i64 0)) none=some (.slice .nil 2 []):=rfl
 have e2:OR H aR 2 32 [.str [],.str []] (.slice .nil 2 []) (.int .i64 n)=some (.rslice H.length 0 n 2 true,H++[.cells (oE n) aR]):=by
  have a1:¬ (n:Int)=0:=by omega
  have a2:(0:Int)<n∧(n:Int).toNat*32≤140737488355328∧(n:Int)≤4611686018427387904:=by refine ⟨by omega, ?_,by omega⟩;simp;omega
  unfold OR;dsimp only;rw [if_neg a1,if_pos a2];rfl
 have e3:DY 2 (.rslice H.length 0 n 2 true) none (some (.int .i64 0)) none=some (.rslice H.length 0 0 2 true):=by simp [DY,fP]
 simp (maxSteps:=3000000) (maxDischargeDepth:=6) +contextual -implicitDefEqProofs only [amA M,amB,↓ae,↓aa,↓aj,↓ah,Nat.reduceBEq,Nat.reduceAdd,env,ao,mz,amZ,Nn,List.length_nil,Int.ofNat_zero,Int.sub_self,w0,w1,h1,h2,e1,e2,e3]
theorem RE{H:List ag}{n:Nat}{t:Tag}{a:List aw}(h:a.length≤4000000000) :
  rap true (H++[.cells (oE n) aR]) aR 2 32 false (.rslice H.length 0 0 2 true) (.slice t 2 (a.map aw.row))=some (.rslice (H.length+1) 0 a.length 2 true,H++[.dead,.cells (b4 a) aR]):=by
 have hr:si 2 (a.map aw.row)=true:=by simp [si,aw.row,AV.cell]
 simp only [rap,F0,E2,or_true,if_true,hr,cS,List.length_map,Nat.zero_add,Nat.zero_mul,Nat.zero_le,true_and,List.take_zero,List.nil_append,hp_set0,List.length_append,List.length_cons,List.length_nil,List.getElem?_cons_zero,List.set_cons_zero]
 rw [if_pos ⟨by omega,by omega⟩]
 simp [b4]
theorem Tg{H:List ag}{a b:List aw}{t:Tag}(h:a.length+b.length≤4000000000) :
  rap true (H++[.dead,.cells (b4 a) aR]) aR 2 32 false (.rslice (H.length+1) 0 a.length 2 true) (.slice t 2 (b.map aw.row))=some (.rslice (H.length+2) 0 (a++b).length 2 true,H++[.dead,.dead,.cells (b4 (a++b)) aR]):=by
 have hr:si 2 (b.map aw.row)=true:=by simp [si,aw.row,AV.cell]
 have hg:(H++[ag.dead,.cells (b4 a) aR])[H.length+1]?=some (.cells (b4 a) aR):=by rw [hp_getk];rfl
 have hs:(H++[ag.dead,.cells (b4 a) aR]).set (H.length+1) .dead=H++[.dead,.dead]:=by
  rw [List.set_append_right _ _ (by omega)];simp
 simp only [rap,F0,E2,or_true,if_true,hr,hg,hs,List.length_map,true_and,List.length_append,List.length_cons,List.length_nil]
 rw [if_pos ⟨by rw [qT];exact Nat.le_refl _,by omega,by omega⟩]
 have e:(b4 a).take (a.length*2)=b4 a:=List.take_of_length_le (by rw [qT];exact Nat.le_refl _)
 rw [e,DS]
 simp [b4]
theorem L7{H:List ag}{t:Tag}(ht:t = .nil∨t = .full){t2:Tag}:rap true H aR 2 32 false (.slice t 2 []) (.slice t2 2 [])=some (.slice .full 2 [],H):=by
 rcases ht with rfl | rfl<;>rfl
theorem PG(hU:Hy E){a b:List aw}{ta tb:Tag}(h0:0<a.length+b.length)(h:a.length+b.length≤4000000000)(H:List ag) :
  M.run eY [.slice .full 1 [[.slice ta 2 (a.map aw.row)],[.slice tb 2 (b.map aw.row)]]] H=some (.ret (.rslice (H.length+2) 0 (a++b).length 2 true),H++[.dead,.dead,.cells (b4 (a++b)) aR]):=by
 rw [aK M hU.slices_Concat_api_Feat_api_Feat rfl (c:=dL) rfl,dL]
 have w1:IntKind.i64.wrap (0+(a.length:Int))=(a.length:Int):=by rw [dx (by omega) (by omega)];omega
 have w2:IntKind.i64.wrap ((a.length:Int)+(b.length:Int))=((a.length+b.length:Nat):Int):=by rw [dx (by omega) (by omega)];omega
 have w3:IntKind.i64.wrap (0+1)=1:=by decide
 have w4:IntKind.i64.wrap (1+1)=2:=by decide
 have d1:decide ((a.length:Int)<0)=false:=decide_eq_false (by omega)
 have d2:decide (((a.length+b.length:Nat):Int)<0)=false:=decide_eq_false (by omega)
 have i0:Aj 1 (.slice .full 1 [[.slice ta 2 (a.map aw.row)],[.slice tb 2 (b.map aw.row)]]) (.int .i64 0)=some (.vptr 1 [[.slice ta 2 (a.map aw.row)],[.slice tb 2 (b.map aw.row)]] 0 0):=rfl
 have i1:Aj 1 (.slice .full 1 [[.slice ta 2 (a.map aw.row)],[.slice tb 2 (b.map aw.row)]]) (.int .i64 1)=some (.vptr 1 [[.slice ta 2 (a.map aw.row)],[.slice tb 2 (b.map aw.row)]] 1 0):=rfl
 have n0:(([[.slice ta 2 (a.map aw.row)],[.slice tb 2 (b.map aw.row)]]:List (List AV)).length:Int)=2:=rfl
 have n1:decide ((0:Int)<2)=true:=rfl
 have n2:decide ((1:Int)<2)=true:=rfl
 have n3:decide ((2:Int)<2)=false:=rfl
 have g0:([[.slice ta 2 (a.map aw.row)],[.slice tb 2 (b.map aw.row)]]:List (List AV))[0]?=some [.slice ta 2 (a.map aw.row)]:=rfl
 have g1:([[.slice ta 2 (a.map aw.row)],[.slice tb 2 (b.map aw.row)]]:List (List AV))[1]?=some [.slice tb 2 (b.map aw.row)]:=rfl
 have l0:∀ x:AV,dK none [x] 0=some x:=fun _=>rfl
 simp (maxSteps:=3000000) (maxDischargeDepth:=6) +contextual -implicitDefEqProofs only [amA M,amB,↓ae,↓aa,↓aj,↓ah,Nat.reduceBEq,Nat.reduceAdd,env,ao,lu,n0,n1,n2,n3,g0,g1,l0,aq M gG.eq_1,aq M gH.eq_1,w1,w2,w3,w4,d1,d2,i0,i1,Te M hU h0 h,RE (show a.length≤4000000000 by omega),Tg h]
end
section
attribute [local congr] aS eF bZ aT bC bk aU aI aJ bm bn
variable{E:bP}(M:dV ei E)
def ddF:aw→List aw→List aw
 |_,[]=>[]
 |p,q::t=>if (q.name == p.name&&q.value == p.value)=true then ddF q t else q::ddF q t
def jkF:List aw→aw→List aw→List aw
 |mid,p,[]=>mid++[p]
 |mid,p,q::t=>if (q.name == p.name&&q.value == p.value)=true then jkF (mid++[p]) q t else jkF ((mid++[p]).tail) q t
def yX:List aw→List aw
 |[]=>[]
 |x::l=>x::ddF x l
theorem PH:∀ (t mid:List aw) (p:aw),(jkF mid p t).length+(ddF p t).length=mid.length+1+t.length
 |[],mid,p=>by simp [jkF,ddF]
 |q::t,mid,p=>by
  rw [jkF,ddF]
  split
  ·rw [PH t (mid++[p]) q];simp;omega
  ·rw [List.length_cons,← Nat.add_assoc,PH t ((mid++[p]).tail) q];simp;omega
theorem DT(A B:List aw)(q:aw)(rest:List AV){n:Nat}(h:n=A.length*2):dK (some 2) (b4 (A++q::B)++rest) n=some (.agg q.row):=by
 subst h
 have hl:=qT A
 have e:b4 (A++q::B)++rest=b4 A++(q.row++(b4 B++rest)):=by rw [DS];simp [b4]
 have hq:q.row.length=2:=rfl
 simp only [dK]
 rw [e,if_pos (by simp only [List.length_append,hl,hq];omega),← hl,List.drop_left,List.take_left' hq]
theorem Fx:∀ (A x y rest:List AV),x.length=y.length→aX (A++(x++rest)) A.length y=A++(y++rest)
 |A,[],[],rest,_=>by simp [setRow_nil]
 |A,[],_::_,rest,h=>by cases h
 |A,_::_,[],rest,h=>by cases h
 |A,b::x,a::y,rest,h=>by
  rw [setRow_cons]
  have h2:(A++(b::x++rest)).set A.length a=(A++[a])++(x++rest):=by simp
  have:=Fx (A++[a]) x y rest (by simpa using h)
  rw [List.length_append,List.length_cons,List.length_nil,Nat.zero_add] at this
  rw [h2,this];simp
theorem PI(A B:List aw)(m q:aw)(rest:List AV){n:Nat}(h:n=A.length*2):aX (b4 (A++m::B)++rest) n q.row=b4 (A++q::B)++rest:=by
 subst h
 have e:∀ m:aw,b4 (A++m::B)++rest=b4 A++(m.row++(b4 B++rest)):=fun m=>by rw [DS];simp [b4]
 rw [e,e,← qT A,Fx (b4 A) m.row q.row (b4 B++rest) rfl]
theorem Kl{id off len n:Nat}{room:Bool}(h:n<len):Aj 2 (.rslice id off len 2 room) (.int .i64 (n:Int))=some (.ptr id (off+n*2)):=by simp [Aj,h]
theorem DU{g:Option Nat}{H:List ag}{id n:Nat}{cs:List AV}{T:TypeId}(h:H[id]?=some (.cells cs T)):qL g H (.ptr id n)=dK g cs n:=by simp [qL,h]
theorem Qy{H:List ag}{id:Nat}(h:id<H.length)(o:ag):(H.set id o)[id]?=some o:=by simp [h]
theorem GG(n:Nat)(L:List aw)(rest:List AV)(hr:∀ c∈rest,Wk n c c)(T:TypeId):Qb n (.cells (b4 L++rest) T):=fun c hc=>by
 rcases List.mem_append.1 hc with h | h
 ·unfold b4 at h
  obtain ⟨r,hr1,hr2⟩:=List.mem_flatten.1 h
  obtain ⟨f,_,rfl⟩:=List.mem_map.1 hr1
  simp only [aw.row,List.mem_cons,List.not_mem_nil,or_false] at hr2
  rcases hr2 with rfl | rfl<;>exact wk_str _ _
 ·exact hr c h
theorem cpi(hU:Hy E){H H0:List ag}{id:Nat}(hid:id<H.length){T:TypeId}{rest:List AV}(k:List Fra){n off:Nat}(hn:n≤4000000000) :
  ∀ (t out mid:List aw) (p:aw) (k2:Nat) (He:List ag),out.length+mid.length+1=off+k2→out.length+mid.length+1+t.length=n→1≤k2 →
  M.go aN H0 (.c b9 :: .lp ⟨(some [0,3,4,5]),[],false⟩ b9 He :: .blk 2 :: .c (.lv [0,3])::k) (kv [(0,.rslice id 0 n 2 true),(3,.int .i64 out.length),(4,.rslice id (off*2) (n-off) 2 true),(5,.int .i64 k2)]) (H.set id (.cells (b4 (out++(mid++p::t))++rest) T)) =
   M.go aN H0 k (kv [(0,.rslice id 0 n 2 true),(3,.int .i64 (out++ddF p t).length)]) (H.set id (.cells (b4 ((out++ddF p t)++jkF mid p t)++rest) T))
 |[],out,mid,p,k2,He,h1,h2,h3=>by
  have d:decide (k2<n-off)=false:=decide_eq_false (by simp at h2;omega)
  have e:b4 ((out++ddF p [])++jkF mid p [])=b4 (out++(mid++[p])):=by simp [ddF,jkF]
  rw [e,show out++ddF p []=out by simp [ddF]]
  rw [aq M b9.eq_1]
  simp (maxSteps:=3000000) (maxDischargeDepth:=6) +contextual -implicitDefEqProofs only [amA M,amB,↓ae,↓aa,↓aj,↓ah,Nat.reduceBEq,Nat.reduceAdd,env,ao,a6,d,Bl]
 |q::t,out,mid,p,k2,He,h1,h2,h3=>by
  simp only [List.length_cons] at h2
  have d:decide (k2<n-off)=true:=decide_eq_true (by omega)
  have b1:IntKind.i64.wrap ((k2:Int)-1)=((k2-1:Nat):Int):=by rw [dx (by omega) (by omega)];omega
  have b2:IntKind.i64.wrap ((k2:Int)+1)=((k2+1:Nat):Int):=by rw [dx (by omega) (by omega)];omega
  have b3:IntKind.i64.wrap ((out.length:Int)+1)=((out.length+1:Nat):Int):=by rw [dx (by omega) (by omega)];omega
  have i1:Aj 2 (.rslice id (off*2) (n-off) 2 true) (.int .i64 (k2:Int))=some (.ptr id (off*2+k2*2)):=Kl (by omega)
  have i2:Aj 2 (.rslice id (off*2) (n-off) 2 true) (.int .i64 ((k2-1:Nat):Int))=some (.ptr id (off*2+(k2-1)*2)):=Kl (by omega)
  have i3:Aj 2 (.rslice id 0 n 2 true) (.int .i64 (out.length:Int))=some (.ptr id (0+out.length*2)):=Kl (by omega)
  have hg:∀ c,(H.set id c)[id]?=some c:=fun c=>Qy hid c
  have l1:dK (some 2) (b4 (out++(mid++p::q::t))++rest) (off*2+k2*2)=some (.agg q.row):=by
   have:=DT (out++(mid++[p])) t q rest (n:=off*2+k2*2) (by simp;omega)
   simpa [List.append_assoc] using this
  have l2:dK (some 2) (b4 (out++(mid++p::q::t))++rest) (off*2+(k2-1)*2)=some (.agg p.row):=by
   have:=DT (out++mid) (q::t) p rest (n:=off*2+(k2-1)*2) (by simp;omega)
   simpa [List.append_assoc] using this
  cases hqp:(q.name == p.name&&q.value == p.value) with
  |true=>
   have ih:=fun He=>cpi hU (H:=H) (H0:=H0) hid (T:=T) (rest:=rest) k (off:=off) hn t out (mid++[p]) q (k2+1) He (by simp;omega) (by simp;omega) (by omega)
   simp only [kv_cons,kv_nil,List.append_assoc,List.cons_append,List.nil_append] at ih
   rw [ddF,if_pos hqp,jkF,if_pos hqp,List.append_assoc out (ddF q t)]
   rw [aq M b9.eq_1]
   simp (maxSteps:=3000000) (maxDischargeDepth:=6) +contextual -implicitDefEqProofs only [amA M,amB,↓ae,↓aa,↓aj,↓ah,Nat.reduceBEq,Nat.reduceAdd,env,ao,a6,d,Bl,b1,b2,i1,i2,hg,l1,l2,DU (hg _),xO,hqp,ih]
  |false=>
   have hne:¬ ((q.name == p.name&&q.value == p.value)=true):=by rw [hqp];simp
   obtain ⟨m0,mid',hm⟩:∃ m0 mid',mid++[p]=m0::mid':=by cases mid with
    |nil=>exact ⟨p,[],rfl⟩
    |cons a b=>exact ⟨a,b++[p],rfl⟩
   have hml:mid'.length=mid.length:=by have:=congrArg List.length hm;simp at this;omega
   have ih:=fun He=>cpi hU (H:=H) (H0:=H0) hid (T:=T) (rest:=rest) k (off:=off) hn t (out++[q]) mid' q (k2+1) He (by simp;omega) (by simp;omega) (by omega)
   have hst:aX (b4 (out++(mid++p::q::t))++rest) (0+out.length*2) q.row=b4 ((out++[q])++(mid'++q::t))++rest:=by
    have e1:out++(mid++p::q::t)=out++m0::(mid'++q::t):=by
     have:mid++p::q::t=(mid++[p])++q::t:=by simp
     rw [this,hm];rfl
    rw [e1,PI out (mid'++q::t) m0 q rest (by omega)];simp
   have hlen:0+out.length*2+2≤(b4 (out++(mid++p::q::t))++rest).length:=by
    rw [List.length_append,qT];simp;omega
   rw [ddF,if_neg hne,jkF,if_neg hne,hm,List.tail_cons]
   simp only [kv_cons,kv_nil,List.length_append,List.length_cons,List.length_nil,Nat.zero_add] at ih
   rw [show out++q::ddF q t=(out++[q])++ddF q t by simp,show ((out++[q])++ddF q t).length=out.length+1+(ddF q t).length by simp;omega]
   have hss:∀ a b,(H.set id a).set id b=H.set id b:=fun a b=>by rw [List.set_set]
   rw [aq M b9.eq_1]
   have hsto:stO 2 (H.set id (.cells (b4 (out++(mid++p::q::t))++rest) T)) id (0+out.length*2) q.row (some (.cells (b4 (out++(mid++p::q::t))++rest) T))=some (H.set id (.cells (b4 ((out++[q])++(mid'++q::t))++rest) T)):=by
    simp only [stO]
    rw [if_pos ⟨rfl,hlen,rfl⟩,hst,hss]
   simp (maxSteps:=3000000) (maxDischargeDepth:=6) +contextual -implicitDefEqProofs only [amA M,amB,↓ae,↓aa,↓aj,↓ah,Nat.reduceBEq,Nat.reduceAdd,env,ao,a6,d,Bl,b1,b2,b3,i1,i2,i3,hg,l1,l2,DU (hg _),xO,hqp,hsto,(show ∀ H,EA (some H)=some (jZ,H) from fun _=>rfl),ih]
theorem Uo{H0 H:List ag}(h:bU H0 H)(id:Nat){o:ag}(hw:Qb H0.length o):bU H0 (H.set id o):=by
 refine ⟨by simpa using h.1,fun i x hi hx => ?_⟩
 rw [List.getElem?_set] at hx
 split at hx
 ·split at hx
  ·cases hx;exact .inr hw
  ·cases hx
 ·exact h.2 i x hi hx
def cpR(M:dV ei E)(H0:List ag)(k:List Fra)(id:Nat)(T:TypeId)(rest:List AV)(H:List ag)(n:Nat):List aw→aw→List aw→Option Out
 |_,_,[]=>M.go aN H0 k (kv [(0,.rslice id 0 n 2 true)]) H
 |out,p,q::t=>if (q.name == p.name&&q.value == p.value)=true then
   some (.ret (.rslice id 0 (out++p::ddF q t).length 2 true),(H.set id (.cells (b4 (out++p::ddF q t)++(oE (n-(out++p::ddF q t).length)++rest)) T)).take H0.length)
  else cpR M H0 k id T rest H n (out++[p]) q t
theorem cpo(hU:Hy E){H H0:List ag}{id:Nat}(hid:id<H.length)(hi0:id<H0.length)(hc:bU H0 H){T:TypeId}{rest:List AV}(hr:∀ c∈rest,Wk H0.length c c)(k:List Fra){l:List aw}(hn:l.length≤4000000000)(hx:H[id]?=some (.cells (b4 l++rest) T)) :
  ∀ (t out:List aw) (p:aw) (He:List ag),l=out++p::t →
  M.go aN H0 (.c cf :: .lp ⟨(some [0,3]),[],false⟩ cf He :: .blk 0 :: .c (.lv [0])::k) (kv [(0,.rslice id 0 l.length 2 true),(3,.int .i64 (out.length+1:Nat))]) H=cpR M H0 k id T rest H l.length out p t
 |[],out,p,He,hl=>by
  have d:decide (out.length+1<l.length)=false:=decide_eq_false (by rw [hl];simp)
  rw [cpR]
  rw [aq M cf.eq_1]
  simp (maxSteps:=3000000) (maxDischargeDepth:=6) +contextual -implicitDefEqProofs only [amA M,amB,↓ae,↓aa,↓aj,↓ah,Nat.reduceBEq,Nat.reduceAdd,env,ao,a6,d,Bl]
 |q::t,out,p,He,hl=>by
  have hll:l.length=out.length+1+(t.length+1):=by rw [hl];simp;omega
  have d:decide (out.length+1<l.length)=true:=decide_eq_true (by omega)
  have b1:IntKind.i64.wrap (((out.length+1:Nat):Int)-1)=((out.length:Nat):Int):=by rw [dx (by omega) (by omega)];omega
  have b2:IntKind.i64.wrap (((out.length+1:Nat):Int)+1)=((out.length+1+1:Nat):Int):=by rw [dx (by omega) (by omega)];omega
  have i1:Aj 2 (.rslice id 0 l.length 2 true) (.int .i64 ((out.length+1:Nat):Int))=some (.ptr id (0+(out.length+1)*2)):=Kl (by omega)
  have i2:Aj 2 (.rslice id 0 l.length 2 true) (.int .i64 ((out.length:Nat):Int))=some (.ptr id (0+out.length*2)):=Kl (by omega)
  have l1:dK (some 2) (b4 l++rest) (0+(out.length+1)*2)=some (.agg q.row):=by
   have:=DT (out++[p]) t q rest (n:=0+(out.length+1)*2) (by simp)
   rw [hl];simpa [List.append_assoc] using this
  have l2:dK (some 2) (b4 l++rest) (0+out.length*2)=some (.agg p.row):=by
   rw [hl];exact DT out (q::t) p rest (by omega)
  cases hqp:(q.name == p.name&&q.value == p.value) with
  |true=>
   rw [cpR,if_pos hqp]
   have hin:=fun k He=>cpi M hU (H:=H) (H0:=H0) hid (T:=T) (rest:=rest) k (n:=l.length) (off:=out.length+1) hn t (out++[p]) [] q 1 He (by simp) (by simp;omega) (by omega)
   have hl2:l=(out++[p])++([]++q::t):=by rw [hl];simp
   have hs:H.set id (.cells (b4 ((out++[p])++([]++q::t))++rest) T)=H:=by rw [← hl2];exact Ac hx
   have ho:(out++[p]).length=out.length+1:=by simp
   simp only [hs,ho,(show ((1:Nat):Int)=1 from rfl)] at hin
   simp only [kv_cons,kv_nil] at hin
   generalize hK:(out++[p])++ddF q t=K at hin
   have hjk:=PH t [] q
   have hKl:K.length+(jkF [] q t).length=l.length:=by rw [← hK,hll];simp;simp at hjk;omega
   have hjp:0<(jkF [] q t).length:=by
    have:(ddF q t).length≤t.length:=by
     have key:∀ (t:List aw) (q:aw),(ddF q t).length≤t.length:=fun t=>by
      induction t with
      |nil=>intro q;simp [ddF]
      |cons a t ih=>
       intro q;rw [ddF];have:=ih a;split<;>simp<;>omega
     exact key t q
    simp at hjk;omega
   have hKp:0<K.length:=by rw [← hK];simp;omega
   have s1:DY 2 (.rslice id 0 l.length 2 true) (some (.int .i64 ((out.length+1:Nat):Int))) none none=some (.rslice id ((out.length+1)*2) (l.length-(out.length+1)) 2 true):=by
    simp only [DY,fP]
    rw [if_pos (by omega),Int.toNat_natCast]
    simp only []
    rw [if_pos ⟨trivial,.inl (by omega),Nat.le_refl _⟩,Nat.zero_add]
   have s2:DY 2 (.rslice id 0 l.length 2 true) (some (.int .i64 (K.length:Int))) none none=some (.rslice id (K.length*2) (l.length-K.length) 2 true):=by
    simp only [DY,fP]
    rw [if_pos (by omega),Int.toNat_natCast]
    simp only []
    rw [if_pos ⟨trivial,.inl (by omega),Nat.le_refl _⟩,Nat.zero_add]
   have s3:DY 2 (.rslice id 0 l.length 2 true) none (some (.int .i64 (K.length:Int))) none=some (.rslice id 0 K.length 2 true):=by
    simp only [DY,fP]
    rw [if_pos (by omega),Int.toNat_natCast]
    simp only []
    rw [if_pos ⟨trivial,.inl (by omega),by omega⟩];simp
   have hcl:rcl (H.set id (.cells (b4 (K++jkF [] q t)++rest) T)) 2 [.str [],.str []] (.rslice id (K.length*2) (l.length-K.length) 2 true)=some (H.set id (.cells (b4 K++(oE (l.length-K.length)++rest)) T)):=by
    simp only [rcl,Qy hid]
    rw [if_pos ⟨trivial,by rw [List.length_append,qT,List.length_append];omega⟩,List.set_set]
    have e:b4 (K++jkF [] q t)++rest=b4 K++(b4 (jkF [] q t)++rest):=by rw [DS];simp
    have:=Fx (b4 K) (b4 (jkF [] q t)) (oE (l.length-K.length)) rest (by rw [qT,PF];omega)
    rw [qT] at this
    rw [e]
    show some (H.set id (.cells (aX _ _ (oE (l.length-K.length))) T))=_
    rw [this]
   have hcut:bU H0 (H.set id (.cells (b4 K++(oE (l.length-K.length)++rest)) T)):=Uo hc id (GG _ K _ (fun c hcm=>by
    rcases List.mem_append.1 hcm with h | h
    ·rw [Ih] at h
     exact GG _ _ [] (fun _ h=>by cases h) T c (by simpa using h)
    ·exact hr c h) T)
   have hfin:v7 ei .drop H0 (H.set id (.cells (b4 K++(oE (l.length-K.length)++rest)) T)) (.rslice id 0 K.length 2 true)=some (.rslice id 0 K.length 2 true,(H.set id (.cells (b4 K++(oE (l.length-K.length)++rest)) T)).take H0.length):=handV_drop hcut (wk_rslice hi0)
   have hK2:out++p::ddF q t=K:=by rw [← hK];simp
   rw [hK2]
   rw [aq M cf.eq_1]
   simp (maxSteps:=3000000) (maxDischargeDepth:=6) +contextual -implicitDefEqProofs only [amA M,amB,↓ae,↓aa,↓aj,↓ah,Nat.reduceBEq,Nat.reduceAdd,env,ao,a6,amZ,d,Bl,b1,i1,i2,hx,l1,l2,DU hx,xO,hqp,s1,s2,s3,hin,hcl,hfin]
  |false=>
   have hne:¬ ((q.name == p.name&&q.value == p.value)=true):=by rw [hqp];simp
   rw [cpR,if_neg hne]
   have ih:=fun He=>cpo hU (H0:=H0) hid hi0 hc hr k hn hx t (out++[p]) q He (by rw [hl];simp)
   have ho:(out++[p]).length=out.length+1:=by simp
   simp only [kv_cons,kv_nil,ho] at ih
   rw [aq M cf.eq_1]
   simp (maxSteps:=3000000) (maxDischargeDepth:=6) +contextual -implicitDefEqProofs only [amA M,amB,↓ae,↓aa,↓aj,↓ah,Nat.reduceBEq,Nat.reduceAdd,env,ao,a6,d,Bl,b1,b2,i1,i2,hx,l1,l2,DU hx,xO,hqp,ih]
end
def Fy(l:List aw):Prop:=l.Pairwise fun x y=>Op.bytesLess x.name y.name=true
def Wek(l:List aw):Prop:=l.Pairwise fun x y=>Op.bytesLess y.name x.name=false
theorem DC:∀ {l:List aw},vV l=true→Fy l
 |[],_=>.nil
 |x::l,h=>.cons (wI h) (DC (A5 h))
theorem Km{x y:aw}(h:(x.name == y.name&&x.value == y.value)=true):x=y:=by
 simp only [Bool.and_eq_true,beq_iff_eq] at h
 cases x;cases y;simp only at h;rw [h.1,h.2]
theorem PJ(x:aw):(x.name == x.name&&x.value == x.value)=true:=by simp
theorem Oo{l:List aw}(h:Fy l){x y:aw}(hx:x∈l)(hy:y∈l)(hn:x.name=y.name):x=y:=by
 induction l with
 |nil=>cases hx
 |cons a l ih=>
  rw [Fy,List.pairwise_cons] at h
  rcases List.mem_cons.1 hx with hx1 | hx1<;>rcases List.mem_cons.1 hy with hy1 | hy1
  ·rw [hx1,hy1]
  ·have:=h.1 y hy1;rw [← hx1,hn,Dw] at this;cases this
  ·have:=h.1 x hx1;rw [← hy1,hn,Dw] at this;cases this
  ·exact ih h.2 hx1 hy1
theorem Qz:∀ {l m:List aw},Fy l→Fy m→(∀ x,x∈l↔x∈m)→l=m
 |[],[],_,_,_=>rfl
 |[],y::m,_,_,h=>by have:=(h y).2 (by simp);cases this
 |x::l,[],_,_,h=>by have:=(h x).1 (by simp);cases this
 |x::l,y::m,hl,hm,h=>by
  rw [Fy,List.pairwise_cons] at hl hm
  have hxy:x=y:=by
   rcases List.mem_cons.1 ((h x).1 (by simp)) with e | h1
   ·exact e
   ·rcases List.mem_cons.1 ((h y).2 (by simp)) with e | h2
    ·exact e.symm
    ·have a1:=hm.1 x h1
     have a2:=hl.1 y h2
     rw [S0 a1] at a2;cases a2
  subst hxy
  congr 1
  refine Qz hl.2 hm.2 fun z=>⟨fun hz => ?_,fun hz => ?_⟩
  ·rcases List.mem_cons.1 ((h z).1 (by simp [hz])) with e | h1
   ·have:=hl.1 z hz;rw [e,Dw] at this;cases this
   ·exact h1
  ·rcases List.mem_cons.1 ((h z).2 (by simp [hz])) with e | h1
   ·have:=hm.1 z hz;rw [e,Dw] at this;cases this
   ·exact h1
theorem yY:∀ (n:Nat) (a b m:List aw),a.length+b.length≤n→Fy a→Fy b→gq a b=some m→(∀ x,x∈m↔x∈a∨x∈b)∧Fy m
 |_,[],b,m,_,_,hb,h=>by
  have:gq [] b=some b:=by cases b<;>simp [gq]
  rw [this] at h;cases h
  exact ⟨fun x=>by simp,hb⟩
 |_,x::a,[],m,_,ha,_,h=>by
  have:gq (x::a) []=some (x::a):=by simp [gq]
  rw [this] at h;cases h
  exact ⟨fun x=>by simp,ha⟩
 |0,x::a,y::b,m,hl,_,_,_=>by simp at hl
 |n+1,x::a,y::b,m,hl,ha,hb,h=>by
  have ha':=ha;have hb':=hb
  rw [Fy,List.pairwise_cons] at ha hb
  simp only [List.length_cons] at hl
  rw [gq] at h
  cases c1:Op.bytesLess x.name y.name with
  |true=>
   rw [c1] at h
   simp only [Option.map_eq_some_iff] at h
   obtain ⟨m',h1,rfl⟩:=h
   obtain ⟨g1,g2⟩:=yY n a (y::b) m' (by simp only [List.length_cons];omega) ha.2 hb' h1
   refine ⟨fun z=>by rw [List.mem_cons,g1,List.mem_cons (a:=z) (b:=x),or_assoc],List.pairwise_cons.2 ⟨fun z hz => ?_,g2⟩⟩
   rcases (g1 z).1 hz with h | h
   ·exact ha.1 z h
   ·rcases List.mem_cons.1 h with rfl | h
    ·exact c1
    ·exact rX c1 (hb.1 z h)
  |false=>
   rw [c1] at h
   simp only at h
   cases c2:Op.bytesLess y.name x.name with
   |true=>
    rw [c2] at h
    simp only [Option.map_eq_some_iff] at h
    obtain ⟨m',h1,rfl⟩:=h
    obtain ⟨g1,g2⟩:=yY n (x::a) b m' (by simp only [List.length_cons];omega) ha' hb.2 h1
    refine ⟨fun z=>by rw [List.mem_cons,g1,List.mem_cons (a:=z) (b:=y) (l:=b)];exact or_left_comm,List.pairwise_cons.2 ⟨fun z hz => ?_,g2⟩⟩
    rcases (g1 z).1 hz with h | h
    ·rcases List.mem_cons.1 h with rfl | h
     ·exact c2
     ·exact rX c2 (ha.1 z h)
    ·exact hb.1 z h
   |false=>
    rw [c2] at h
    simp only at h
    have hn:=J9 c1 c2
    cases c3:(x.name == y.name&&x.value == y.value) with
    |false=>rw [c3] at h;cases h
    |true=>
     rw [c3] at h
     simp only [Option.map_eq_some_iff] at h
     obtain ⟨m',h1,rfl⟩:=h
     have hxy:=Km c3
     subst hxy
     obtain ⟨g1,g2⟩:=yY n a b m' (by omega) ha.2 hb.2 h1
     refine ⟨fun z=>by rw [List.mem_cons,g1,List.mem_cons (a:=z) (b:=x) (l:=a),List.mem_cons (a:=z) (b:=x) (l:=b)];exact or_or_distrib_left,List.pairwise_cons.2 ⟨fun z hz => ?_,g2⟩⟩
     rcases (g1 z).1 hz with h | h
     ·exact ha.1 z h
     ·exact hb.1 z h
theorem PK:∀ (l:List aw) (p q:aw),q∈p::ddF p l↔q∈p::l
 |[],p,q=>by simp [ddF]
 |r::t,p,q=>by
  rw [ddF]
  split
  ·rename_i h
   obtain rfl:=Km h
   rw [PK t r q];simp
  ·rw [List.mem_cons,PK t r q,List.mem_cons (a:=q) (b:=p)]
theorem Th:∀ (l:List aw) (p:aw),Wek (p::l)→(∀ x∈p::l,∀ y∈p::l,x.name=y.name→x=y)→Fy (p::ddF p l)
 |[],p,_,_=>by simp [ddF,Fy]
 |q::t,p,hw,hu=>by
  have hw':=hw
  rw [Wek,List.pairwise_cons] at hw
  have ih:=Th t q hw.2 (fun x hx y hy=>hu x (by simp at hx ⊢;exact .inr hx) y (by simp at hy ⊢;exact .inr hy))
  rw [ddF]
  split
  ·rename_i h
   obtain rfl:=Km h
   exact ih
  ·rename_i h
   have hpq:Op.bytesLess p.name q.name=true:=by
    have h1:=hw.1 q (by simp)
    cases h2:Op.bytesLess p.name q.name with
    |true=>rfl
    |false=>
     have:=hu p (by simp) q (by simp) (J9 h2 h1)
     subst this
     exact absurd (PJ p) h
   refine List.pairwise_cons.2 ⟨fun z hz => ?_,ih⟩
   rcases List.mem_cons.1 hz with rfl | hz
   ·exact hpq
   ·exact rX hpq ((List.pairwise_cons.1 ih).1 z hz)
structure Srt (srt:List aw→List aw):Prop where
 perm:∀ l,(srt l).Perm l
 ord:∀ l,Wek (srt l)
theorem Ti{a b:List aw}(ha:Fy a)(hb:Fy b)(hc:lI a b=false):∀ x∈a++b,∀ y∈a++b,x.name=y.name→x=y:=by
 have hab:∀ x∈a,∀ y∈b,x.name=y.name→x=y:=fun x hx y hy hn=>by
  have h1:(b.any fun g=>kD x g)=false:=by
   unfold lI at hc
   rw [List.any_eq_false] at hc
   have:=hc x hx
   simpa using this
  rw [List.any_eq_false] at h1
  have h2:=h1 y hy
  simp only [kD,hn,beq_self_eq_true,Bool.true_and,Bool.not_eq_true,Bool.not_eq_false'] at h2
  cases x;cases y;simp only at hn h2;rw [hn,eq_of_beq h2]
 intro x hx y hy hn
 rcases List.mem_append.1 hx with hx | hx<;>rcases List.mem_append.1 hy with hy | hy
 ·exact Oo ha hx hy hn
 ·exact hab x hx y hy hn
 ·exact (hab y hy x hx hn.symm).symm
 ·exact Oo hb hx hy hn
theorem PL{srt:List aw→List aw}(hs:Srt srt){l:List aw}(hu:∀ x∈l,∀ y∈l,x.name=y.name→x=y):(∀ x,x∈yX (srt l)↔x∈l)∧Fy (yX (srt l)):=by
 have hp:=hs.perm l
 have ho:=hs.ord l
 generalize srt l=s at hp ho
 have hm:∀ x,x∈s↔x∈l:=fun x=>hp.mem_iff
 cases s with
 |nil=>exact ⟨fun x=>by rw [← hm];rfl,.nil⟩
 |cons p s=>exact ⟨fun x=>by rw [← hm];exact PK s p x,Th s p ho fun x hx y hy=>hu x ((hm x).1 hx) y ((hm y).1 hy)⟩
def PM(srt:List aw→List aw)(a b:List aw):Option (List aw):=sel (vV a&&vV b && !lI a b) (some (yX (srt (a++b)))) none
theorem Tj{srt:List aw→List aw}(hs:Srt srt)(a b:List aw):PM srt a b=vW a b:=by
 unfold PM vW
 cases ha:vV a with
 |false=>rfl
 |true=>
  cases hb:vV b with
  |false=>rfl
  |true=>
   have hc:=vv _ a b (Nat.le_refl _) ha hb
   simp only [Bool.true_and,sel]
   cases hcl:lI a b with
   |true=>
    rw [hcl] at hc
    cases hm:gq a b with
    |none=>rfl
    |some m=>rw [hm] at hc;cases hc
   |false=>
    rw [hcl] at hc
    cases hm:gq a b with
    |none=>rw [hm] at hc;cases hc
    |some m=>
     obtain ⟨g1,g2⟩:=yY _ a b m (Nat.le_refl _) (DC ha) (DC hb) hm
     obtain ⟨g3,g4⟩:=PL hs (Ti (DC ha) (DC hb) hcl)
     simp only [Bool.not_false]
     congr 1
     exact Qz g4 g2 fun x=>by rw [g3,g1,List.mem_append]
theorem DV:∀ (n:Nat) (a b m:List aw),a.length+b.length≤n→gq a b=some m→m.length≤a.length+b.length
 |_,[],b,m,_,h=>by
  have:gq [] b=some b:=by cases b<;>simp [gq]
  rw [this] at h;cases h;simp
 |_,x::a,[],m,_,h=>by
  have:gq (x::a) []=some (x::a):=by simp [gq]
  rw [this] at h;cases h;simp
 |0,x::a,y::b,m,hl,_=>by simp at hl
 |n+1,x::a,y::b,m,hl,h=>by
  simp only [List.length_cons] at hl
  rw [gq] at h
  split at h
  ·simp only [Option.map_eq_some_iff] at h
   obtain ⟨m',h1,rfl⟩:=h
   have:=DV n a (y::b) m' (by simp only [List.length_cons];omega) h1
   simp only [List.length_cons] at this ⊢;omega
  ·split at h
   ·simp only [Option.map_eq_some_iff] at h
    obtain ⟨m',h1,rfl⟩:=h
    have:=DV n (x::a) b m' (by simp only [List.length_cons];omega) h1
    simp only [List.length_cons] at this ⊢;omega
   ·split at h
    ·simp only [Option.map_eq_some_iff] at h
     obtain ⟨m',h1,rfl⟩:=h
     have:=DV n a b m' (by omega) h1
     simp only [List.length_cons];omega
    ·cases h
section
open Go.Sort Go.Proofs Go.Lib
abbrev Pr:=List UInt8×List UInt8
def GH(x:Pr):List AV:=[.str x.1,.str x.2]
def Cz(x:Pr):List Value:=[.string ⟨x.1.toArray⟩,.string ⟨x.2.toArray⟩]
def Kn(x y:Pr):Int:=Lib.compareBytes x.1 y.1
def uD(d:Array Pr):Array Pr:=pdq (ltOf Kn) d 0 d.size (Lib.bitLen d.size) true true
def EU(l:List Pr):List Pr:=(uD l.toArray).toList
section
variable{P:Program}{G:Nat→Option (List AV)}{K:aA}{H:List ag}{w:World}
theorem Inv.drewN(hi:Inv K H w):∀ n,Inv K H (w.drewN n)
 |0=>by rw [World.drewN_zero];exact hi
 |n+1=>(Inv.drewN hi n).drew
theorem Inv.grow(hi:Inv K H w)(os:Array Obj):Inv K H (Go.Sort.grow w os):=by
 obtain ⟨l,rfl⟩:∃ l:List Obj,os=l.toArray:=⟨os.toList,by simp⟩
 induction l generalizing w with
 |nil=>simpa using hi
 |cons o l ih=>
  have:=ih (hi.junk o)
  rw [alloc_eq_grow,grow_grow] at this
  simpa using this
theorem PN:∀ (x y rest:List AV),x.length=y.length→aX (x++rest) 0 y=y++rest:=by
 have key:∀ (y x pre rest:List AV),x.length=y.length→aX (pre++x++rest) pre.length y=pre++y++rest:=by
  intro y
  induction y with
  |nil=>intro x pre rest h;have:x=[]:=List.length_eq_zero_iff.1 h;subst this;simp [aX]
  |cons a y ih=>
   intro x pre rest h
   cases x with
   |nil=>cases h
   |cons b x=>
    rw [aX]
    have:=ih x (pre++[a]) rest (by simpa using h)
    simp only [List.length_append,List.length_cons,List.length_nil,List.append_assoc,List.cons_append,List.nil_append] at this ⊢
    rw [← this]
    congr 1
    simp
 intro x y rest h
 simpa using key y x [] rest h
theorem L8(l:List Pr):∀ (j:Nat),j<l.length*2→∃ s,(l.flatMap GH)[j]?=some (.str s)∧(Cz (l.toArray[j / 2]!))[j % 2]! = .string ⟨s.toArray⟩:=by
 induction l with
 |nil=>intro j h;simp at h
 |cons x l ih=>
  intro j h
  match j with
  |0=>exact ⟨x.1,rfl,rfl⟩
  |1=>exact ⟨x.2,rfl,rfl⟩
  |j+2=>
   obtain ⟨s,h1,h2⟩:=ih j (by simp at h;omega)
   refine ⟨s,by simpa [GH] using h1, ?_⟩
   have e1:(j+2) / 2=j / 2+1:=by omega
   have e2:(j+2) % 2=j % 2:=by omega
   rw [e1,e2,← h2]
   simp
theorem l6(l:List Pr):(l.flatMap GH).length=l.length*2:=by
 induction l with
 |nil=>rfl
 |cons x l ih=>simp [GH,ih];omega
theorem Oq{f g:FuncId}(ef:∀ args w,(callFunc f args).run P w = .ok (.enter f args) w)
  (hs:∀ (blk cap:Nat) (d:Array Pr) (w:World),HoldsK Cz 2 w blk 0 d→blk<w.heap.size→d.size<4611686018427387904 →
   Calls P f #[.slice (some ⟨blk,0,none⟩) d.size cap,.func (.func g) #[] #[]] w fun e w'=>e = .returned (.tuple #[])∧∃ n os,w'=sortWorldK Cz 2 w blk 0 n (uD d) os)
  (hz:∀ d:Array Pr,(uD d).size=d.size)
  {l:List Pr} (hl:l.length<4611686018427387904) {rest:List AV}{id:Nat}{room:Bool}{T:TypeId} (hid:H[id]?=some (.cells (l.flatMap GH++rest) T)) :
  ff P G f [.rslice id 0 l.length 2 room,.fn (.func g) [] []] H fun r H'=>r = .ret (.tuple [])∧H'=H.set id (.cells ((EU l).flatMap GH++rest) T):=by
 intro K w cargs hg hi hv
 obtain ⟨c,d,rfl,hc,hd⟩:=vd hv
 cases hc with
 |rslice _ _ _ _ _ b cap hb hcap hro=>
 cases hd with
 |fn _ _ _ vs us h1 h2 hv1 hu1=>
 obtain rfl:vs = #[]:=Array.eq_empty_of_size_eq_zero h1.symm
 obtain rfl:us = #[]:=Array.eq_empty_of_size_eq_zero h2.symm
 obtain ⟨b',vs,T',g1,g2,g3,g4,g5,g6,g7,g8,g9⟩:=hi.obj id _ hid
 rw [hb] at g1;cases g1
 have hlen:l.length*2≤vs.size:=by
  rw [List.length_append,l6] at g4;omega
 have hH:HoldsK Cz 2 w b 0 l.toArray:=by
  intro j hj
  rw [size_flatK] at hj
  simp only [List.size_toArray] at hj
  obtain ⟨s,e1,e2⟩:=L8 l j hj
  have hav:=g5 j (.str s) (by rw [List.getElem?_append_left (by rw [l6];exact hj)];exact e1)
  have hlt:j<vs.size:=by omega
  refine ⟨?_,by simp [World.frozen?,g3]⟩
  rw [Nat.zero_add,cell_of_heap g3,Array.getElem?_eq_getElem hlt]
  rw [get_flatK _ _ _ _ (by simpa using hj),e2]
  have hgd:vs.getD j undef=vs[j]:=by simp [Array.getD,hlt]
  rw [hgd] at hav
  generalize vs[j]=v at hav
  cases hav
  rfl
 have hblk:b<w.heap.size:=(Array.getElem?_eq_some_iff.1 g3).1
 have hc:=hs b cap l.toArray w hH hblk (by simpa using hl)
 simp only [List.size_toArray] at hc
 refine .inl ⟨ef _ _,hc.mono ?_⟩
 rintro e w' ⟨rfl,n,os,rfl⟩
 have hz':(uD l.toArray).size=l.length:=by simpa using hz l.toArray
 have hsl:(EU l).length=l.length:=by simpa [EU] using hz'
 refine ⟨K,.ret (.tuple []),_,.refl K,(.tuple [] #[] rfl (by simp):V K _ _), ?_,rfl,rfl⟩
 have e1:putRowK Cz 2 (Sort.ahead w n) b 0 (uD l.toArray)=(w.drewN n).setCells b 0 (flatK Cz 2 (uD l.toArray)).toList:=by
  have:=putRow_eq_setCells (fun v:Value=>v) w b 0 (flatK Cz 2 l.toArray) (flatK Cz 2 (uD l.toArray)).toList n hH (by simp [hz'])
  simp only [Array.toArray_toList,List.map_id_fun,List.map_id] at this
  refine Eq.trans ?_ (this.trans ?_)
  ·rfl
  ·congr 1;exact List.map_id _
 unfold sortWorldK
 rw [e1]
 refine Inv.grow ?_ os
 have hi2:=hi.drewN n
 have:=Inv.stores hb ((EU l).flatMap GH) (flatK Cz 2 (uD l.toArray)).toList 0 H (w.drewN n) (l.flatMap GH++rest) T hi2 hid (by rw [l6,hsl];simp [hz']) (by rw [l6,hsl,List.length_append,l6];omega) (fun j av hj=>by
  have hj2:j<(EU l).length*2:=by rw [← l6];exact (List.getElem?_eq_some_iff.1 hj).1
  obtain ⟨s,k1,k2⟩:=L8 (EU l) j hj2
  rw [hj] at k1;cases k1
  refine ⟨.string ⟨s.toArray⟩, ?_,.str s⟩
  have hj3:j<(uD l.toArray).size*2:=by rw [hz',← hsl];exact hj2
  have:(flatK Cz 2 (uD l.toArray))[j]! = .string ⟨s.toArray⟩:=by
   rw [get_flatK _ _ _ _ hj3,← k2];simp [EU]
  rw [Array.getElem?_toList,← this,getElem!_def]
  have hj4:j<(flatK Cz 2 (uD l.toArray)).size:=by rw [size_flatK];exact hj3
  rw [Array.getElem?_eq_getElem hj4])
 rwa [PN _ _ _ (by rw [l6,l6,hsl])] at this
end
end
section
open Go.Sort Go.Proofs Go.Lib
def toP(x:aw):Pr:=(x.name,x.value)
def ofP(p:Pr):aw:=⟨p.1,p.2⟩
def Tk(l:List aw):List aw:=(EU (l.map toP)).map ofP
theorem QA(l:List aw):b4 l=(l.map toP).flatMap GH:=by
 unfold b4
 induction l with
 |nil=>rfl
 |cons x l ih=>rw [List.map_cons,List.flatten_cons,ih];rfl
theorem Up(l:List Pr):b4 (l.map ofP)=l.flatMap GH:=by
 rw [QA,List.map_map]
 congr 1
 exact List.map_id l
theorem Tl:∀ x y:List UInt8,decide (Lib.compareBytes x y<0)=Op.bytesLess x y
 |[],[]=>rfl
 |[],_::_=>rfl
 |_::_,[]=>rfl
 |a::x,b::y=>by
  rw [Lib.compareBytes,Op.bytesLess]
  by_cases h1:a<b
  ·simp [h1]
  ·by_cases h2:b<a
   ·have:¬ a=b:=fun e=>by subst e;exact h1 h2
    simp [h1,h2,this]
   ·have:a=b:=UInt8.le_antisymm (UInt8.not_lt.1 h2) (UInt8.not_lt.1 h1)
    subst this
    simp [h1,Tl x y]
theorem QB(x y:Pr):ltOf Kn x y=Op.bytesLess x.1 y.1:=Tl x.1 y.1
theorem VZ:SWO (ltOf Kn) where
 irrefl x:=by rw [QB];exact Dw _
 trans x y z h1 h2:=by rw [QB] at *;exact rX h1 h2
 ntrans x y z h1 h2:=by
  rw [QB] at *
  cases h3:Op.bytesLess x.1 z.1 with
  |false=>rfl
  |true=>
   cases h4:Op.bytesLess y.1 x.1 with
   |true=>rw [rX h4 h3] at h2;cases h2
   |false=>rw [J9 h1 h4] at h3;rw [h3] at h2;cases h2
theorem Fz(d:Array Pr):PermIn 0 d.size d (uD d)∧SortedIn (ltOf Kn) 0 d.size (uD d):=
 pdq_sorts (ltOf Kn) VZ d 0 d.size (Lib.bitLen d.size) true true (Nat.zero_le _) (Nat.le_refl _) (Or.inl rfl)
theorem Hz(d:Array Pr):(uD d).size=d.size:=(Fz d).1.1
theorem Tm:Srt Tk:=by
 constructor
 ·intro l
  have h:=(Fz (l.map toP).toArray).1.2.2
  have hs:=Hz (l.map toP).toArray
  have e1:(uD (l.map toP).toArray).extract 0 (l.map toP).toArray.size=uD (l.map toP).toArray:=by rw [← hs];exact Array.extract_size
  have e2:(l.map toP).toArray.extract 0 (l.map toP).toArray.size=(l.map toP).toArray:=Array.extract_size
  rw [e1,e2] at h
  have h2:=h.map ofP
  have e3:(l.map toP).map ofP=l:=by rw [List.map_map];exact List.map_id l
  rwa [e3] at h2
 ·intro l
  have h:=(Fz (l.map toP).toArray).2
  have hs:=Hz (l.map toP).toArray
  unfold Wek Tk EU
  rw [List.pairwise_iff_getElem]
  intro i j hi hj hij
  simp only [List.length_map,Array.length_toList] at hi hj
  have:=h i j (Nat.zero_le _) hij (by rw [← hs];exact hj)
  rw [QB] at this
  simp only [List.getElem_map,Array.getElem_toList]
  rw [getElem!_pos _ i hi,getElem!_pos _ j hj] at this
  exact this
def Ot:List AV→Option (List Pr)
 |[]=>some []
 |.str a :: .str b::r=>match Ot r with
  |some l=>some ((a,b)::l)
  |none=>none
 |_=>none
theorem L9:∀ l:List Pr,Ot (l.flatMap GH)=some l
 |[]=>rfl
 |x::l=>by
  show Ot (.str x.1 :: .str x.2::l.flatMap GH)=_
  rw [Ot,L9 l]
theorem QC:∀ {cs:List AV}{l:List Pr},Ot cs=some l→cs=l.flatMap GH
 |[],l,h=>by cases h;rfl
 |.str a :: .str b::r,l,h=>by
  rw [Ot] at h
  split at h
  ·rename_i l' h'
   cases h
   rw [QC h'];rfl
  ·cases h
def RF(fS gU:FuncId)(f:FuncId)(args:List AV)(H:List ag):Option Out:=
 match args with
 |[.rslice id 0 n 2 true,.fn (.func g) [] []]=>bif Nat.beq f fS&&Nat.beq g gU then (match H[id]? with
   |some (.cells cs T)=>match Ot cs with
    |some l=>bif Nat.beq l.length n&&Nat.ble n 4000000000 then some (.ret (.tuple []),H.set id (.cells ((EU l).flatMap GH) T)) else none
    |none=>none
   |_=>none) else none
 |[.slice .full 2 [],.fn (.func g) [] []]=>bif Nat.beq f fS&&Nat.beq g gU then some (.ret (.tuple []),H) else none
 |_=>none
theorem Uq{P:Program}{G:Nat→Option (List AV)}{fS gU:FuncId}(ef:∀ args w,(callFunc fS args).run P w = .ok (.enter fS args) w)
  (hs:∀ (blk cap:Nat) (d:Array Pr) (w:World),HoldsK Cz 2 w blk 0 d→blk<w.heap.size→d.size<4611686018427387904 →
   Calls P fS #[.slice (some ⟨blk,0,none⟩) d.size cap,.func (.func gU) #[] #[]] w fun e w'=>e = .returned (.tuple #[])∧∃ n os,w'=sortWorldK Cz 2 w blk 0 n (uD d) os)
  (h0:∀ (p:Option Addr) (cap:Nat) (fv:Value) (w:World),Calls P fS #[.slice p 0 cap,fv] w fun e w'=>e = .returned (.tuple #[])∧w'=w)
  {f:FuncId}{args:List AV}{H H':List ag}{r:wg} (h:RF fS gU f args H=some (r,H')):ff P G f args H fun r2 H2=>r2=r∧H2=H':=by
 unfold RF at h
 split at h
 ·rename_i id n g
  cases hb:(Nat.beq f fS&&Nat.beq g gU) with
  |false=>rw [hb] at h;cases h
  |true=>
   rw [hb,cond_true] at h
   simp only [Bool.and_eq_true] at hb
   obtain rfl:=Nat.eq_of_beq_eq_true hb.1
   obtain rfl:=Nat.eq_of_beq_eq_true hb.2
   split at h<;>try (cases h;done)
   rename_i cs T hx
   split at h<;>try (cases h;done)
   rename_i l hl
   cases hc:(Nat.beq l.length n&&Nat.ble n 4000000000) with
   |false=>rw [hc] at h;cases h
   |true=>
    rw [hc,cond_true] at h
    simp only [Bool.and_eq_true] at hc
    obtain rfl:=Nat.eq_of_beq_eq_true hc.1
    have hle:=Nat.le_of_ble_eq_true hc.2
    cases h
    obtain rfl:=QC hl
    have:=Oq (P:=P) (G:=G) ef hs Hz (l:=l) (by omega) (rest:=[]) (H:=H) (id:=id) (room:=true) (T:=T) (by rw [List.append_nil];exact hx)
    simpa using this
 ·rename_i g
  cases hb:(Nat.beq f fS&&Nat.beq g gU) with
  |false=>rw [hb] at h;cases h
  |true=>
   rw [hb,cond_true] at h
   simp only [Bool.and_eq_true] at hb
   obtain rfl:=Nat.eq_of_beq_eq_true hb.1
   cases h
   intro K w cargs hg hi hv
   obtain ⟨c,d,rfl,hc,hd⟩:=vd hv
   obtain ⟨p,rfl⟩:∃ p,c = .slice p 0 0:=by
    cases hc with
    |slice0 _ _ a _=>exact ⟨a,rfl⟩
    |slice _ _ _ b o cap vs hl him hvv hcap ht=>exact ⟨_,by have:cap=0:=ht;rw [this];rfl⟩
   refine .inl ⟨ef _ _,(h0 p 0 d w).mono ?_⟩
   rintro e w' ⟨rfl,rfl⟩
   exact ⟨K,.ret (.tuple []),H,.refl K,(.tuple [] #[] rfl (by simp):V K _ _),hi,rfl,rfl⟩
 ·cases h
end
section
attribute [local congr] aS eF bZ aT bC bk aU aI aJ bm bn
variable{E:bP}(M:dV ei E)
def V0(v:AV)(b:List aw):Nat→aw→Option AV:=fun i x=>sel (Dt b (fun g => !Op.bytesLess g.name x.name) i) (some v) none
theorem inl{H H0:List ag}{b:Sl aw}(hb:b.l.length≤aZ)(hc:bU H0 H)(k:List Fra):∀ (n i:Nat) (h1:1≤i) (He:List ag),(b.l).length-i=n →
  M.go fD H0 (.c jF :: .lp ⟨(some [0,3]),[],false⟩ jF He :: .blk 0 :: .c (.lv [])::k) (kv [(0,.slice b.tag 2 (b.l.map aw.row)),(3,.int .i64 i)]) H =
   orE (bN (V0 (.bool false) b.l) i (b.l.drop i)) (H.take H0.length) (M.go fD H0 k .leaf H)
 |0,i,h1,He,h=>by
  have e:¬ i<(b.l).length:=by omega
  have e2:(b.l).drop i=[]:=List.drop_of_length_le (by omega)
  rw [aq M jF.eq_1]
  simp (maxSteps:=3000000) (maxDischargeDepth:=6) +contextual -implicitDefEqProofs only [amA M,amB,↓ae,↓aa,↓aj,↓ah,Nat.reduceBEq,Nat.reduceAdd,env,ao,xg,e,e2]
 |n+1,i,h1,He,h=>by
  have hi:i<(b.l).length:=by omega
  have hx:(b.l)[i]?=some (b.l)[i]:=List.getElem?_eq_getElem hi
  have hd:((b.l).drop i)=(b.l)[i]::(b.l).drop (i+1):=List.drop_eq_getElem_cons hi
  have hm:(b.l)[i]∈(b.l):=List.getElem_mem hi
  have ih:=fun h1 He=>inl (H:=H) (H0:=H0) (b:=b) (hb:=hb) hc k n (i+1) h1 He (by omega)
  simp only [kv_cons,kv_nil] at ih
  have ih:=ih (by omega)
  cases i with
  |zero=>omega
  |succ i=>
   have hx1:b.l[i]?=some b.l[i]:=List.getElem?_eq_getElem (by omega)
   rw [aq M jF.eq_1]
   simp (maxSteps:=3000000) (maxDischargeDepth:=6) +contextual -implicitDefEqProofs only [amA M,amB,↓ae,↓aa,↓aj,↓ah,Nat.reduceBEq,Nat.reduceAdd,env,ao,xg,hx,hd,hi,ih,qn,hx1,aC hi,aC (show i<b.l.length by omega),E7 (show i+1≤aZ by omega),bt hi hb,V0,nE hx1,hc]
theorem Tn{H0:List ag}{k:List Fra}{id:Nat}{T:TypeId}{rest:List AV}{H:List ag}{l:List aw}(hx:H[id]?=some (.cells (b4 l++rest) T))
  (hk:M.go aN H0 k (kv [(0,.rslice id 0 l.length 2 true)]) H=some (.ret (.rslice id 0 l.length 2 true),H.take H0.length)) :
  ∀ (t out:List aw) (p:aw),l=out++p::t→cpR M H0 k id T rest H l.length out p t=some (.ret (.rslice id 0 (out++p::ddF p t).length 2 true),(H.set id (.cells (b4 (out++p::ddF p t)++(oE (l.length-(out++p::ddF p t).length)++rest)) T)).take H0.length)
 |[],out,p,hl=>by
  rw [cpR,hk,ddF,← hl,Nat.sub_self,show oE 0=[] from rfl,List.nil_append,Ac hx]
 |q::t,out,p,hl=>by
  rw [cpR,ddF]
  split
  ·rfl
  ·have:=Tn hx hk t (out++[p]) q (by rw [hl];simp)
   rw [this]
   simp only [List.append_assoc,List.cons_append,List.nil_append]
theorem Ou(hU:Hy E){l:List aw}(h0:0<l.length)(hn:l.length≤4000000000){H:List ag}{id:Nat}{T:TypeId}{rest:List AV}(hr:∀ c∈rest,Wk H.length c c)(hx:H[id]?=some (.cells (b4 l++rest) T)) :
  M.run eL [.rslice id 0 l.length 2 true] H=some (.ret (.rslice id 0 (yX l).length 2 true),H.set id (.cells (b4 (yX l)++(oE (l.length-(yX l).length)++rest)) T)):=by
 have hid:id<H.length:=(List.getElem?_eq_some_iff.1 hx).1
 have hw:∀ n,v7 ei .drop H H (.rslice id 0 n 2 true)=some (.rslice id 0 n 2 true,H.take H.length):=fun n=>handV_drop (cut_refl H) (wk_rslice hid)
 match l,h0,hn,hx with
 |[x],_,_,hx=>
  rw [aK M hU.slices_Compact_api_Feat_api_Feat rfl (c:=bO) rfl,bO]
  have e:yX [x]=[x]:=rfl
  have hs:H.set id (.cells (b4 [x]++(oE ([x].length-[x].length)++rest)) T)=H:=by rw [Nat.sub_self];exact Ac hx
  rw [e,hs]
  simp (maxSteps:=3000000) (maxDischargeDepth:=6) +contextual -implicitDefEqProofs only [amA M,amB,↓ae,↓aa,↓aj,↓ah,Nat.reduceBEq,Nat.reduceAdd,env,ao,a6,Bl,hw,(show decide ([x].length<2)=true from rfl),(show decide ((([x].length:Nat):Int)<2)=true from rfl)]
 |x::y::t,_,hn,hx=>
  rw [aK M hU.slices_Compact_api_Feat_api_Feat rfl (c:=bO) rfl,bO]
  generalize hl:x::y::t=l at *
  have d:decide ((l.length:Int)<2)=false:=decide_eq_false (by rw [← hl];simp;omega)
  have h1:=fun k He=>cpo M hU (H:=H) (H0:=H) hid hid (cut_refl H) (T:=T) (rest:=rest) hr k (l:=l) hn hx (y::t) [] x He (by rw [← hl];rfl)
  simp only [kv_cons,kv_nil,List.length_nil,Nat.zero_add,(show ((1:Nat):Int)=1 from rfl)] at h1
  have hk:M.go aN H [.c (Sh.Q (Sh.O [Sh.m 60 0,Sh.m 2 60]) Sh.R)] (kv [(0,.rslice id 0 l.length 2 true)]) H=some (.ret (.rslice id 0 l.length 2 true),H.take H.length):=by
   simp only [kv_cons,kv_nil]
   simp (maxSteps:=3000000) (maxDischargeDepth:=6) +contextual -implicitDefEqProofs only [amA M,amB,↓ae,↓aa,↓aj,↓ah,Nat.reduceBEq,Nat.reduceAdd,env,ao,a6,hw]
  have h2:=Tn M (rest:=rest) hx hk (y::t) [] x (by rw [← hl];rfl)
  have hc:yX l=[]++x::ddF x (y::t):=by rw [← hl];rfl
  rw [← hc,List.take_of_length_le (by simp)] at h2
  simp (maxSteps:=3000000) (maxDischargeDepth:=6) +contextual -implicitDefEqProofs only [amA M,amB,↓ae,↓aa,↓aj,↓ah,Nat.reduceBEq,Nat.reduceAdd,env,ao,a6,Bl,d,h1]
  exact h2
theorem Ov(hU:Hy E){ta tb:Tag}(H:List ag) :
  M.run eY [.slice .full 1 [[.slice ta 2 []],[.slice tb 2 []]]] H=some (.ret (.slice .full 2 []),H):=by
 rw [aK M hU.slices_Concat_api_Feat_api_Feat rfl (c:=dL) rfl,dL]
 have w1:IntKind.i64.wrap (0+0)=0:=by decide
 have w3:IntKind.i64.wrap (0+1)=1:=by decide
 have w4:IntKind.i64.wrap (1+1)=2:=by decide
 have d1:decide ((0:Int)<0)=false:=rfl
 have i0:Aj 1 (.slice .full 1 [[.slice ta 2 []],[.slice tb 2 []]]) (.int .i64 0)=some (.vptr 1 [[.slice ta 2 []],[.slice tb 2 []]] 0 0):=rfl
 have i1:Aj 1 (.slice .full 1 [[.slice ta 2 []],[.slice tb 2 []]]) (.int .i64 1)=some (.vptr 1 [[.slice ta 2 []],[.slice tb 2 []]] 1 0):=rfl
 have n0:(([[.slice ta 2 []],[.slice tb 2 []]]:List (List AV)).length:Int)=2:=rfl
 have n1:decide ((0:Int)<2)=true:=rfl
 have n2:decide ((1:Int)<2)=true:=rfl
 have n3:decide ((2:Int)<2)=false:=rfl
 have g0:([[.slice ta 2 []],[.slice tb 2 []]]:List (List AV))[0]?=some [.slice ta 2 []]:=rfl
 have g1:([[.slice ta 2 []],[.slice tb 2 []]]:List (List AV))[1]?=some [.slice tb 2 []]:=rfl
 have l0:∀ x:AV,dK none [x] 0=some x:=fun _=>rfl
 have e0:(((List.length ([]:List (List AV))):Nat):Int)=0:=rfl
 simp (maxSteps:=3000000) (maxDischargeDepth:=6) +contextual -implicitDefEqProofs only [amA M,amB,↓ae,↓aa,↓aj,↓ah,Nat.reduceBEq,Nat.reduceAdd,env,ao,lu,n0,n1,n2,n3,g0,g1,l0,e0,aq M gG.eq_1,aq M gH.eq_1,w1,w3,w4,d1,i0,i1,RD M hU,L7 (.inl rfl),L7 (.inr rfl)]
structure Ow (M:dV ei E) (srt:List aw→List aw):Prop where
 none:∀ H,M.run bh [.slice .full 2 [],.fn (.func gR) [] []] H=some (.ret (.tuple []),H)
 some:∀ {l:List aw}{H:List ag}{id:Nat}{T:TypeId},0<l.length→l.length≤4000000000→H[id]? = .some (.cells (b4 l) T) →
  M.run bh [.rslice id 0 l.length 2 true,.fn (.func gR) [] []] H = .some (.ret (.tuple []),H.set id (.cells (b4 (srt l)) T))
 len:∀ l,(srt l).length=l.length
theorem Ko:∀ (l:List aw) (rest:List AV),l7 2 l.length (b4 l++rest)=l.map aw.row
 |[],_=>rfl
 |x::l,rest=>by
  have e:b4 (x::l)++rest=x.row++(b4 l++rest):=by simp [b4]
  rw [e,List.length_cons,l7]
  show x.row::l7 2 l.length (b4 l++rest)=_
  rw [Ko l rest];rfl
theorem Ox(H:List ag)(o o':ag):(H++[.dead,.dead,o]).set (H.length+2) o'=H++[.dead,.dead,o']:=by
 rw [List.set_append_right _ _ (by omega)];simp
theorem Kq(H:List ag)(o:ag):(H++[.dead,.dead,o])[H.length+2]?=some o:=by
 rw [List.getElem?_append_right (by omega)];simp
theorem RG(hU:Hy E){srt:List aw→List aw}(hS:Ow M srt){a b:Sl aw}(h:a.l.length+b.l.length≤4000000000)(H:List ag) :
  M.run u1 [.slice a.tag 2 (a.l.map aw.row),.slice b.tag 2 (b.l.map aw.row)] H=some (.ret (.slice .any 2 ((yX (srt (a.l++b.l))).map aw.row)),H):=by
 rw [aK M hU.morph_union rfl (c:=zn) rfl,zn]
 have e1:List.map AV.strip [AV.slice a.tag 2 (a.l.map aw.row),.slice b.tag 2 (b.l.map aw.row)]=[.slice a.tag.strip 2 (a.l.map aw.row),.slice b.tag.strip 2 (b.l.map aw.row)]:=by simp [yO]
 have e2:∀ x y:AV,yG 1 2 [x,y]=[[x],[y]]:=fun _ _=>rfl
 by_cases h0:a.l.length+b.l.length=0
 ·have ha:a.l=[]:=List.length_eq_zero_iff.1 (by omega)
  have hb:b.l=[]:=List.length_eq_zero_iff.1 (by omega)
  have hs:srt ([]++[])=[]:=List.length_eq_zero_iff.1 (by rw [hS.len];rfl)
  have hcp:M.run eL [.slice .full 2 []] H=some (.ret (.slice .any 2 []),H):=by
   rw [aK M hU.slices_Compact_api_Feat_api_Feat rfl (c:=bO) rfl,bO]
   simp (maxSteps:=3000000) (maxDischargeDepth:=6) +contextual -implicitDefEqProofs only [amA M,amB,↓ae,↓aa,↓aj,↓ah,Nat.reduceBEq,Nat.reduceAdd,env,ao,a6,Bl,(show decide ((((List.length ([]:List (List AV))):Nat):Int)<2)=true from rfl),(show decide (List.length ([]:List (List AV))<2)=true from rfl),bV]
  rw [ha,hb,hs]
  rw [ha,hb] at e1
  simp only [List.map_nil] at e1 ⊢
  simp (maxSteps:=3000000) (maxDischargeDepth:=6) +contextual -implicitDefEqProofs only [amA M,amB,↓ae,↓aa,↓aj,↓ah,Nat.reduceBEq,Nat.reduceAdd,env,ao,EG,amG,AV.cell,Nat.reduceMul,Nat.reduceLeDiff,yO,Ov M hU,hS.none,hcp]
  rw [LC (v':=.slice .any 2 []) rfl (fun K K' w w' x hi hi' hk hv=>by
   obtain ⟨hc1,hc2⟩:=hi.cut hi' hk (cut_refl H)
   exact ⟨_,hc2,wk_any (bV _) K' x (by rw [hi'.len];exact Nat.le_refl _) hv,hc1⟩)]
  simp only [List.take_length]
  rfl
 ·have hcc:=fun H=>PG M hU (a:=a.l) (b:=b.l) (ta:=a.tag.strip) (tb:=b.tag.strip) (by omega) h H
  have hll:0<(a.l++b.l).length:=by simp;omega
  have hlm:(a.l++b.l).length≤4000000000:=by simp;omega
  have hso:=hS.some (l:=a.l++b.l) (H:=H++[.dead,.dead,.cells (b4 (a.l++b.l)) aR]) (id:=H.length+2) (T:=aR) hll hlm (Kq _ _)
  rw [Ox] at hso
  have hsl:=hS.len (a.l++b.l)
  generalize hL:srt (a.l++b.l)=L at hso hsl ⊢
  have hcp:=Ou M hU (l:=L) (by omega) (by omega) (H:=H++[.dead,.dead,.cells (b4 L) aR]) (id:=H.length+2) (T:=aR) (rest:=[]) (fun c h=>by cases h) (by rw [Kq,List.append_nil])
  rw [Ox,hsl] at hcp
  have hfz:v7 ei .frz H (H++[.dead,.dead,.cells (b4 (yX L)++(oE ((a.l++b.l).length-(yX L).length)++[])) aR]) (.rslice (H.length+2) 0 (yX L).length 2 true)=some (.slice .any 2 ((yX L).map aw.row),H):=by
   rw [GZ (by omega) (Kq _ _) (by simp) (by simp) (by rw [List.length_append,qT];omega) (GG _ _ _ (fun c hc=>by
    rw [List.append_nil,Ih] at hc
    exact GG _ _ [] (fun _ h=>by cases h) 0 c (by simpa using hc)) 0),List.drop_zero,Ko]
  simp only [List.append_nil] at hfz
  simp (maxSteps:=3000000) (maxDischargeDepth:=6) +contextual -implicitDefEqProofs only [amA M,amB,↓ae,↓aa,↓aj,↓ah,Nat.reduceBEq,Nat.reduceAdd,env,ao,EG,amG,AV.cell,Nat.reduceMul,Nat.reduceLeDiff,yO,hcc,hso,hcp,hfz]
end
section
attribute [local congr] aS eF bZ aT bC bk aU aI aJ bm bn
variable{E:bP}(M:dV ei E)
theorem smf{H H0:List ag}{l:List aw}{ta tb:Tag}(hl:l.length≤aZ)(k:List Fra):∀ (n i:Nat) (He:List ag),i+n=l.length →
  M.go c8 H0 (.c ft :: .lp ⟨(some [0,1,5]),[],false⟩ ft He :: .blk 0 :: .c (.lv [])::k) (kv [(0,.slice ta 2 (l.map aw.row)),(1,.slice tb 2 (l.map aw.row)),(5,.int .i64 i)]) H =
   (M.go c8 H0 k .leaf H)
 |0,i,He,h=>by
  have e:i=l.length:=by omega
  subst e
  rw [aq M ft.eq_1]
  simp (maxSteps:=3000000) (maxDischargeDepth:=6) +contextual -implicitDefEqProofs only [amA M,amB,↓ae,↓aa,↓aj,↓ah,Nat.reduceBEq,Nat.reduceAdd,env,ao,lG,Nat.lt_irrefl,List.drop_length]
 |n+1,i,He,h=>by
  have hi:i<l.length:=by omega
  have hx:l[i]?=some l[i]:=List.getElem?_eq_getElem hi
  have hd:(l.drop i)=l[i]::l.drop (i+1):=List.drop_eq_getElem_cons hi
  have hm:l[i]∈l:=List.getElem_mem hi
  have ih:=fun He=>smf (H:=H) (H0:=H0) (l:=l) (ta:=ta) (tb:=tb) (hl:=hl) k n (i+1)  He (by omega)
  simp only [kv_cons,kv_nil] at ih
  rw [aq M ft.eq_1]
  simp (maxSteps:=3000000) (maxDischargeDepth:=6) +contextual -implicitDefEqProofs only [amA M,amB,↓ae,↓aa,↓aj,↓ah,Nat.reduceBEq,Nat.reduceAdd,env,ao,lG,hx,hd,hi,ih,aC hi,qn,xO,beq_self_eq_true,bt hi hl]
theorem K8(hU:Hy E){l:List aw}{ta tb:Tag}(hl:l.length≤aZ)(H:List ag):M.run lE [.slice ta 2 (l.map aw.row),.slice tb 2 (l.map aw.row)] H=some (.ret (.bool true),H):=by
 rw [aK M hU.truchmanlaw02_SameFeats rfl (c:=lF) rfl,lF]
 have h1:=fun k He=>smf M (H:=H) (H0:=H) (ta:=ta) (tb:=tb) hl k l.length 0 He (by omega)
 simp only [kv_cons,kv_nil,Int.ofNat_zero,List.drop_zero] at h1
 simp (maxSteps:=3000000) (maxDischargeDepth:=6) +contextual -implicitDefEqProofs only [amA M,amB,↓ae,↓aa,↓aj,↓ah,Nat.reduceBEq,Nat.reduceAdd,env,ao,lG,h1,bne_self_eq_false,beq_self_eq_true]
end
section
attribute [local congr] aS eF bZ aT bC bk aU aI aJ bm bn
variable{E:bP}(M:dV ei E)
structure qV (E:bP):Prop where
 morph_language_slot:E.fn kX=some fi
 morph_asked:E.fn rE=some mh
 morph_language_feats:E.fn nH=some fR
 morph_Feats:E.fn y7=some o3
 truchmanref02_slot:E.fn jB=some iA
 truchmanref02_Feats:E.fn pd=some gx
 morph_language_underlying:E.fn kn=some dh
 morph_language_steps:E.fn km=some de
 morph_Steps:E.fn y8=some o4
 truchmanref02_steps:E.fn jn=some dA
 truchmanref02_Steps:E.fn pe=some gy
 truchmanlaw02_SameStrings:E.fn iN=some cE
 strings_Index:E.fn oI=some kd
 strings_Count:E.fn lJ=some kb
 strings_Builder_grow:E.fn nN=some eS
 strings_Builder_Grow:E.fn ky=some eR
 strings_Replace:E.fn tm=some eD
 strings_ReplaceAll:E.fn qt=some fE
 internal_stringslite_Index:E.fn gS=some c6
 morph_language_form:E.fn kW=some dB
 morph_Form:E.fn wm=some nQ
 truchmanref02_form:E.fn jC=some dq
 truchmanref02_Form:E.fn qp=some iu
 morph_language_slots:E.fn nI=some fV
 morph_Forms:E.fn y9=some kJ
 truchmanref02_Slots:E.fn pg=some gB
 truchmanref02_Forms:E.fn pf=some ej
def vX:bD:=⟨0,[],[],⟨.nil,[]⟩⟩
theorem ji:vX.row=[AV.int .i64 0,.str [],.str [],.slice .nil 2 []]:=rfl
def uS(l:Lex)(e:Int):Option aQ:=if e<0 then none else l.entries.l[e.toNat]?
def slC(c:Option aV)(q:Int):Option bD:=
 match c with
 |none=>none
 |some c=>if q<0 then none else c.slots.l[q.toNat]?
def slF(l:Lex)(e q:Int):Option bD:=
 match uS l e with
 |none=>none
 |some x=>slC (yU l x.cls) q
theorem o8(n:Nat):Wk n (.slice .nil 2 []) (.slice .nil 2 []):=wk_slice trivial (bV n)
theorem Oy(hW:WdE M)(hE:lH E)(hF:qV E){l:Lex}(hl:l.ok 0)(e q:Int)(H:List ag) :
  M.run kX [.agg l.row,.int .i64 e,.int .i64 q] H=some (.ret (.tuple [.agg ((slF l e q).getD vX).row,.bool (slF l e q).isSome]),H):=by
 rw [aK M hF.morph_language_slot rfl (c:=pC) rfl,pC]
 cases hr1:decide (e<0) with
 |true=>
  have e1:slF l e q=none:=by simp [slF,uS,of_decide_eq_true hr1]
  rw [e1]
  simp (maxSteps:=3000000) (maxDischargeDepth:=6) +contextual -implicitDefEqProofs only [amA M,amB,↓ae,↓aa,↓aj,↓ah,Nat.reduceBEq,Nat.reduceAdd,env,ao,fj,amG,AV.cell,Nat.reduceMul,Nat.reduceLeDiff,hr1,bp,ji,o8,wk_tuple,wk_agg,Option.getD_none,Option.isSome_none]
 |false=>
  have hr0:¬ e<0:=of_decide_eq_false hr1
  cases hr2:decide ((l.entries.l.length:Int)≤e) with
  |true=>
   have hrl:l.entries.l.length≤e.toNat:=by have:=of_decide_eq_true hr2;omega
   have e1:slF l e q=none:=by simp [slF,uS,hr0,List.getElem?_eq_none hrl]
   rw [e1]
   simp (maxSteps:=3000000) (maxDischargeDepth:=6) +contextual -implicitDefEqProofs only [amA M,amB,↓ae,↓aa,↓aj,↓ah,Nat.reduceBEq,Nat.reduceAdd,env,ao,fj,amG,AV.cell,Nat.reduceMul,Nat.reduceLeDiff,hr1,hr2,bp,ji,o8,wk_tuple,wk_agg,Option.getD_none,Option.isSome_none]
  |false=>
   have hrl:e.toNat<l.entries.l.length:=by have:=of_decide_eq_false hr2;omega
   have hx:l.entries.l[e.toNat]?=some l.entries.l[e.toNat]:=List.getElem?_eq_getElem hrl
   generalize hxx:l.entries.l[e.toNat]=x at hx
   have e0:uS l e=some x:=by simp [uS,hr0,hx]
   cases hc:yU l x.cls with
   |none=>
    have e1:slF l e q=none:=by simp [slF,e0,hc,slC]
    have hcl:=fun H=>uO M hE hl hc H
    have hw:=fun H T L=>MM hW (g:=fO) (first:=[]) (cap:=[]) (args:=[.agg l.row,.str x.cls]) (v:=.tuple [.agg yV.row,.bool false]) hcl H T L
    have z:(((yV.slots.l.length:Nat):Int))=0:=rfl
    rw [e1]
    cases hq:decide (q<0) with
    |true=>
     simp (maxSteps:=3000000) (maxDischargeDepth:=6) +contextual -implicitDefEqProofs only [amA M,amB,↓ae,↓aa,↓aj,↓ah,Nat.reduceBEq,Nat.reduceAdd,env,ao,fj,amG,AV.cell,Nat.reduceMul,Nat.reduceLeDiff,hr1,hr2,hq,hx,eE (Int.not_lt.1 hr0) hrl,Aq hW,hcl,hw,bp,dc,gW,ji,l5,o8,wk_tuple,wk_agg,Option.getD_none,Option.isSome_none]
    |false=>
     have hq2:decide ((0:Int)≤q)=true:=decide_eq_true (Int.not_lt.1 (of_decide_eq_false hq))
     simp (maxSteps:=3000000) (maxDischargeDepth:=6) +contextual -implicitDefEqProofs only [amA M,amB,↓ae,↓aa,↓aj,↓ah,Nat.reduceBEq,Nat.reduceAdd,env,ao,fj,amG,AV.cell,Nat.reduceMul,Nat.reduceLeDiff,hr1,hr2,hq,hq2,z,hx,eE (Int.not_lt.1 hr0) hrl,Aq hW,hcl,hw,bp,dc,gW,ji,l5,o8,wk_tuple,wk_agg,Option.getD_none,Option.isSome_none]
   |some c=>
    have hcl:=fun H=>qR M hE hl hc (H:=H) (Nat.zero_le _)
    have hw:=fun H T L=>MM hW (g:=fO) (first:=[]) (cap:=[]) (args:=[.agg l.row,.str x.cls]) (v:=.tuple [.agg c.row,.bool true]) hcl H T L
    cases hq:decide (q<0) with
    |true=>
     have e1:slF l e q=none:=by simp [slF,e0,hc,slC,of_decide_eq_true hq]
     rw [e1]
     simp (maxSteps:=3000000) (maxDischargeDepth:=6) +contextual -implicitDefEqProofs only [amA M,amB,↓ae,↓aa,↓aj,↓ah,Nat.reduceBEq,Nat.reduceAdd,env,ao,fj,amG,AV.cell,Nat.reduceMul,Nat.reduceLeDiff,hr1,hr2,hq,hx,eE (Int.not_lt.1 hr0) hrl,Aq hW,hcl,hw,bp,dc,gW,ji,l5,o8,wk_tuple,wk_agg,Option.getD_none,Option.isSome_none]
    |false=>
     have hq0:¬ q<0:=of_decide_eq_false hq
     cases hq2:decide ((c.slots.l.length:Int)≤q) with
     |true=>
      have hql:c.slots.l.length≤q.toNat:=by have:=of_decide_eq_true hq2;omega
      have e1:slF l e q=none:=by simp [slF,e0,hc,slC,hq0,List.getElem?_eq_none hql]
      rw [e1]
      simp (maxSteps:=3000000) (maxDischargeDepth:=6) +contextual -implicitDefEqProofs only [amA M,amB,↓ae,↓aa,↓aj,↓ah,Nat.reduceBEq,Nat.reduceAdd,env,ao,fj,amG,AV.cell,Nat.reduceMul,Nat.reduceLeDiff,hr1,hr2,hq,hq2,hx,eE (Int.not_lt.1 hr0) hrl,Aq hW,hcl,hw,bp,dc,gW,ji,l5,o8,wk_tuple,wk_agg,Option.getD_none,Option.isSome_none]
     |false=>
      have hql:q.toNat<c.slots.l.length:=by have:=of_decide_eq_false hq2;omega
      have hs:c.slots.l[q.toNat]?=some c.slots.l[q.toNat]:=List.getElem?_eq_getElem hql
      have hcm:c∈l.classes.l:=List.mem_of_find?_eq_some hc
      have hsk:=((hl.classes.all c hcm).slots.all _ (List.getElem_mem hql)).mono (Nat.zero_le H.length)
      generalize c.slots.l[q.toNat]=s at hs hsk
      have e1:slF l e q=some s:=by simp [slF,e0,hc,slC,hq0,hs]
      rw [e1]
      simp (maxSteps:=3000000) (maxDischargeDepth:=6) +contextual -implicitDefEqProofs only [amA M,amB,↓ae,↓aa,↓aj,↓ah,Nat.reduceBEq,Nat.reduceAdd,env,ao,fj,amG,AV.cell,Nat.reduceMul,Nat.reduceLeDiff,hr1,hr2,hq,hq2,hx,hs,eE (Int.not_lt.1 hr0) hrl,eE (Int.not_lt.1 hq0) hql,Aq hW,hcl,hw,bp,dc,gW,eU,ji,l5,hsk.wk,wk_tuple,wk_agg,Option.getD_some,Option.isSome_some]
end
section
attribute [local congr] aS eF bZ aT bC bk aU aI aJ bm bn
variable{E:bP}(M:dV ei E)
theorem DW{l:Lex}(h:bK l=0):uQ l=0∧xM l=0∧zE l=0∧BQ l=0:=
 ⟨wP h 2 _ rfl,wP h 3 _ rfl,wP h 4 _ rfl,wP h 5 _ rfl⟩
structure Ii (l:Lex) (x:aQ) (c:aV):Prop where
 cls:yU l x.cls=some c
 lem:xL x.lem=true
 short:x.feats.l.length≤8∧vV x.feats.l=true
 clash:∀ s∈c.slots.l,lI x.feats.l s.feats.l=false
 forms:vu (LU c.slots.l.length x.forms.l) 0 x.forms.l=0
theorem kU{b:Bool}{x y:Int}(hx:x≠0)(h:sel b x y=0):b=false∧y=0:=by
 cases b with
 |true=>exact absurd h hx
 |false=>exact ⟨rfl,h⟩
theorem Kr{l:Lex}(h:bK l=0){k:Nat}{x:aQ}(hx:l.entries.l[k]?=some x):∃ c,Ii l x c:=by
 have h3:=(qS (DW h).2.1).2 k x hx
 unfold zC at h3
 cases hc:yU l x.cls with
 |none=>
  rw [hc] at h3
  exact absurd (kU (by decide) h3).2 (by decide)
 |some c=>
  rw [hc] at h3
  obtain ⟨a1,h3⟩:=kU (by decide) h3
  obtain ⟨_,h3⟩:=kU (by decide) h3
  cases hb:qd l x.feats.l == 0 with
  |false=>
   rw [hb] at h3
   rw [show qd l x.feats.l=0 from h3] at hb
   exact absurd hb (by decide)
  |true=>
   rw [hb] at h3
   obtain ⟨a2,h3⟩:=kU (b:=c.slots.l.any fun s=>lI x.feats.l s.feats.l) (by decide) h3
   exact ⟨c,hc,by simpa using a1,bundle_ok (eq_of_beq hb),by simpa using a2,h3⟩
theorem QD{l:Lex}(h:bK l=0){c:aV}(hc:c∈l.classes.l){s:bD}(hs:s∈c.slots.l):Du l s=0:=by
 obtain ⟨k,hk⟩:=List.getElem?_of_mem hc
 have h2:=(qS (DW h).1).2 k c hk
 unfold BP at h2
 have h3:=(kU (by decide) (kU (by decide) (kU (by decide) (kU (by decide) h2).2).2).2).2
 obtain ⟨j,hj⟩:=List.getElem?_of_mem hs
 exact (qS h3).2 j s hj
structure Vn (s:bD):Prop where
 cut:0≤s.cut∧s.cut≤24
 pre:s.pre.length≤6∧s.pre.all jt=true
 add:s.add.length≤6∧s.add.all jt=true
 feats:s.feats.l.length≤8∧vV s.feats.l=true
theorem UN{l:Lex}{s:bD}(h:Du l s=0):Vn s:=by
 unfold Du at h
 obtain ⟨h1,h2⟩:=kU (by decide) h
 simp only [Bool.or_eq_false_iff,decide_eq_false_iff_not,Bool.not_eq_false',rr,Bool.and_eq_true,decide_eq_true_eq] at h1
 refine ⟨⟨by omega,by omega⟩,⟨by omega, ?_⟩,⟨by omega, ?_⟩,bundle_ok h2⟩
 ·simp_all
 ·simp_all
structure At (l:Lex) (e q:Int) (x:aQ) (c:aV) (s:bD):Prop where
 e0:0≤e
 q0:0≤q
 el:e.toNat<l.entries.l.length
 ex:l.entries.l[e.toNat]?=some x
 ent:Ii l x c
 cm:c∈l.classes.l
 ql:q.toNat<c.slots.l.length
 sx:c.slots.l[q.toNat]?=some s
 sok:Vn s
theorem Ij{l:Lex}(h:bK l=0){e q:Int}{s:bD}(hs:slF l e q=some s):∃ x c,At l e q x c s:=by
 unfold slF at hs
 cases hx:uS l e with
 |none=>rw [hx] at hs;exact absurd hs (by simp)
 |some x=>
  rw [hx] at hs
  simp only at hs
  unfold uS at hx
  split at hx
  ·exact absurd hx (by simp)
  ·rename_i he
   obtain ⟨c,hc⟩:=Kr h hx
   rw [hc.cls] at hs
   simp only [slC] at hs
   split at hs
   ·exact absurd hs (by simp)
   ·rename_i hq
    have hcm:c∈l.classes.l:=List.mem_of_find?_eq_some hc.cls
    exact ⟨x,c,by omega,by omega,(List.getElem?_eq_some_iff.1 hx).1,hx,hc,hcm,(List.getElem?_eq_some_iff.1 hs).1,hs,UN (QD h hcm (List.mem_of_getElem? hs))⟩
theorem RH{T L:List Nat}{r:Option Out}(h:apart T L):uH ei T L r=r:=by
 unfold uH
 rw [MK h]
def EV:Lex:=⟨[],⟨.nil,[]⟩,⟨.nil,[]⟩,⟨.nil,[]⟩,⟨.nil,[]⟩,⟨.nil,[]⟩⟩
theorem Ma:EV.row=[AV.str [],.slice .nil 2 [],.slice .nil 2 [],.slice .nil 4 [],.slice .nil 4 [],.slice .nil 3 []]:=rfl
theorem PO(n k:Nat):Wk n (.slice .nil k []) (.slice .nil k []):=wk_slice trivial (bV n)
def HA(b:Bool)(l:Lex):Lex:=if b then l else EV
def nq(l:Lex)(e q:Int):Option bD:=if bK l=0 then slF l e q else none
def qG(l:Lex)(e q:Int):Int:=if bK l=0 then (if (slF l e q).isSome then 0 else 7) else bK l
def vY(l:Lex)(e q:Int):AV:=.tuple [.agg (HA (nq l e q).isSome l).row,.agg ((nq l e q).getD vX).row,.int .u8 (qG l e q)]
theorem HB(hN:bq E)(hW:WdE M)(hE:lH E)(hF:qV E){l:Lex}(hl:l.ok 0)(e q:Int)(H:List ag) :
  M.run rE [.agg l.row,.int .i64 e,.int .i64 q] H=some (.ret (vY l e q),H):=by
 rw [aK M hF.morph_asked rfl (c:=zo) rfl,zo]
 have hsl:=fun H=>Oy M hW hE hF hl e q H
 have hlw:WkL H.length l.row l.row:=(hl.mono (Nat.zero_le _)).wk
 cases hk:bK l == 0 with
 |false=>
  have hk1:bK l≠0:=by simpa using hk
  have e1:vY l e q = .tuple [.agg EV.row,.agg vX.row,.int .u8 (bK l)]:=by simp [vY,nq,qG,hk1,HA]
  rw [e1]
  simp (maxSteps:=3000000) (maxDischargeDepth:=6) +contextual -implicitDefEqProofs only [amA M,amB,↓ae,↓aa,↓aj,↓ah,Nat.reduceBEq,Nat.reduceAdd,env,ao,zp,amG,AV.cell,Nat.reduceMul,Nat.reduceLeDiff,uR M hN hE hl,Nat.zero_le,hk,bp,Ma,ji,PO,wk_tuple,wk_agg]
 |true=>
  have hk1:bK l=0:=eq_of_beq hk
  cases hs:slF l e q with
  |none=>
   have e1:vY l e q = .tuple [.agg EV.row,.agg vX.row,.int .u8 7]:=by simp [vY,nq,qG,hk1,hs,HA]
   rw [e1]
   simp only [hs,Option.getD_none,Option.isSome_none] at hsl
   simp (maxSteps:=3000000) (maxDischargeDepth:=6) +contextual -implicitDefEqProofs only [amA M,amB,↓ae,↓aa,↓aj,↓ah,Nat.reduceBEq,Nat.reduceAdd,env,ao,zp,amG,AV.cell,Nat.reduceMul,Nat.reduceLeDiff,uR M hN hE hl,Nat.zero_le,hsl,hk,bp,Ma,ji,PO,wk_tuple,wk_agg]
  |some s=>
   have e1:vY l e q = .tuple [.agg l.row,.agg s.row,.int .u8 0]:=by simp [vY,nq,qG,hk1,hs,HA]
   rw [e1]
   simp only [hs,Option.getD_some,Option.isSome_some] at hsl
   obtain ⟨x,c,hA⟩:=Ij hk1 hs
   have hsw:WkL H.length s.row s.row:=(((hl.classes.all c hA.cm).slots.all s (List.mem_of_getElem? hA.sx)).mono (Nat.zero_le _)).wk
   have hap:∀ r,uH ei [H.length+2,H.length+1] [H.length+4,H.length+3] r=r:=fun r=>RH (by intro x h1 h2;simp at h1 h2;omega)
   simp (maxSteps:=3000000) (maxDischargeDepth:=6) +contextual -implicitDefEqProofs only [amA M,amB,↓ae,↓aa,↓aj,↓ah,Nat.reduceBEq,Nat.reduceAdd,env,ao,zp,amG,AV.cell,Nat.reduceMul,Nat.reduceLeDiff,uR M hN hE hl,Nat.zero_le,hsl,hk,amW,hap,bp,eU,hlw,hsw,wk_tuple,wk_agg]
end
section
attribute [local congr] aS eF bZ aT bC bk aU aI aJ bm bn
variable{E:bP}(M:dV ei E)
theorem b70:((7:Int) == 0)=false:=rfl
theorem b00:((0:Int) == 0)=true:=rfl
def PP(x:aQ)(s:bD):List aw:=(vW x.feats.l s.feats.l).getD []
theorem At.clash{l:Lex}{e q:Int}{x:aQ}{c:aV}{s:bD}(h:At l e q x c s):lI x.feats.l s.feats.l=false:=h.ent.clash s (List.mem_of_getElem? h.sx)
theorem At.uni{l:Lex}{e q:Int}{x:aQ}{c:aV}{s:bD}(h:At l e q x c s):vW x.feats.l s.feats.l=some (PP x s):=by
 have:=Ig h.ent.short.2 h.sok.feats.2
 rw [h.clash] at this
 unfold PP
 cases hu:vW x.feats.l s.feats.l with
 |none=>rw [hu] at this;simp at this
 |some r=>rfl
theorem At.comp{srt:List aw→List aw}(hs:Srt srt){l:Lex}{e q:Int}{x:aQ}{c:aV}{s:bD}(h:At l e q x c s):yX (srt (x.feats.l++s.feats.l))=PP x s:=by
 have h1:=Tj hs x.feats.l s.feats.l
 rw [h.uni,PM,h.ent.short.2,h.sok.feats.2,h.clash] at h1
 exact Option.some.inj h1
theorem At.sl{l:Lex}{e q:Int}{x:aQ}{c:aV}{s:bD}(hk:bK l=0)(h:At l e q x c s):slF l e q=some s:=by
 have h0:¬ e<0:=by have:=h.e0;omega
 have h1:¬ q<0:=by have:=h.q0;omega
 simp only [slF,uS,h0,if_false,h.ex,h.ent.cls,slC,h1,h.sx]
theorem PQ(hU:Hy E){srt:List aw→List aw}(hS:Ow M srt)(hs:Srt srt)(hF:qV E){l:Lex}{e q:Int}{x:aQ}{c:aV}{s:bD}(hA:At l e q x c s)(H:List ag) :
  M.run nH [.agg l.row,.int .i64 e,.agg s.row] H=some (.ret (.slice .any 2 ((PP x s).map aw.row)),H):=by
 rw [aK M hF.morph_language_feats rfl (c:=nS) rfl,nS]
 have hu:=fun H=>RG M hU hS (a:=x.feats) (b:=s.feats) (by have:=hA.ent.short.1;have:=hA.sok.feats.1;omega) H
 rw [hA.comp hs] at hu
 simp (maxSteps:=3000000) (maxDischargeDepth:=6) +contextual -implicitDefEqProofs only [amA M,amB,↓ae,↓aa,↓aj,↓ah,Nat.reduceBEq,Nat.reduceAdd,env,ao,BA,hu,hA.ex,eE hA.e0 hA.el,bp,dc,eU,I1,implies_true]
def BV(l:Lex)(e q:Int):List aw:=
 match nq l e q,uS l e with
 |some s,some x=>PP x s
 |_,_=>[]
def sA(l:Lex)(e q:Int):AV:=.tuple [.slice .any 2 ((BV l e q).map aw.row),.int .u8 (qG l e q)]
theorem At.ent'{l:Lex}{e q:Int}{x:aQ}{c:aV}{s:bD}(h:At l e q x c s):uS l e=some x:=by
 have h0:¬ e<0:=by have:=h.e0;omega
 simp only [uS,h0,if_false,h.ex]
theorem RI(hN:bq E)(hW:WdE M)(hE:lH E)(hF:qV E)(hU:Hy E){srt:List aw→List aw}(hS:Ow M srt)(hs:Srt srt){l:Lex}(hl:l.ok 0)(e q:Int)(H:List ag) :
  M.run y7 [.agg l.row,.int .i64 e,.int .i64 q] H=some (.ret (sA l e q),H):=by
 rw [aK M hF.morph_Feats rfl (c:=zh) rfl,zh]
 have ha:=fun H=>HB M hN hW hE hF hl e q H
 by_cases hk:bK l=0
 ·cases hsl:slF l e q with
  |none=>
   have e1:vY l e q = .tuple [.agg EV.row,.agg vX.row,.int .u8 7]:=by simp [vY,nq,qG,hk,hsl,HA]
   have e2:sA l e q = .tuple [.slice .any 2 [],.int .u8 7]:=by simp [sA,BV,nq,qG,hk,hsl]
   rw [e1] at ha;rw [e2]
   simp (maxSteps:=3000000) (maxDischargeDepth:=6) +contextual -implicitDefEqProofs only [amA M,amB,↓ae,↓aa,↓aj,↓ah,Nat.reduceBEq,Nat.reduceAdd,env,ao,zi,amG,AV.cell,Nat.reduceMul,Nat.reduceLeDiff,ha,b70,bp,eU,bV,wk_tuple]
  |some s=>
   obtain ⟨x,c,hA⟩:=Ij hk hsl
   have e1:vY l e q = .tuple [.agg l.row,.agg s.row,.int .u8 0]:=by simp [vY,nq,qG,hk,hsl,HA]
   have e2:sA l e q = .tuple [.slice .any 2 ((PP x s).map aw.row),.int .u8 0]:=by simp [sA,BV,nq,qG,hk,hsl,hA.ent']
   rw [e1] at ha;rw [e2]
   simp (maxSteps:=3000000) (maxDischargeDepth:=6) +contextual -implicitDefEqProofs only [amA M,amB,↓ae,↓aa,↓aj,↓ah,Nat.reduceBEq,Nat.reduceAdd,env,ao,zi,amG,AV.cell,Nat.reduceMul,Nat.reduceLeDiff,ha,PQ M hU hS hs hF hA,bp,eU,I1,implies_true,b70,b00,wk_tuple]
 ·have e0:(bK l == 0)=false:=by simpa using hk
  have e1:vY l e q = .tuple [.agg EV.row,.agg vX.row,.int .u8 (bK l)]:=by simp [vY,nq,qG,hk,HA]
  have e2:sA l e q = .tuple [.slice .any 2 [],.int .u8 (bK l)]:=by simp [sA,BV,nq,qG,hk]
  rw [e1] at ha;rw [e2]
  simp (maxSteps:=3000000) (maxDischargeDepth:=6) +contextual -implicitDefEqProofs only [amA M,amB,↓ae,↓aa,↓aj,↓ah,Nat.reduceBEq,Nat.reduceAdd,env,ao,zi,amG,AV.cell,Nat.reduceMul,Nat.reduceLeDiff,ha,e0,bp,eU,bV,wk_tuple]
theorem A7(hR:sZ E)(hF:qV E){l:Lex}(hl:l.ok 0)(hk:bK l=0)(e q:Int)(H:List ag) :
  M.run jB [.agg l.row,.int .i64 e,.int .i64 q] H=some (.ret (.tuple [.agg ((slF l e q).getD vX).row,.bool (slF l e q).isSome]),H):=by
 rw [aK M hF.truchmanref02_slot rfl (c:=qy) rfl,qy]
 cases hr1:decide (e<0) with
 |true=>
  have e1:slF l e q=none:=by simp [slF,uS,of_decide_eq_true hr1]
  rw [e1]
  simp (maxSteps:=3000000) (maxDischargeDepth:=6) +contextual -implicitDefEqProofs only [amA M,amB,↓ae,↓aa,↓aj,↓ah,Nat.reduceBEq,Nat.reduceAdd,env,ao,jG,amG,AV.cell,Nat.reduceMul,Nat.reduceLeDiff,hr1,bp,ji,o8,wk_tuple,wk_agg,Option.getD_none,Option.isSome_none]
 |false=>
  have hr0:¬ e<0:=of_decide_eq_false hr1
  cases hr2:decide ((l.entries.l.length:Int)≤e) with
  |true=>
   have hrl:l.entries.l.length≤e.toNat:=by have:=of_decide_eq_true hr2;omega
   have e1:slF l e q=none:=by simp [slF,uS,hr0,List.getElem?_eq_none hrl]
   rw [e1]
   simp (maxSteps:=3000000) (maxDischargeDepth:=6) +contextual -implicitDefEqProofs only [amA M,amB,↓ae,↓aa,↓aj,↓ah,Nat.reduceBEq,Nat.reduceAdd,env,ao,jG,amG,AV.cell,Nat.reduceMul,Nat.reduceLeDiff,hr1,hr2,bp,ji,o8,wk_tuple,wk_agg,Option.getD_none,Option.isSome_none]
  |false=>
   have hrl:e.toNat<l.entries.l.length:=by have:=of_decide_eq_false hr2;omega
   have hx:l.entries.l[e.toNat]?=some l.entries.l[e.toNat]:=List.getElem?_eq_getElem hrl
   generalize l.entries.l[e.toNat]=x at hx
   have e0:uS l e=some x:=by simp [uS,hr0,hx]
   obtain ⟨c,hE⟩:=Kr hk hx
   have hcl:=fun H=>xN M hR hl x.cls H
   rcases oD (fun c:aV=>c.name == x.cls) l.classes.l 0 with ⟨h1,h2⟩ | ⟨j,c',h1,h2,h3⟩
   ·exact absurd (hE.cls.symm.trans h2) (by simp)
   obtain rfl:c=c':=Option.some.inj (hE.cls.symm.trans h3)
   rw [h1,Nat.zero_add] at hcl
   have hj:j<l.classes.l.length:=(List.getElem?_eq_some_iff.1 h2).1
   cases hq:decide (q<0) with
   |true=>
    have e1:slF l e q=none:=by simp [slF,e0,hE.cls,slC,of_decide_eq_true hq]
    rw [e1]
    simp (maxSteps:=3000000) (maxDischargeDepth:=6) +contextual -implicitDefEqProofs only [amA M,amB,↓ae,↓aa,↓aj,↓ah,Nat.reduceBEq,Nat.reduceAdd,env,ao,jG,amG,AV.cell,Nat.reduceMul,Nat.reduceLeDiff,hr1,hr2,hq,hx,h2,eE (Int.not_lt.1 hr0) hrl,aC hj,hcl,bp,dc,gW,ji,o8,wk_tuple,wk_agg,Option.getD_none,Option.isSome_none]
   |false=>
    have hq0:¬ q<0:=of_decide_eq_false hq
    cases hq2:decide ((c.slots.l.length:Int)≤q) with
    |true=>
     have hql:c.slots.l.length≤q.toNat:=by have:=of_decide_eq_true hq2;omega
     have e1:slF l e q=none:=by simp [slF,e0,hE.cls,slC,hq0,List.getElem?_eq_none hql]
     rw [e1]
     simp (maxSteps:=3000000) (maxDischargeDepth:=6) +contextual -implicitDefEqProofs only [amA M,amB,↓ae,↓aa,↓aj,↓ah,Nat.reduceBEq,Nat.reduceAdd,env,ao,jG,amG,AV.cell,Nat.reduceMul,Nat.reduceLeDiff,hr1,hr2,hq,hq2,hx,h2,eE (Int.not_lt.1 hr0) hrl,aC hj,hcl,bp,dc,gW,ji,o8,wk_tuple,wk_agg,Option.getD_none,Option.isSome_none]
    |false=>
     have hql:q.toNat<c.slots.l.length:=by have:=of_decide_eq_false hq2;omega
     have hs:c.slots.l[q.toNat]?=some c.slots.l[q.toNat]:=List.getElem?_eq_getElem hql
     have hcm:c∈l.classes.l:=List.mem_of_find?_eq_some hE.cls
     have hsk:=((hl.classes.all c hcm).slots.all _ (List.getElem_mem hql)).mono (Nat.zero_le H.length)
     generalize c.slots.l[q.toNat]=s at hs hsk
     have e1:slF l e q=some s:=by simp [slF,e0,hE.cls,slC,hq0,hs]
     rw [e1]
     simp (maxSteps:=3000000) (maxDischargeDepth:=6) +contextual -implicitDefEqProofs only [amA M,amB,↓ae,↓aa,↓aj,↓ah,Nat.reduceBEq,Nat.reduceAdd,env,ao,jG,amG,AV.cell,Nat.reduceMul,Nat.reduceLeDiff,hr1,hr2,hq,hq2,hx,hs,h2,eE (Int.not_lt.1 hr0) hrl,eE (Int.not_lt.1 hq0) hql,aC hj,hcl,bp,dc,gW,eU,ji,hsk.wk,wk_tuple,wk_agg,Option.getD_some,Option.isSome_some]
theorem PR(hN:bq E)(hR:sZ E)(hF:qV E){l:Lex}(hl:l.ok 0)(e q:Int)(H:List ag) :
  M.run pd [.agg l.row,.int .i64 e,.int .i64 q] H=some (.ret (sA l e q),H):=by
 rw [aK M hF.truchmanref02_Feats rfl (c:=pr) rfl,pr]
 by_cases hk:bK l=0
 ·have e0:(bK l == 0)=true:=by simpa using hk
  have ha:=fun H=>A7 M hR hF hl hk e q H
  cases hsl:slF l e q with
  |none=>
   have e2:sA l e q = .tuple [.slice .any 2 [],.int .u8 7]:=by simp [sA,BV,nq,qG,hk,hsl]
   simp only [hsl,Option.getD_none,Option.isSome_none] at ha
   rw [e2]
   simp (maxSteps:=3000000) (maxDischargeDepth:=6) +contextual -implicitDefEqProofs only [amA M,amB,↓ae,↓aa,↓aj,↓ah,Nat.reduceBEq,Nat.reduceAdd,env,ao,pw,amG,AV.cell,Nat.reduceMul,Nat.reduceLeDiff,ha,gX M hN hR hl,Nat.zero_le,e0,bp,eU,bV,wk_tuple]
  |some s=>
   obtain ⟨x,c,hA⟩:=Ij hk hsl
   simp only [hsl,Option.getD_some,Option.isSome_some] at ha
   have hu:=fun H=>J8 M hR (a:=x.feats) (b:=s.feats) (by have:=hA.ent.short.1;have:=hA.sok.feats.1;omega) H
   simp only [hA.uni,SZ] at hu
   have e2:sA l e q = .tuple [.slice .any 2 ((PP x s).map aw.row),.int .u8 0]:=by simp [sA,BV,nq,qG,hk,hsl,hA.ent']
   rw [e2]
   simp (maxSteps:=3000000) (maxDischargeDepth:=6) +contextual -implicitDefEqProofs only [amA M,amB,↓ae,↓aa,↓aj,↓ah,Nat.reduceBEq,Nat.reduceAdd,env,ao,pw,amG,AV.cell,Nat.reduceMul,Nat.reduceLeDiff,ha,gX M hN hR hl,Nat.zero_le,hu,hA.ex,eE hA.e0 hA.el,e0,bp,dc,eU,I1,implies_true,b70,b00,wk_tuple]
 ·have e0:(bK l == 0)=false:=by simpa using hk
  have e2:sA l e q = .tuple [.slice .any 2 [],.int .u8 (bK l)]:=by simp [sA,BV,nq,qG,hk]
  rw [e2]
  simp (maxSteps:=3000000) (maxDischargeDepth:=6) +contextual -implicitDefEqProofs only [amA M,amB,↓ae,↓aa,↓aj,↓ah,Nat.reduceBEq,Nat.reduceAdd,env,ao,pw,amG,AV.cell,Nat.reduceMul,Nat.reduceLeDiff,gX M hN hR hl,Nat.zero_le,e0,bp,eU,bV,wk_tuple]
end
section
attribute [local congr] aS eF bZ aT bC bk aU aI aJ bm bn
variable{E:bP}(M:dV ei E)
def GI(s:bD)(a:Str):Str:=sel (s.pre == []) a ((s.pre++[43])++a)
def zG(s:bD)(b:Str):Str:=sel (s.add == []) b (b++([43]++s.add))
def K9(lem:Str)(s:bD):Str:=zG s (GI s (lem.take (lem.length-s.cut.toNat)))
def IQ(lem:Str)(s:bD):Option Str:=sel (decide ((lem.length:Int)<s.cut)) none (some (K9 lem s))
def PS(o:Option Str):AV:=.tuple [.str (o.getD []),.bool o.isSome]
theorem DX{s:Str}(h:xL s=true):s.length≤24:=by
 simp only [xL,LI,Bool.and_eq_true,decide_eq_true_eq] at h
 omega
theorem Ks(s:bD)(a:Str)(h:s.pre.length≤6):(GI s a).length≤a.length+7:=by
 unfold GI;cases s.pre == []<;>simp [sel]<;>omega
theorem To(s:bD)(a:Str)(h:s.add.length≤6):(zG s a).length≤a.length+7:=by
 unfold zG;cases s.add == []<;>simp [sel];omega
theorem Ku{lem:Str}{s:bD}(h:lem.length≤24)(hs:Vn s):(K9 lem s).length≤38:=by
 have h1:=To s (GI s (lem.take (lem.length-s.cut.toNat))) hs.add.1
 have h2:=Ks s (lem.take (lem.length-s.cut.toNat)) hs.pre.1
 unfold K9
 simp at h2
 omega
theorem run_underlying(hF:qV E){l:Lex}{e q:Int}{x:aQ}{c:aV}{s:bD}(hA:At l e q x c s)(H:List ag) :
  M.run kn [.agg l.row,.int .i64 e,.agg s.row] H=some (.ret (PS (IQ x.lem s)),H):=by
 rw [aK M hF.morph_language_underlying rfl (c:=kB) rfl,kB]
 have hl:=DX hA.ent.lem
 have hp:=hA.sok.pre.1
 have ha:=hA.sok.add.1
 cases hd:decide ((x.lem.length:Int)<s.cut) with
 |true=>
  have e1:PS (IQ x.lem s) = .tuple [.str [],.bool false]:=by simp [PS,IQ,hd,sel]
  rw [e1]
  simp (maxSteps:=3000000) (maxDischargeDepth:=6) +contextual -implicitDefEqProofs only [amA M,amB,↓ae,↓aa,↓aj,↓ah,Nat.reduceBEq,Nat.reduceAdd,env,ao,fu,amG,AV.cell,Nat.reduceMul,Nat.reduceLeDiff,hd,hA.ex,eE hA.e0 hA.el,bp,dc,eU,wk_tuple]
 |false=>
  obtain ⟨m,hm⟩:=Int.eq_ofNat_of_zero_le hA.sok.cut.1
  have hml:m≤x.lem.length:=by have:=of_decide_eq_false hd;omega
  have hw:IntKind.i64.wrap ((x.lem.length:Int)-(m:Int))=((x.lem.length-m:Nat):Int):=by rw [dx (by omega) (by omega)];omega
  have hsl:=PD (s:=x.lem) (k:=.i64) (i:=x.lem.length-m) (by omega)
  have e1:PS (IQ x.lem s) = .tuple [.str (K9 x.lem s),.bool true]:=by simp [PS,IQ,hd,sel]
  have e2:K9 x.lem s=zG s (GI s (x.lem.take (x.lem.length-m))):=by rw [K9,hm];rfl
  have hal:(x.lem.take (x.lem.length-m)).length≤24:=by simp;omega
  rw [e1,e2]
  generalize x.lem.take (x.lem.length-m)=a at hsl hal
  rw [hm] at hd
  have hdn:decide (x.lem.length<m)=false:=decide_eq_false (by omega)
  have hbl:=Ks s a hp
  cases hp0:s.pre == [] with
  |true=>
   have e3:GI s a=a:=by simp [GI,hp0,sel]
   rw [e3] at hbl ⊢
   cases ha0:s.add == [] with
   |true=>
    have e4:zG s a=a:=by simp [zG,ha0,sel]
    rw [e4]
    simp (maxSteps:=3000000) (maxDischargeDepth:=6) +contextual -implicitDefEqProofs only [amA M,amB,↓ae,↓aa,↓aj,↓ah,Nat.reduceBEq,Nat.reduceAdd,env,ao,fu,amG,AV.cell,Nat.reduceMul,Nat.reduceLeDiff,hd,hdn,hm,hw,hsl,hp0,ha0,hA.ex,eE hA.e0 hA.el,bp,dc,eU,wk_tuple]
   |false=>
    have e4:zG s a=a++([43]++s.add):=by simp [zG,ha0,sel]
    rw [e4]
    simp (maxSteps:=3000000) (maxDischargeDepth:=6) +contextual -implicitDefEqProofs only [amA M,amB,↓ae,↓aa,↓aj,↓ah,Nat.reduceBEq,Nat.reduceAdd,env,ao,fu,amG,AV.cell,Nat.reduceMul,Nat.reduceLeDiff,hd,hdn,hm,hw,hsl,hp0,ha0,kE (s:=[43]) (t:=s.add) (by simp;omega),kE (s:=a) (t:=43::s.add) (by simp;omega),hA.ex,eE hA.e0 hA.el,bp,dc,eU,wk_tuple]
  |false=>
   have e3:GI s a=(s.pre++[43])++a:=by simp [GI,hp0,sel]
   rw [e3] at hbl ⊢
   cases ha0:s.add == [] with
   |true=>
    have e4:zG s ((s.pre++[43])++a)=(s.pre++[43])++a:=by simp [zG,ha0,sel]
    rw [e4]
    simp (maxSteps:=3000000) (maxDischargeDepth:=6) +contextual -implicitDefEqProofs only [amA M,amB,↓ae,↓aa,↓aj,↓ah,Nat.reduceBEq,Nat.reduceAdd,env,ao,fu,amG,AV.cell,Nat.reduceMul,Nat.reduceLeDiff,hd,hdn,hm,hw,hsl,hp0,ha0,kE (s:=s.pre) (t:=[43]) (by simp;omega),kE (s:=s.pre++[43]) (t:=a) (by simp;omega),hA.ex,eE hA.e0 hA.el,bp,dc,eU,wk_tuple]
   |false=>
    have e4:zG s ((s.pre++[43])++a)=((s.pre++[43])++a)++([43]++s.add):=by simp [zG,ha0,sel]
    rw [e4]
    simp (maxSteps:=3000000) (maxDischargeDepth:=6) +contextual -implicitDefEqProofs only [amA M,amB,↓ae,↓aa,↓aj,↓ah,Nat.reduceBEq,Nat.reduceAdd,env,ao,fu,amG,AV.cell,Nat.reduceMul,Nat.reduceLeDiff,hd,hdn,hm,hw,hsl,hp0,ha0,kE (s:=s.pre) (t:=[43]) (by simp;omega),kE (s:=s.pre++[43]) (t:=a) (by simp;omega),kE (s:=[43]) (t:=s.add) (by simp;omega),kE (s:=s.pre++[43]++a) (t:=43::s.add) (by simp at hbl ⊢;omega),hA.ex,eE hA.e0 hA.el,bp,dc,eU,wk_tuple]
def vx(v:Str):List Str→Str→List br→Option (List Str)
 |o,_,[]=>some o
 |o,u,x::l=>sel (decide (((uC v x u).length:Int)≤512)) (vx v (o++[uC v x u]) (uC v x u) l) none
def noS:AV:=.tuple [.slice .any 1 [],.bool false]
def xQ(o:Option (List Str)):AV:=.tuple [.slice .any 1 ((o.getD []).map dR),.bool o.isSome]
theorem Ur{H0:List ag}(n m:Nat)(T:TypeId)(L:List ag):bU (H0++[.tok n T]) (H0++(.tok m T::L)):=⟨by simp,fun i x hi hx=>by
 rw [List.length_append] at hi
 by_cases h:i<H0.length
 ·rw [List.getElem?_append_left h] at hx ⊢;exact .inl hx
 ·obtain rfl:i=H0.length:=by simp at hi;omega
  rw [cS] at hx
  obtain rfl:=Option.some.inj hx
  exact .inr trivial⟩
theorem Tp(H0:List ag)(o:ag)(L:List ag):(H0++(o::L)).take (H0.length+1)=H0++[o]:=by
 rw [show H0++(o::L)=(H0++[o])++L by simp,show H0.length+1=(H0++[o]).length by simp,List.take_left]
theorem MX(n:Nat)(l:List Str):qk n (l.map dR):=by
 rw [rowsWk_map];exact fun _ _=>⟨wk_str _ _,trivial⟩
theorem HC(n:Nat)(s:Str):WkL n (dR s) (dR s):=⟨wk_str _ _,trivial⟩
def La(M:dV ei E)(fn:AFn)(d:Nat)(H0:List ag)(k:List Fra)(r:Option (List Str))(H:List ag):Option Out:=
 match r with
 |none=>some (.ret noS,H.take H0.length)
 |some r=>M.go fn H0 k (kv [(d,.slice (.own H.length) 1 (r.map dR))]) (H++[.tok (r.length*1) bb])
theorem QE{α:Type}{row:α→List AV}{l:List α}{x:α}{r:List AV}{sz bytes:Nat}{e:TypeId}(H L:List ag)(h1:r.length=sz)(h2:r.all AV.cell=true)(h3:r.map AV.strip=row x)
  (hl:(l.length+1)*bytes≤140737488355328) (hl2:l.length+1≤4611686018427387904) :
  rap false (H++(.tok (l.length*sz) e::L)) e sz bytes false (.slice (.own H.length) sz (l.map row)) (.slice .full sz [r])=some (.slice (.own H.length) sz ((l++[x]).map row),H++(.tok ((l++[x]).length*sz) e::L)):=by
 have hr:(r.length=sz∧∀ x∈r,x.cell=true):=⟨h1,by simpa using h2⟩
 simp only [rap,FZ,E2,List.length_map,List.length_cons,List.length_nil,Nat.zero_add,or_true,if_true,hl,hl2,JI h1 h2,and_true,true_and,cS,List.getElem?_cons_zero,hp_set0,List.set_cons_zero,List.map_cons,List.map_nil,h3,List.map_append,List.length_append,Nat.add_mul,Nat.one_mul]
 rw [Nat.add_mul,Nat.one_mul] at hl
 rw [if_pos hl]
theorem stl(hN:bq E)(hS:SpE E)(hX:sy M)(hB:s4 E){l:Lex}(hl:l.ok 0)(hV:Om l){H H0:List ag}(hc:bU H0 H){p:Nat}{T:TypeId}(hp:H[p]?=some (.cells l.row T))(k:List Fra) :
  ∀ (n i:Nat) (o:List Str) (u:Str) (He:List ag),He=H++[.tok (o.length*1) bb]→i+n=l.spells.l.length→u.length≤1000→o.length+n≤1000 →
  M.go de H0 (.c fb :: .lp ⟨(some [3,8,10,26,27,28]),[(10,1,bb)],true⟩ fb He :: .blk 0 :: .c (.lv [10])::k) (kv [(3,.ptr p 0),(8,.str u),(10,.slice (.own H.length) 1 (o.map dR)),(26,.slice l.spells.tag 4 (l.spells.l.map br.row)),(27,.int .i64 l.spells.l.length),(28,.int .i64 i)]) (H++[.tok (o.length*1) bb]) =
   La M de 10 H0 k (vx l.vowels o u (l.spells.l.drop i)) H
 |0,i,o,u,He,hHe,h,hu,ho=>by
  have e:i=l.spells.l.length:=by omega
  subst e
  rw [List.drop_length,vx,La]
  rw [aq M fb.eq_1]
  simp (maxSteps:=3000000) (maxDischargeDepth:=6) +contextual -implicitDefEqProofs only [amA M,amB,↓ae,↓aa,↓aj,↓ah,Nat.reduceBEq,Nat.reduceAdd,env,ao,fT,Nat.lt_irrefl]
 |n+1,i,o,u,He,hHe,h,hu,ho=>by
  subst hHe
  have hi:i<l.spells.l.length:=by omega
  have hx:l.spells.l[i]?=some l.spells.l[i]:=List.getElem?_eq_getElem hi
  have hd:(l.spells.l.drop i)=l.spells.l[i]::l.spells.l.drop (i+1):=List.drop_eq_getElem_cons hi
  have hm:l.spells.l[i]∈l.spells.l:=List.getElem_mem hi
  obtain ⟨p1,p2,p3,p4,p5⟩:=On (hV.spells _ hm)
  have hx0:=hl.spells.all _ hm
  have hsp:=fun H=>RB M hN hS hX hB (l:=l) hx0 p1 p2 p3 p4 (s:=u) (by omega) H
  have hp':=fun L=>cC (L:=L) hp
  have hpl:=(List.getElem?_eq_some_iff.1 hp).1
  have w1:Wk (H.length+1) (.ptr p 0) (.ptr p 0):=wk_ptr (by omega)
  have w2:Wk (H.length+1) (.slice l.spells.tag 4 (l.spells.l.map br.row)) (.slice l.spells.tag 4 (l.spells.l.map br.row)):=(hl.spells.mono (Nat.zero_le _) (fun _ h=>h.mono (Nat.zero_le _))).wk (fun _ h=>h.wk)
  have w3:=fun l:List Str=>wk_slice (n:=H.length+1) (esz:=1) (tag:=.own H.length) (by simp [LB]) (MX _ l)
  have hcm:=fun L=>tj hc L
  have htm:=fun L=>G3 hc L
  rw [hd,vx]
  generalize l.spells.l[i]=x at hx hsp
  generalize uC l.vowels x u=u' at hsp
  cases hdl:decide ((u'.length:Int)≤512) with
  |false=>
   simp only [sel,La]
   simp only [hdl] at hsp
   rw [aq M fb.eq_1]
   simp (maxSteps:=3000000) (maxDischargeDepth:=6) +contextual -implicitDefEqProofs only [amA M,amB,↓ae,↓aa,↓aj,↓ah,Nat.reduceBEq,Nat.reduceAdd,env,ao,fT,amG,AV.cell,Nat.reduceMul,Nat.reduceLeDiff,hx,hi,hsp,hp',aC hi,bp,l9,hcm,htm,noS,bV,wk_tuple]
  |true=>
   simp only [hdl] at hsp
   have hul:u'.length≤1000:=by have:=of_decide_eq_true hdl;omega
   have ap:=fun L=>QE (row:=dR) (l:=o) (x:=u') (r:=[.str u']) (sz:=1) (bytes:=16) (e:=bb) H L rfl rfl rfl (by omega) (by omega)
   have ih:=stl hN hS hX hB hl hV hc hp k n (i+1) (o++[u']) u' _ rfl (by omega) hul (by simp;omega)
   simp only [kv_cons,kv_nil] at ih
   simp only [sel]
   rw [aq M fb.eq_1]
   simp (maxSteps:=3000000) (maxDischargeDepth:=6) +contextual -implicitDefEqProofs only [amA M,amB,↓ae,↓aa,↓aj,↓ah,Nat.reduceBEq,Nat.reduceAdd,env,ao,fT,amG,AV.cell,Nat.reduceMul,Nat.reduceLeDiff,hx,hi,hsp,hp',ap,ih,w1,w2,w3,Ur,Tp,bt hi hl.spells.len,aC hi,bp,l9]
def mw(l:Lex)(x:aQ)(s:bD):Option (List Str):=
 match IQ x.lem s with
 |none=>none
 |some u=>vx l.vowels [u] u l.spells.l
theorem Mb(hN:bq E)(hS:SpE E)(hX:sy M)(hB:s4 E)(hF:qV E){l:Lex}(hl:l.ok 0)(hV:Om l){e q:Int}{x:aQ}{c:aV}{s:bD}(hA:At l e q x c s)(hsl:l.spells.l.length≤900)(H:List ag) :
  M.run km [.agg l.row,.int .i64 e,.agg s.row] H=some (.ret (xQ (mw l x s)),H):=by
 rw [aK M hF.morph_language_steps rfl (c:=nT) rfl,nT]
 have hu:=fun H=>run_underlying M hF hA H
 cases ho:IQ x.lem s with
 |none=>
  have e1:xQ (mw l x s)=noS:=by simp [xQ,mw,ho,noS]
  rw [e1]
  simp only [ho,PS,Option.getD_none,Option.isSome_none] at hu
  simp (maxSteps:=3000000) (maxDischargeDepth:=6) +contextual -implicitDefEqProofs only [amA M,amB,↓ae,↓aa,↓aj,↓ah,Nat.reduceBEq,Nat.reduceAdd,env,ao,fT,amG,AV.cell,Nat.reduceMul,Nat.reduceLeDiff,hu,bp,eU,noS,bV,wk_tuple]
 |some u=>
  have e1:mw l x s=vx l.vowels [u] u l.spells.l:=by simp [mw,ho]
  have hul:u.length≤1000:=by
   have:=Ku (DX hA.ent.lem) hA.sok
   unfold IQ at ho
   revert ho
   cases decide ((x.lem.length:Int)<s.cut) with
   |true=>simp [sel]
   |false=>intro ho;rw [← Option.some.inj ho];omega
  rw [e1]
  simp only [ho,PS,Option.getD_some,Option.isSome_some] at hu
  have h1:=fun k=>stl M hN hS hX hB hl hV (H:=H++[.cells l.row aM,.cells s.row cj]) (H0:=H) (cut_app H _) (p:=H.length) (T:=aM) (by rw [cS];rfl) k l.spells.l.length 0 [u] u _ rfl (by omega) hul (by simp;omega)
  simp only [kv_cons,kv_nil,Int.ofNat_zero,List.drop_zero,List.length_append,List.length_cons,List.length_nil,Nat.zero_add,Nat.reduceAdd,List.append_assoc,List.cons_append,List.nil_append,List.map_cons,List.map_nil,dR] at h1
  simp (maxSteps:=3000000) (maxDischargeDepth:=6) +contextual -implicitDefEqProofs only [amA M,amB,↓ae,↓aa,↓aj,↓ah,Nat.reduceBEq,Nat.reduceAdd,env,ao,fT,amG,AV.cell,Nat.reduceMul,Nat.reduceLeDiff,hu,h1,bp,eU,wk_tuple,dR]
  generalize vx l.vowels [u] u l.spells.l=r
  cases r with
  |none=>simp only [La,hp_take];rfl
  |some r=>
   simp only [La,kv_cons,kv_nil]
   simp (maxSteps:=3000000) (maxDischargeDepth:=6) +contextual -implicitDefEqProofs only [amA M,amB,↓ae,↓aa,↓aj,↓ah,Nat.reduceBEq,Nat.reduceAdd,env,ao,fT,MX,HC,cut_app,implies_true,wk_tuple]
   rfl
def ng(l:Lex)(e q:Int):AV:=
 match nq l e q,uS l e with
 |some s,some x=>match mw l x s with
  |some r=>.tuple [.slice .any 1 (r.map dR),.int .u8 0]
  |none=>.tuple [.slice .any 1 [],.int .u8 7]
 |_,_=>.tuple [.slice .any 1 [],.int .u8 (qG l e q)]
theorem rY{l:Lex}(h:bK l=0):l.spells.l.length≤16:=by
 have:=(qS (DW h).2.2.1).1
 omega
theorem RJ(hN:bq E)(hW:WdE M)(hE:lH E)(hS:SpE E)(hX:sy M)(hB:s4 E)(hF:qV E){l:Lex}(hl:l.ok 0)(e q:Int)(H:List ag) :
  M.run y8 [.agg l.row,.int .i64 e,.int .i64 q] H=some (.ret (ng l e q),H):=by
 rw [aK M hF.morph_Steps rfl (c:=zj) rfl,zj]
 have ha:=fun H=>HB M hN hW hE hF hl e q H
 by_cases hk:bK l=0
 ·cases hsl:slF l e q with
  |none=>
   have e1:vY l e q = .tuple [.agg EV.row,.agg vX.row,.int .u8 7]:=by simp [vY,nq,qG,hk,hsl,HA]
   have e2:ng l e q = .tuple [.slice .any 1 [],.int .u8 7]:=by simp [ng,nq,qG,hk,hsl]
   rw [e1] at ha;rw [e2]
   simp (maxSteps:=3000000) (maxDischargeDepth:=6) +contextual -implicitDefEqProofs only [amA M,amB,↓ae,↓aa,↓aj,↓ah,Nat.reduceBEq,Nat.reduceAdd,env,ao,u5,amG,AV.cell,Nat.reduceMul,Nat.reduceLeDiff,ha,b70,bp,eU,bV,wk_tuple]
  |some s=>
   obtain ⟨x,c,hA⟩:=Ij hk hsl
   have e1:vY l e q = .tuple [.agg l.row,.agg s.row,.int .u8 0]:=by simp [vY,nq,qG,hk,hsl,HA]
   have hst:=fun H=>Mb M hN hS hX hB hF hl (Kk hk) hA (by have:=rY hk;omega) H
   rw [e1] at ha
   cases hr:mw l x s with
   |none=>
    have e2:ng l e q = .tuple [.slice .any 1 [],.int .u8 7]:=by simp [ng,nq,qG,hk,hsl,hA.ent',hr]
    rw [e2]
    simp only [hr,xQ,Option.getD_none,Option.isSome_none,List.map_nil] at hst
    simp (maxSteps:=3000000) (maxDischargeDepth:=6) +contextual -implicitDefEqProofs only [amA M,amB,↓ae,↓aa,↓aj,↓ah,Nat.reduceBEq,Nat.reduceAdd,env,ao,u5,amG,AV.cell,Nat.reduceMul,Nat.reduceLeDiff,ha,hst,bp,eU,bV,b70,b00,wk_tuple]
   |some r=>
    have e2:ng l e q = .tuple [.slice .any 1 (r.map dR),.int .u8 0]:=by simp [ng,nq,qG,hk,hsl,hA.ent',hr]
    rw [e2]
    simp only [hr,xQ,Option.getD_some,Option.isSome_some] at hst
    simp (maxSteps:=3000000) (maxDischargeDepth:=6) +contextual -implicitDefEqProofs only [amA M,amB,↓ae,↓aa,↓aj,↓ah,Nat.reduceBEq,Nat.reduceAdd,env,ao,u5,amG,AV.cell,Nat.reduceMul,Nat.reduceLeDiff,ha,hst,bp,eU,HC,implies_true,b70,b00,wk_tuple]
 ·have e0:(bK l == 0)=false:=by simpa using hk
  have e1:vY l e q = .tuple [.agg EV.row,.agg vX.row,.int .u8 (bK l)]:=by simp [vY,nq,qG,hk,HA]
  have e2:ng l e q = .tuple [.slice .any 1 [],.int .u8 (bK l)]:=by simp [ng,nq,qG,hk]
  rw [e1] at ha;rw [e2]
  simp (maxSteps:=3000000) (maxDischargeDepth:=6) +contextual -implicitDefEqProofs only [amA M,amB,↓ae,↓aa,↓aj,↓ah,Nat.reduceBEq,Nat.reduceAdd,env,ao,u5,amG,AV.cell,Nat.reduceMul,Nat.reduceLeDiff,ha,e0,bp,eU,bV,wk_tuple]
end
section
attribute [local congr] aS eF bZ aT bC bk aU aI aJ bm bn
variable{E:bP}(M:dV ei E)
theorem V1(hN:bq E)(hS:Er E){l:Lex}(hl:l.ok 0)(hV:Om l){H H0:List ag}(hc:bU H0 H){p:Nat}{T:TypeId}(hp:H[p]?=some (.cells l.row T))(k:List Fra) :
  ∀ (n i:Nat) (o:List Str) (u:Str) (He:List ag),i+n=l.spells.l.length→u.length≤1000→o.length+n≤1000 →
  M.go dA H0 (.c dG :: .lp ⟨(some [3,11,12,13]),[(12,1,bb)],false⟩ dG He :: .blk 0 :: .c (.lv [12])::k) (kv [(3,.ptr p 0),(11,.str u),(12,.slice (.own H.length) 1 (o.map dR)),(13,.int .i64 i)]) (H++[.tok (o.length*1) bb]) =
   La M dA 12 H0 k (vx l.vowels o u (l.spells.l.drop i)) H
 |0,i,o,u,He,h,hu,ho=>by
  have e:i=l.spells.l.length:=by omega
  subst e
  have hp':=fun L=>cC (L:=L) hp
  rw [List.drop_length,vx,La]
  rw [aq M dG.eq_1]
  simp (maxSteps:=3000000) (maxDischargeDepth:=6) +contextual -implicitDefEqProofs only [amA M,amB,↓ae,↓aa,↓aj,↓ah,Nat.reduceBEq,Nat.reduceAdd,env,ao,cV,Nat.lt_irrefl,hp',bp]
 |n+1,i,o,u,He,h,hu,ho=>by
  have hi:i<l.spells.l.length:=by omega
  have hx:l.spells.l[i]?=some l.spells.l[i]:=List.getElem?_eq_getElem hi
  have hd:(l.spells.l.drop i)=l.spells.l[i]::l.spells.l.drop (i+1):=List.drop_eq_getElem_cons hi
  have hm:l.spells.l[i]∈l.spells.l:=List.getElem_mem hi
  obtain ⟨p1,p2,p3,p4,p5⟩:=On (hV.spells _ hm)
  have hx0:=hl.spells.all _ hm
  have hsp:=fun H=>MW M hN hS hl hV.vowels hx0 p1 p2 p3 p4 (s:=u) (by omega) H
  have hp':=fun L=>cC (L:=L) hp
  have hcm:=fun L=>tj hc L
  have htm:=fun L=>G3 hc L
  rw [hd,vx]
  generalize l.spells.l[i]=x at hx hsp
  generalize uC l.vowels x u=u' at hsp
  cases hdl:decide ((u'.length:Int)≤512) with
  |false=>
   simp only [sel,La]
   simp only [hdl] at hsp
   rw [aq M dG.eq_1]
   simp (maxSteps:=3000000) (maxDischargeDepth:=6) +contextual -implicitDefEqProofs only [amA M,amB,↓ae,↓aa,↓aj,↓ah,Nat.reduceBEq,Nat.reduceAdd,env,ao,cV,amG,AV.cell,Nat.reduceMul,Nat.reduceLeDiff,hx,hi,hsp,hp',aC hi,bp,l9,hcm,htm,noS,bV,wk_tuple]
  |true=>
   simp only [hdl] at hsp
   have hul:u'.length≤1000:=by have:=of_decide_eq_true hdl;omega
   have ap:=fun L=>QE (row:=dR) (l:=o) (x:=u') (r:=[.str u']) (sz:=1) (bytes:=16) (e:=bb) H L rfl rfl rfl (by omega) (by omega)
   have ih:=fun He=>V1 hN hS hl hV hc hp k n (i+1) (o++[u']) u' He (by omega) hul (by simp;omega)
   simp only [kv_cons,kv_nil] at ih
   simp only [sel]
   rw [aq M dG.eq_1]
   simp (maxSteps:=3000000) (maxDischargeDepth:=6) +contextual -implicitDefEqProofs only [amA M,amB,↓ae,↓aa,↓aj,↓ah,Nat.reduceBEq,Nat.reduceAdd,env,ao,cV,amG,AV.cell,Nat.reduceMul,Nat.reduceLeDiff,hx,hi,hsp,hp',ap,ih,bt hi hl.spells.len,aC hi,bp,l9]
theorem PT(hN:bq E)(hS:Er E){l:Lex}(hl:l.ok 0)(hV:Om l)(hsl:l.spells.l.length≤900){s:bD}{u:Str}(hul:u.length≤1000)(H:List ag) :
  M.go dA H [.c dG,.lp ⟨some [3,11,12,13],[(12,1,bb)],false⟩ dG (H++[.cells l.row au,.cells s.row cj,.tok 1 bb]),.blk 0,.c (.lv [12]),.c (Sh.Q (Sh.O [Sh.m 86 12,Sh.m 6 86,Sh.mc 7 Sh.T]) Sh.R)]
   (s5 (s5 (s5 (s5 Env.leaf 13 (.int .i64 0)) 12 (.slice (.own (H.length+2)) 1 [[.str u]])) 11 (.str u)) 3 (.ptr H.length 0)) (H++[.cells l.row au,.cells s.row cj,.tok 1 bb])=some (.ret (xQ (vx l.vowels [u] u l.spells.l)),H):=by
 have h1:=fun k He=>V1 M hN hS hl hV (H:=H++[.cells l.row au,.cells s.row cj]) (H0:=H) (cut_app H _) (p:=H.length) (T:=au) (by rw [cS];rfl) k l.spells.l.length 0 [u] u He (by omega) hul (by simp;omega)
 simp only [kv_cons,kv_nil,Int.ofNat_zero,List.drop_zero,List.length_append,List.length_cons,List.length_nil,Nat.zero_add,Nat.reduceAdd,List.append_assoc,List.cons_append,List.nil_append,List.map_cons,List.map_nil,dR,Nat.mul_one] at h1
 rw [h1]
 generalize vx l.vowels [u] u l.spells.l=r
 cases r with
 |none=>simp only [La,hp_take];rfl
 |some r=>
  simp only [La,kv_cons,kv_nil]
  simp (maxSteps:=3000000) (maxDischargeDepth:=6) +contextual -implicitDefEqProofs only [amA M,amB,↓ae,↓aa,↓aj,↓ah,Nat.reduceBEq,Nat.reduceAdd,env,ao,cV,MX,HC,cut_app,implies_true,wk_tuple]
  rfl
theorem Kw(hN:bq E)(hR:sZ E)(hS:Er E)(hF:qV E){l:Lex}(hl:l.ok 0)(hk:bK l=0){e q:Int}{x:aQ}{c:aV}{s:bD}(hA:At l e q x c s)(H:List ag) :
  M.run jn [.agg l.row,.int .i64 e,.int .i64 q] H=some (.ret (xQ (mw l x s)),H):=by
 rw [aK M hF.truchmanref02_steps rfl (c:=jq) rfl,jq]
 have hV:=Kk hk
 have hsl:=rY hk
 have ha':=fun H=>A7 M hR hF hl hk e q H
 simp only [hA.sl hk,Option.getD_some,Option.isSome_some] at ha'
 have hl4:=DX hA.ent.lem
 have hp:=hA.sok.pre.1
 have ha:=hA.sok.add.1
 cases hd:decide ((x.lem.length:Int)<s.cut) with
 |true=>
  have e1:xQ (mw l x s)=noS:=by simp [xQ,mw,IQ,hd,sel,noS]
  rw [e1]
  simp (maxSteps:=3000000) (maxDischargeDepth:=6) +contextual -implicitDefEqProofs only [amA M,amB,↓ae,↓aa,↓aj,↓ah,Nat.reduceBEq,Nat.reduceAdd,env,ao,cV,amG,AV.cell,Nat.reduceMul,Nat.reduceLeDiff,ha',hd,hA.ex,eE hA.e0 hA.el,bp,dc,eU,noS,bV,wk_tuple]
 |false=>
  obtain ⟨m,hm⟩:=Int.eq_ofNat_of_zero_le hA.sok.cut.1
  have hml:m≤x.lem.length:=by have:=of_decide_eq_false hd;omega
  have hw:IntKind.i64.wrap ((x.lem.length:Int)-(m:Int))=((x.lem.length-m:Nat):Int):=by rw [dx (by omega) (by omega)];omega
  have hsc:=PD (s:=x.lem) (k:=.i64) (i:=x.lem.length-m) (by omega)
  have e1:mw l x s=vx l.vowels [K9 x.lem s] (K9 x.lem s) l.spells.l:=by simp [mw,IQ,hd,sel]
  have e2:K9 x.lem s=zG s (GI s (x.lem.take (x.lem.length-m))):=by rw [K9,hm];rfl
  have hul:=Ku hl4 hA.sok
  have hal:(x.lem.take (x.lem.length-m)).length≤24:=by simp;omega
  have hend:=fun (u:Str) (hu:u.length≤38)=>PT M hN hS hl hV (s:=s) (u:=u) (by omega) (by omega) H
  rw [e1]
  rw [e2] at hul ⊢
  generalize x.lem.take (x.lem.length-m)=a at hsc hal hul
  rw [hm] at hd
  have hdn:decide (x.lem.length<m)=false:=decide_eq_false (by omega)
  have hbl:=Ks s a hp
  cases hp0:s.pre == [] with
  |true=>
   have e3:GI s a=a:=by simp [GI,hp0,sel]
   rw [e3] at hbl hul ⊢
   cases ha0:s.add == [] with
   |true=>
    have e4:zG s a=a:=by simp [zG,ha0,sel]
    rw [e4] at hul ⊢
    simp (maxSteps:=3000000) (maxDischargeDepth:=6) +contextual -implicitDefEqProofs only [amA M,amB,↓ae,↓aa,↓aj,↓ah,Nat.reduceBEq,Nat.reduceAdd,env,ao,cV,amG,AV.cell,Nat.reduceMul,Nat.reduceLeDiff,ha',hend _ hul,hd,hdn,hm,hw,hsc,hp0,ha0,hA.ex,eE hA.e0 hA.el,bp,dc,eU,wk_tuple]
   |false=>
    have e4:zG s a=(a++[43])++s.add:=by simp [zG,ha0,sel]
    rw [e4] at hul ⊢
    simp (maxSteps:=3000000) (maxDischargeDepth:=6) +contextual -implicitDefEqProofs only [amA M,amB,↓ae,↓aa,↓aj,↓ah,Nat.reduceBEq,Nat.reduceAdd,env,ao,cV,amG,AV.cell,Nat.reduceMul,Nat.reduceLeDiff,ha',hend _ hul,hd,hdn,hm,hw,hsc,hp0,ha0,kE (s:=a) (t:=[43]) (by simp;omega),kE (s:=a++[43]) (t:=s.add) (by simp;omega),hA.ex,eE hA.e0 hA.el,bp,dc,eU,wk_tuple]
  |false=>
   have e3:GI s a=(s.pre++[43])++a:=by simp [GI,hp0,sel]
   rw [e3] at hbl hul ⊢
   cases ha0:s.add == [] with
   |true=>
    have e4:zG s ((s.pre++[43])++a)=(s.pre++[43])++a:=by simp [zG,ha0,sel]
    rw [e4] at hul ⊢
    simp (maxSteps:=3000000) (maxDischargeDepth:=6) +contextual -implicitDefEqProofs only [amA M,amB,↓ae,↓aa,↓aj,↓ah,Nat.reduceBEq,Nat.reduceAdd,env,ao,cV,amG,AV.cell,Nat.reduceMul,Nat.reduceLeDiff,ha',hend _ hul,hd,hdn,hm,hw,hsc,hp0,ha0,kE (s:=s.pre) (t:=[43]) (by simp;omega),kE (s:=s.pre++[43]) (t:=a) (by simp;omega),hA.ex,eE hA.e0 hA.el,bp,dc,eU,wk_tuple]
   |false=>
    have e4:zG s ((s.pre++[43])++a)=(((s.pre++[43])++a)++[43])++s.add:=by simp [zG,ha0,sel]
    rw [e4] at hul ⊢
    simp (maxSteps:=3000000) (maxDischargeDepth:=6) +contextual -implicitDefEqProofs only [amA M,amB,↓ae,↓aa,↓aj,↓ah,Nat.reduceBEq,Nat.reduceAdd,env,ao,cV,amG,AV.cell,Nat.reduceMul,Nat.reduceLeDiff,ha',hend _ hul,hd,hdn,hm,hw,hsc,hp0,ha0,kE (s:=s.pre) (t:=[43]) (by simp;omega),kE (s:=s.pre++[43]) (t:=a) (by simp;omega),kE (s:=s.pre++[43]++a) (t:=[43]) (by simp at hbl ⊢;omega),kE (s:=s.pre++[43]++a++[43]) (t:=s.add) (by simp at hbl ⊢;omega),hA.ex,eE hA.e0 hA.el,bp,dc,eU,wk_tuple]
theorem Oz(hR:sZ E)(hF:qV E){l:Lex}(hl:l.ok 0)(hk:bK l=0){e q:Int}(hs:slF l e q=none)(H:List ag) :
  M.run jn [.agg l.row,.int .i64 e,.int .i64 q] H=some (.ret noS,H):=by
 rw [aK M hF.truchmanref02_steps rfl (c:=jq) rfl,jq]
 have ha':=fun H=>A7 M hR hF hl hk e q H
 simp only [hs,Option.getD_none,Option.isSome_none] at ha'
 simp (maxSteps:=3000000) (maxDischargeDepth:=6) +contextual -implicitDefEqProofs only [amA M,amB,↓ae,↓aa,↓aj,↓ah,Nat.reduceBEq,Nat.reduceAdd,env,ao,cV,amG,AV.cell,Nat.reduceMul,Nat.reduceLeDiff,ha',bp,eU,noS,bV,wk_tuple]
theorem PU(hN:bq E)(hR:sZ E)(hS:Er E)(hF:qV E){l:Lex}(hl:l.ok 0)(e q:Int)(H:List ag) :
  M.run pe [.agg l.row,.int .i64 e,.int .i64 q] H=some (.ret (ng l e q),H):=by
 rw [aK M hF.truchmanref02_Steps rfl (c:=px) rfl,px]
 by_cases hk:bK l=0
 ·have e0:(bK l == 0)=true:=by simpa using hk
  cases hsl:slF l e q with
  |none=>
   have e2:ng l e q = .tuple [.slice .any 1 [],.int .u8 7]:=by simp [ng,nq,qG,hk,hsl]
   have hst:=fun H=>Oz M hR hF hl hk hsl H
   rw [e2]
   simp only [noS] at hst
   simp (maxSteps:=3000000) (maxDischargeDepth:=6) +contextual -implicitDefEqProofs only [amA M,amB,↓ae,↓aa,↓aj,↓ah,Nat.reduceBEq,Nat.reduceAdd,env,ao,lj,amG,AV.cell,Nat.reduceMul,Nat.reduceLeDiff,hst,gX M hN hR hl,Nat.zero_le,e0,bp,eU,bV,wk_tuple]
  |some s=>
   obtain ⟨x,c,hA⟩:=Ij hk hsl
   have hst:=fun H=>Kw M hN hR hS hF hl hk hA H
   cases hr:mw l x s with
   |none=>
    have e2:ng l e q = .tuple [.slice .any 1 [],.int .u8 7]:=by simp [ng,nq,qG,hk,hsl,hA.ent',hr]
    rw [e2]
    simp only [hr,xQ,Option.getD_none,Option.isSome_none,List.map_nil] at hst
    simp (maxSteps:=3000000) (maxDischargeDepth:=6) +contextual -implicitDefEqProofs only [amA M,amB,↓ae,↓aa,↓aj,↓ah,Nat.reduceBEq,Nat.reduceAdd,env,ao,lj,amG,AV.cell,Nat.reduceMul,Nat.reduceLeDiff,hst,gX M hN hR hl,Nat.zero_le,e0,bp,eU,bV,b70,b00,wk_tuple]
   |some r=>
    have e2:ng l e q = .tuple [.slice .any 1 (r.map dR),.int .u8 0]:=by simp [ng,nq,qG,hk,hsl,hA.ent',hr]
    rw [e2]
    simp only [hr,xQ,Option.getD_some,Option.isSome_some] at hst
    simp (maxSteps:=3000000) (maxDischargeDepth:=6) +contextual -implicitDefEqProofs only [amA M,amB,↓ae,↓aa,↓aj,↓ah,Nat.reduceBEq,Nat.reduceAdd,env,ao,lj,amG,AV.cell,Nat.reduceMul,Nat.reduceLeDiff,hst,gX M hN hR hl,Nat.zero_le,e0,bp,eU,HC,implies_true,b70,b00,wk_tuple]
 ·have e0:(bK l == 0)=false:=by simpa using hk
  have e2:ng l e q = .tuple [.slice .any 1 [],.int .u8 (bK l)]:=by simp [ng,nq,qG,hk]
  rw [e2]
  simp (maxSteps:=3000000) (maxDischargeDepth:=6) +contextual -implicitDefEqProofs only [amA M,amB,↓ae,↓aa,↓aj,↓ah,Nat.reduceBEq,Nat.reduceAdd,env,ao,lj,amG,AV.cell,Nat.reduceMul,Nat.reduceLeDiff,gX M hN hR hl,Nat.zero_le,e0,bp,eU,bV,wk_tuple]
end
section
attribute [local congr] aS eF bZ aT bC bk aU aI aJ bm bn
variable{E:bP}(M:dV ei E)
structure Kx (M:dV ei E):Prop where
 count:∀ (s:Str) (c:UInt8) (H:List ag),M.run ep [.str s,.int .u8 c.toNat] H=some (.ret (.int .i64 (Lib.countByte s c:Nat)),H)
 noZero:∀ (n:Nat) (H:List ag),n≤281474976710656→M.run dF [.int .i64 n] H=some (.ret (.rslice H.length 0 n 1 true),H++[.cells (List.replicate n .unk) dN])
theorem OA{H L L':List ag}(h:L.length≤L'.length)(hw:∀ x∈L',Qb (H++L).length x):bU (H++L) (H++L'):=⟨by simp;omega,fun i x hi hx=>by
 by_cases h1:i<H.length
 ·left;rw [List.getElem?_append_left h1] at hx ⊢;exact hx
 ·right;rw [List.getElem?_append_right (by omega)] at hx;exact hw x (List.mem_of_getElem? hx)⟩
abbrev rZ(a x:AV):ag:=.cells [a,x] bu
theorem QF(hB:s4 E)(hX:sy M)(H:List ag) :
  M.run cD [.ptr H.length 0] (H++[rZ .nilp (.slice .nil 1 [])])=some (.ret (.tuple []),H++[rZ (.ptr H.length 0) (.slice .nil 1 [])]):=by
 rw [aK M hB.strings_Builder_copyCheck rfl (c:=bT) rfl,bT]
 have h1:=hX.same H.length 0
 have hc:bU (H++[rZ .nilp (.slice .nil 1 [])]) (H++[rZ (.ptr H.length 0) (.slice .nil 1 [])]):=OA (by simp) (by
  intro x hx
  obtain rfl:x=_:=by simpa using hx
  intro c hc
  simp only [List.mem_cons,List.not_mem_nil,or_false] at hc
  rcases hc with rfl | rfl
  ·exact wk_ptr (by simp)
  ·exact PO _ _)
 have ht:(H++[rZ (.ptr H.length 0) (.slice .nil 1 [])]).take (H.length+1)=H++[rZ (.ptr H.length 0) (.slice .nil 1 [])]:=List.take_of_length_le (by simp)
 have e1:OP (H++[rZ .nilp (.slice .nil 1 [])]) (.ptr H.length 0)=some (.ptr H.length 0):=by simp [OP,cS]
 have e2:OQ (H++[rZ .nilp (.slice .nil 1 [])]) bu 2 (.ptr H.length 0)=some (.ptr H.length 0):=by simp [OQ,cS]
 simp (maxSteps:=3000000) (maxDischargeDepth:=6) +contextual -implicitDefEqProofs only [amA M,amB,↓ae,↓aa,↓aj,↓ah,Nat.reduceBEq,Nat.reduceAdd,env,ao,iO,amG,AV.cell,Nat.reduceMul,Nat.reduceLeDiff,h1,qU,Oi,rnc,e1,e2,hc,ht,wk_tuple]
theorem Us(hB:s4 E)(H L:List ag)(x:AV) :
  M.run cD [.ptr H.length 0] (H++(rZ (.ptr H.length 0) x::L))=some (.ret (.tuple []),H++(rZ (.ptr H.length 0) x::L)):=by
 rw [aK M hB.strings_Builder_copyCheck rfl (c:=bT) rfl,bT]
 have ht:(H++(rZ (.ptr H.length 0) x::L)).take (H.length+(L.length+1))=H++(rZ (.ptr H.length 0) x::L):=List.take_of_length_le (by simp)
 simp (maxSteps:=3000000) (maxDischargeDepth:=6) +contextual -implicitDefEqProofs only [amA M,amB,↓ae,↓aa,↓aj,↓ah,Nat.reduceBEq,Nat.reduceAdd,env,ao,iO,Kc,Oj,rnc,ht,wk_tuple]
theorem PV{g:FuncId}{first cap args:List AV}{H H':List ag}{v:AV}(h:H'.take H.length=H)(T L:List Nat):E6 ei E .keep (.fn (.func g) first cap) args H T L (some (.ret v,H'))=some (v,H',T,L):=by
 unfold E6 yM
 simp only [Lz h,CZ.b,if_true]
theorem Tq(hF:qV E)(hX:Kx M)(H:List ag){n:Nat}(hn:n≤281474976710656) :
  M.run nN [.ptr H.length 0,.int .i64 n] (H++[rZ (.ptr H.length 0) (.slice .nil 1 [])])=some (.ret (.tuple []),H++[rZ (.ptr H.length 0) (.rslice (H.length+1) 0 0 1 true),.cells (List.replicate n .unk) dN]):=by
 rw [aK M hF.strings_Builder_grow rfl (c:=ou) rfl,ou]
 have w1:IntKind.i64.wrap (2*0)=0:=by decide
 have w2:IntKind.i64.wrap (0+(n:Int))=(n:Int):=by rw [dx (by omega) (by omega)];omega
 have h1:=fun H=>hX.noZero n H hn
 have e0:((0:Nat):Int)=0:=rfl
 have e1:Nn (.slice .nil 1 [])=some (.int .i64 0):=rfl
 have e2:DY 1 (.rslice (H.length+1) 0 n 1 true) none (some (.int .i64 0)) none=some (.rslice (H.length+1) 0 0 1 true):=by simp [DY,fP]
 have e3:rcp (H++[rZ (.ptr H.length 0) (.slice .nil 1 []),.cells (List.replicate n .unk) dN]) 1 false (.rslice (H.length+1) 0 0 1 true) (.slice .nil 1 [])=some (.int .i64 0,H++[rZ (.ptr H.length 0) (.slice .nil 1 []),.cells (List.replicate n .unk) dN]):=by
  simp only [rcp,E2,true_or,if_true,hp_getk,List.getElem?_cons_succ,List.getElem?_cons_zero,List.length_nil,Nat.le_refl,Nat.zero_le,Nat.zero_mul,Nat.add_zero,true_and,and_true,List.flatten_nil,aX]
  rw [if_pos (by rfl)]
  rw [List.set_append_right _ _ (by omega)]
  simp
 have hdk:=fun T L=>PV (E:=E) (g:=dF) (first:=[]) (cap:=[]) (args:=[.int .i64 n]) (H:=H++[rZ (.ptr H.length 0) (.slice .nil 1 [])]) (H':=H++[rZ (.ptr H.length 0) (.slice .nil 1 []),.cells (List.replicate n .unk) dN]) (v:=.rslice (H.length+1) 0 n 1 true) (by
  rw [show H++[rZ (.ptr H.length 0) (.slice .nil 1 []),ag.cells (List.replicate n .unk) dN]=(H++[rZ (.ptr H.length 0) (.slice .nil 1 [])])++[.cells (List.replicate n .unk) dN] by simp,List.take_left]) T L
 simp (maxSteps:=3000000) (maxDischargeDepth:=6) +contextual -implicitDefEqProofs only [amA M,amB,↓ae,↓aa,↓aj,↓ah,Nat.reduceBEq,Nat.reduceAdd,env,ao,BD,amG,AV.cell,Nat.reduceMul,Nat.reduceLeDiff,rnc,w1,w2,h1,e0,e1,e2,e3,hdk]
theorem RK(hB:s4 E)(hE:sy M)(hF:qV E)(hX:Kx M)(H:List ag){n:Nat}(h0:0<n)(hn:n≤281474976710656) :
  M.run ky [.ptr H.length 0,.int .i64 n] (H++[rZ .nilp (.slice .nil 1 [])])=some (.ret (.tuple []),H++[rZ (.ptr H.length 0) (.rslice (H.length+1) 0 0 1 true),.cells (List.replicate n .unk) dN]):=by
 rw [aK M hF.strings_Builder_Grow rfl (c:=jd) rfl,jd]
 have w1:IntKind.i64.wrap (0-0)=0:=by decide
 have e0:((0:Nat):Int)=0:=rfl
 have e1:Nn (.slice .nil 1 [])=some (.int .i64 0):=rfl
 have d1:decide ((n:Int)<0)=false:=decide_eq_false (by omega)
 have d2:decide ((0:Int)<(n:Int))=true:=decide_eq_true (by omega)
 have d3:decide (0<n)=true:=decide_eq_true h0
 simp (maxSteps:=3000000) (maxDischargeDepth:=6) +contextual -implicitDefEqProofs only [amA M,amB,↓ae,↓aa,↓aj,↓ah,Nat.reduceBEq,Nat.reduceAdd,env,ao,tz,amG,AV.cell,Nat.reduceMul,Nat.reduceLeDiff,rnc,QF M hB hE,Tq M hF hX H hn,w1,e0,e1,d1,d2,d3]
theorem PW(hB:s4 E)(hE:sy M)(hF:qV E)(H:List ag) :
  M.run ky [.ptr H.length 0,.int .i64 0] (H++[rZ .nilp (.slice .nil 1 [])])=some (.ret (.tuple []),H++[rZ (.ptr H.length 0) (.slice .nil 1 [])]):=by
 rw [aK M hF.strings_Builder_Grow rfl (c:=jd) rfl,jd]
 have w1:IntKind.i64.wrap (0-0)=0:=by decide
 have e0:((0:Nat):Int)=0:=rfl
 have e1:Nn (.slice .nil 1 [])=some (.int .i64 0):=rfl
 have d1:decide ((0:Int)<0)=false:=rfl
 simp (maxSteps:=3000000) (maxDischargeDepth:=6) +contextual -implicitDefEqProofs only [amA M,amB,↓ae,↓aa,↓aj,↓ah,Nat.reduceBEq,Nat.reduceAdd,env,ao,tz,amG,AV.cell,Nat.reduceMul,Nat.reduceLeDiff,rnc,QF M hB hE,w1,e0,e1,d1]
end
section
attribute [local congr] aS eF bZ aT bC bk aU aI aJ bm bn
variable{E:bP}(M:dV ei E)
def uT(s:Str):Str:=s.filter fun c => !(c == 43)
inductive BL where
 |nil
 |room (n:Nat)
 |own (w:Str)
def BL.str:BL→Str
 |.own w=>w
 |_=>[]
def BL.wr:BL→Str→BL
 |.nil,_=>.nil
 |.room _,s=>.own s
 |.own w,s=>.own (w++s)
def BL.heap(H:List ag):BL→List ag
 |.nil=>H++[rZ (.ptr H.length 0) (.slice .nil 1 [])]
 |.room n=>H++[rZ (.ptr H.length 0) (.rslice (H.length+1) 0 0 1 true),.cells (List.replicate n .unk) dN]
 |.own w=>H++[rZ (.ptr H.length 0) (.slice (.own (H.length+1)) 1 (gQ w)),bTok w]
theorem OB(H:List ag):BL.heap H .nil=H++[rZ (.ptr H.length 0) (.slice .nil 1 [])]:=rfl
theorem Mc(H:List ag)(n:Nat):BL.heap H (.room n)=H++[rZ (.ptr H.length 0) (.rslice (H.length+1) 0 0 1 true),.cells (List.replicate n .unk) dN]:=rfl
theorem BL.wr_str(b:BL)(s:Str)(h:b = .nil→s=[]):(b.wr s).str=b.str++s:=by
 cases b with
 |nil=>rw [h rfl];rfl
 |room n=>rfl
 |own w=>rfl
theorem BL.wr_nil{b:BL}{s:Str}(h:b.wr s = .nil):b = .nil:=by cases b<;>simp [BL.wr] at h ⊢
theorem ap2(H:List ag)(x:ag){w s:Str}(h:w.length+s.length≤140737488355328) :
  rap false (H++[x,bTok w]) dN 1 1 true (.slice (.own (H.length+1)) 1 (gQ w)) (.str s)=some (.slice (.own (H.length+1)) 1 (gQ (w++s)),H++[x,bTok (w++s)]):=by
 have:=PC (H++[x]) [] h
 rw [List.append_assoc,List.append_assoc,List.length_append] at this
 exact this
theorem apR(H:List ag)(x:ag)(n:Nat){s:Str}(h:s.length≤140737488355328) :
  rap false (H++[x,.cells (List.replicate n .unk) dN]) dN 1 1 true (.rslice (H.length+1) 0 0 1 true) (.str s)=some (.slice (.own (H.length+1)) 1 (gQ s),H++[x,bTok s]):=by
 have h2:=ap2 H x (w:=[]) (s:=s) (by simpa using h)
 have e:(H++[x,ag.cells (List.replicate n .unk) dN]).set (H.length+1) (.tok 0 dN)=H++[x,bTok []]:=by
  rw [List.set_append_right _ _ (by omega)];simp
 rw [List.nil_append] at h2
 rw [← h2]
 show (match (H++[x,ag.cells (List.replicate n .unk) dN])[H.length+1]? with
  |some (.cells _ T)=>FZ ((H++[x,ag.cells (List.replicate n .unk) dN]).set (H.length+1) (.tok 0 T)) dN 1 1 true (.slice (.own (H.length+1)) 1 []) (.str s)
  |_=>none)=_
 rw [hp_getk]
 simp only [List.getElem?_cons_succ,List.getElem?_cons_zero]
 rw [e]
 rfl
theorem apN(H:List ag):rap false H dN 1 1 true (.slice .nil 1 []) (.str [])=some (.slice .nil 1 [],H):=by
 simp [rap,FZ,E2,si]
theorem Tr(H:List ag)(x y:ag)(w:Str):bU (H++[x,y]) (H++[rZ (.ptr H.length 0) (.slice (.own (H.length+1)) 1 (gQ w)),bTok w]):=OA (by simp) (by
 intro z hz
 simp only [List.mem_cons,List.not_mem_nil,or_false] at hz
 rcases hz with rfl | rfl
 ·intro c hc
  simp only [List.mem_cons,List.not_mem_nil,or_false] at hc
  rcases hc with rfl | rfl
  ·exact wk_ptr (by simp)
  ·exact wk_slice (show H.length+1<_ by simp) (Oh _ _)
 ·trivial)
theorem MY(H:List ag)(x y:ag):(H++[x,y]).take (H.length+2)=H++[x,y]:=List.take_of_length_le (by simp)
theorem QG(H:List ag)(x:ag):(H++[x]).take (H.length+1)=H++[x]:=List.take_of_length_le (by simp)
theorem PX(hB:s4 E)(H:List ag)(b:BL){s:Str}(h:b.str.length+s.length≤140737488355328)(hn:b = .nil→s=[]) :
  M.run aE [.ptr H.length 0,.str s] (b.heap H)=some (.ret (.tuple [.int .i64 s.length,.nilif]),(b.wr s).heap H):=by
 rw [aK M hB.strings_Builder_WriteString rfl (c:=cP) rfl,cP]
 have hc1:=fun L x=>Us M hB H L x
 cases b with
 |nil=>
  rw [hn rfl]
  simp only [BL.heap,BL.wr]
  have a1:=fun H=>apN H
  simp (maxSteps:=3000000) (maxDischargeDepth:=6) +contextual -implicitDefEqProofs only [amA M,amB,↓ae,↓aa,↓aj,↓ah,Nat.reduceBEq,Nat.reduceAdd,env,ao,eK,amG,AV.cell,Nat.reduceMul,Nat.reduceLeDiff,hc1,rnc,a1,QG,cut_refl,wk_tuple]
 |room n=>
  simp only [BL.heap,BL.wr]
  have a1:=fun x=>apR H x n (s:=s) (by simp [BL.str] at h;omega)
  have hcut:=fun x y=>Tr H x y s
  simp (maxSteps:=3000000) (maxDischargeDepth:=6) +contextual -implicitDefEqProofs only [amA M,amB,↓ae,↓aa,↓aj,↓ah,Nat.reduceBEq,Nat.reduceAdd,env,ao,eK,amG,AV.cell,Nat.reduceMul,Nat.reduceLeDiff,hc1,rnc,a1,hcut,MY,wk_tuple]
 |own w=>
  simp only [BL.heap,BL.wr]
  have a1:=fun x=>ap2 H x (w:=w) (s:=s) h
  have hcut:=fun x y=>Tr H x y (w++s)
  simp (maxSteps:=3000000) (maxDischargeDepth:=6) +contextual -implicitDefEqProofs only [amA M,amB,↓ae,↓aa,↓aj,↓ah,Nat.reduceBEq,Nat.reduceAdd,env,ao,eK,amG,AV.cell,Nat.reduceMul,Nat.reduceLeDiff,hc1,rnc,a1,hcut,MY,wk_tuple]
theorem Ts(hB:s4 E)(H:List ag)(b:BL)(h:b.str.length≤9223372036854775807)(hr:∀ n,b≠.room n) :
  M.run dn [.ptr H.length 0] (b.heap H)=some (.ret (.str b.str),b.heap H):=by
 rw [aK M hB.strings_Builder_String rfl (c:=gP) rfl,gP]
 cases b with
 |room n=>exact absurd rfl (hr n)
 |nil=>
  simp only [BL.heap,BL.str]
  have e1:QQ (.slice .nil 1 [])=some (.sdp 0 []):=rfl
  have e2:∀ H,Mu H dN (.sdp 0 []) (.int .i64 0)=some (.str []):=fun H=>rfl
  have e0:((0:Nat):Int)=0:=rfl
  simp (maxSteps:=3000000) (maxDischargeDepth:=6) +contextual -implicitDefEqProofs only [amA M,amB,↓ae,↓aa,↓aj,↓ah,Nat.reduceBEq,Nat.reduceAdd,env,ao,ml,amG,AV.cell,Nat.reduceMul,Nat.reduceLeDiff,qU,rnc,e0,e1,e2,QG]
 |own w=>
  simp only [BL.heap,BL.str] at h ⊢
  have e2:∀ x,Mu (H++[x,bTok w]) dN (.sdp (H.length+1) (gQ w)) (.int .i64 (w.length:Int))=some (.str w):=fun x=>by
   have:=UL (H++[x]) [] w h
   rw [List.append_assoc,List.length_append] at this
   exact this
  simp (maxSteps:=3000000) (maxDischargeDepth:=6) +contextual -implicitDefEqProofs only [amA M,amB,↓ae,↓aa,↓aj,↓ah,Nat.reduceBEq,Nat.reduceAdd,env,ao,ml,amG,AV.cell,Nat.reduceMul,Nat.reduceLeDiff,qU,rnc,UM,e2,MY]
theorem PY(hF:qV E)(hS:SpE E)(hX:sy M)(s:Str)(c:UInt8)(H:List ag):M.run oI [.str s,.str [c]] H=some (.ret (.int .i64 (Lib.indexByte s c)),H):=by
 have h1:M.run cT [.str s,.int .u8 c.toNat] H=some (.ret (.int .i64 (Lib.indexByte s c)),H):=by
  rw [aK M hS.internal_stringslite_IndexByte rfl (c:=dU) rfl,dU]
  have h2:=hX.index s c H
  simp (maxSteps:=3000000) (maxDischargeDepth:=6) +contextual -implicitDefEqProofs only [amA M,amB,↓ae,↓aa,↓aj,↓ah,Nat.reduceBEq,Nat.reduceAdd,env,ao,lW,h2]
 have h2:M.run gS [.str s,.str [c]] H=some (.ret (.int .i64 (Lib.indexByte s c)),H):=by
  rw [aK M hF.internal_stringslite_Index rfl (c:=ke) rfl,ke]
  have e0:((([c].length:Nat):Int) == 0)=false:=rfl
  have e1:((([c].length:Nat):Int) == 1)=true:=rfl
  have e2:Ib ([c]:Str)[0]?=some (.int .u8 (c.toNat:Int)):=rfl
  cases he:([c]:Str) == s with
  |true=>
   have:Lib.indexByte s c=0:=by rw [← eq_of_beq he];simp [Lib.indexByte]
   rw [this]
   simp (maxSteps:=3000000) (maxDischargeDepth:=6) +contextual -implicitDefEqProofs only [amA M,amB,↓ae,↓aa,↓aj,↓ah,Nat.reduceBEq,Nat.reduceAdd,env,ao,oP,e0,e1,he]
  |false=>
   simp (maxSteps:=3000000) (maxDischargeDepth:=6) +contextual -implicitDefEqProofs only [amA M,amB,↓ae,↓aa,↓aj,↓ah,Nat.reduceBEq,Nat.reduceAdd,env,ao,oP,e0,e1,e2,h1,he]
 rw [aK M hF.strings_Index rfl (c:=vN) rfl,vN]
 simp (maxSteps:=3000000) (maxDischargeDepth:=6) +contextual -implicitDefEqProofs only [amA M,amB,↓ae,↓aa,↓aj,↓ah,Nat.reduceBEq,Nat.reduceAdd,env,ao,IG,h2]
theorem PZ(hF:qV E)(hX:Kx M)(s:Str)(c:UInt8)(H:List ag):M.run lJ [.str s,.str [c]] H=some (.ret (.int .i64 (Lib.countByte s c:Nat)),H):=by
 rw [aK M hF.strings_Count rfl (c:=vM) rfl,vM]
 have h2:=hX.count s c H
 have e0:((([c].length:Nat):Int) == 0)=false:=rfl
 have e1:((([c].length:Nat):Int) == 1)=true:=rfl
 have e2:Ib ([c]:Str)[0]?=some (.int .u8 (c.toNat:Int)):=rfl
 simp (maxSteps:=3000000) (maxDischargeDepth:=6) +contextual -implicitDefEqProofs only [amA M,amB,↓ae,↓aa,↓aj,↓ah,Nat.reduceBEq,Nat.reduceAdd,env,ao,IF,e0,e1,e2,h2]
theorem Tt(a b:Str):uT (a++b)=uT a++uT b:=List.filter_append ..
theorem Ik:∀ (s:Str) (m:Nat),Lib.countByte s 43=m+1→∃ a r,s=a++43::r∧uT a=a∧Lib.indexByte s 43=(a.length:Int)∧Lib.countByte r 43=m
 |[],m,h=>by simp [Lib.countByte] at h
 |c::s,m,h=>by
  by_cases hc:c=43
  ·subst hc
   exact ⟨[],s,rfl,rfl,by simp [Lib.indexByte],by simpa [Lib.countByte] using h⟩
  ·obtain ⟨a,r,h1,h2,h3,h4⟩:=Ik s m (by rwa [Lib.countByte,List.count_cons_of_ne (Ne.symm (by simpa using (fun e=>hc e.symm)))] at h)
   refine ⟨c::a,r,by rw [h1];rfl, ?_, ?_,h4⟩
   ·simp only [uT,List.filter_cons] at h2 ⊢
    simp [hc,h2]
   ·have hb:(c == 43)=false:=by simpa using hc
    simp only [Lib.indexByte,hb,h3]
    have:((a.length:Int) == -1)=false:=beq_eq_false_iff_ne.2 (by omega)
    simp [this]
theorem QH{s:Str}(h:Lib.countByte s 43=0):uT s=s:=by
 simp only [Lib.countByte] at h
 rw [List.count_eq_zero] at h
 exact List.filter_eq_self.2 fun c hc=>by
  have:c≠43:=fun e=>h (e ▸ hc)
  simpa using this
theorem OC{s:Str}(h:∀ x∈s,x=43):uT s=[]:=List.filter_eq_nil_iff.2 fun c hc=>by simp [h c hc]
theorem rpl(hN:bq E)(hF:qV E)(hS:SpE E)(hX:sy M)(hB:s4 E){s:Str}(hs:s.length≤1000000){H H0:List ag}(N:Nat)(k:List Fra):∀ (m i st:Nat) (b:BL) (He:List ag),i+m=N→N≤1000000→st≤s.length→b.str.length≤st→Lib.countByte (s.drop st) 43=m→(b = .nil→∀ x∈s,x=43) →
  ∃ (st':Nat) (b':BL),st'≤s.length∧b'.str++s.drop st'=b.str++uT (s.drop st)∧b'.str.length≤st'∧(b' = .nil→∀ x∈s,x=43) ∧
   M.go eD H0 (.c kg :: .lp ⟨(some [0,1,2,10,11,52,53]),[],false⟩ kg He :: .blk 0 :: .c (.lv [0,10,11])::k) (kv [(0,.str s),(1,.str [43]),(2,.str []),(10,.ptr H.length 0),(11,.int .i64 st),(52,.int .i64 N),(53,.int .i64 i)]) (b.heap H)=M.go eD H0 k (kv [(0,.str s),(10,.ptr H.length 0),(11,.int .i64 st')]) (b'.heap H)
 |0,i,st,b,He,hi,hN2,hst,hbl,hc,hb=>by
  refine ⟨st,b,hst,by rw [QH hc],hbl,hb, ?_⟩
  have e:i=N:=by omega
  subst e
  rw [aq M kg.eq_1]
  simp (maxSteps:=3000000) (maxDischargeDepth:=6) +contextual -implicitDefEqProofs only [amA M,amB,↓ae,↓aa,↓aj,↓ah,Nat.reduceBEq,Nat.reduceAdd,env,ao,jW,Nat.lt_irrefl]
 |m+1,i,st,b,He,hi,hN2,hst,hbl,hc,hb=>by
  obtain ⟨a,r,h1,h2,h3,h4⟩:=Ik _ _ hc
  have hlen:a.length+(r.length+1)=s.length-st:=by
   have:=congrArg List.length h1
   simpa using this.symm
  have hdr:s.drop (st+a.length+1)=r:=by
   rw [Nat.add_assoc,← List.drop_drop,h1,List.drop_append,List.drop_of_length_le (by omega)]
   simp
  have hta:(s.drop st).take a.length=a:=by rw [h1];simp
  have hbn:b = .nil→a=[]:=fun e=>by
   have:uT a=[]:=OC fun x hx=>hb e x (List.mem_of_mem_drop (by rw [h1];simp [hx]))
   rw [← h2,this]
  have hw1:=PX M hB H b (s:=a) (by omega) hbn
  have hs1:=b.wr_str a hbn
  have hw2:=PX M hB H (b.wr a) (s:=[]) (by rw [hs1];simp;omega) (fun _=>rfl)
  have hs2:=(b.wr a).wr_str [] (fun _=>rfl)
  rw [List.append_nil] at hs2
  have hbb:(b.wr a).wr [] = .nil→∀ x∈s,x=43:=fun e=>hb (BL.wr_nil (BL.wr_nil e))
  obtain ⟨st',b',g1,g2,g3,g4,g5⟩:=rpl hN hF hS hX hB hs (H:=H) (H0:=H0) N k m (i+1) (st+a.length+1) ((b.wr a).wr []) (((b.wr a).wr []).heap H) (by omega) hN2 (by omega) (by rw [hs2,hs1];simp;omega) (by rw [hdr];exact h4) hbb
  refine ⟨st',b',g1, ?_,g3,g4, ?_⟩
  ·rw [g2,hs2,hs1,hdr,h1,Tt,h2,List.append_assoc]
   congr 1
  ·simp only [kv_cons,kv_nil] at g5 ⊢
   rw [← g5]
   have hin:i<N:=by omega
   have hix:=fun H=>PY M hF hS hX (s.drop st) 43 H
   rw [h3] at hix
   have q1:=A6 (s:=s) (k:=.i64) hst
   have q2:=GE (s:=s) (k:=.i64) (k':=.i64) (i:=st) (j:=st+a.length) (by omega) (by omega)
   rw [Nat.add_sub_cancel_left,hta] at q2
   have q3:IntKind.i64.wrap ((st:Int)+(a.length:Int))=((st+a.length:Nat):Int):=by rw [dx (by omega) (by omega)];omega
   have q4:IntKind.i64.wrap (((st+a.length:Nat):Int)+1)=((st+a.length+1:Nat):Int):=by rw [dx (by omega) (by omega)];omega
   have q5:((([43]:Str).length:Nat):Int)=1:=rfl
   rw [aq M kg.eq_1]
   simp (maxSteps:=3000000) (maxDischargeDepth:=6) +contextual -implicitDefEqProofs only [amA M,amB,↓ae,↓aa,↓aj,↓ah,Nat.reduceBEq,Nat.reduceAdd,env,ao,jW,hin,hix,q1,q2,q3,q4,q5,hw1,hw2,bt hin (show N≤aZ by simp only [aZ];omega)]
theorem OD(hN:bq E)(hF:qV E)(hS:SpE E)(hX:sy M)(hY:Kx M)(hB:s4 E){s:Str}(hs:s.length≤1000000)(H:List ag) :
  M.run tm [.str s,.str [43],.str [],.int .i64 (-1)] H=some (.ret (.str (uT s)),H):=by
 rw [aK M hF.strings_Replace rfl (c:=tw) rfl,tw]
 have hct:=fun H=>PZ M hF hY s 43 H
 have q5:((([43]:Str).length:Nat):Int)=1:=rfl
 have q6:(([43]:Str) == [])=false:=rfl
 have q7:((-1:Int) == 0)=false:=rfl
 have q8:decide ((-1:Int)<0)=true:=rfl
 have q9:decide ((0:Int)<1)=true:=rfl
 have z0:((0:Nat):Int)=0:=rfl
 have z1:((1:Nat):Int)=1:=rfl
 have w1:IntKind.i64.wrap (0-1) = -1:=by decide
 generalize hc:Lib.countByte s 43=n at hct
 have hcl:n≤s.length:=by rw [← hc];exact List.count_le_length
 cases hn:(n:Int) == 0 with
 |true=>
  have:n=0:=by have:=eq_of_beq hn;omega
  rw [QH (by rw [hc];exact this)]
  simp (maxSteps:=3000000) (maxDischargeDepth:=6) +contextual -implicitDefEqProofs only [amA M,amB,↓ae,↓aa,↓aj,↓ah,Nat.reduceBEq,Nat.reduceAdd,env,ao,jW,hct,q5,q6,q7,q8,hn]
 |false=>
  have hn0:0<n:=by have:=beq_eq_false_iff_ne.1 hn;omega
  have w2:IntKind.i64.wrap ((n:Int) * -1) = -(n:Int):=by rw [dx (by omega) (by omega)];omega
  have w3:IntKind.i64.wrap ((s.length:Int) + -(n:Int))=((s.length-n:Nat):Int):=by rw [dx (by omega) (by omega)];omega
  have fin:∀ (b:BL) (st:Nat),st≤s.length→b.str.length≤st→b.str++s.drop st=uT s→(b = .nil→∀ x∈s,x=43) →
    M.go eD H [.c (.seq (.seq (.ops [⟨(some 99),none,(.op (.mv (.t 0)))⟩,⟨(some 100),none,(.op (.mv (.t 11)))⟩,⟨(some 101),none,(.op (.sls (.t 99) (some (.t 100)) none))⟩,⟨(some 102),none,(.call (.c (.fn (.func aE) [] [])) [(.t 10),(.t 101)])⟩]) (.lv [10])) (.seq (.ops [⟨(some 103),none,(.call (.c (.fn (.func dn) [] [])) [(.t 10)])⟩,⟨(some 8),none,(.op (.mv (.t 103)))⟩]) .ret))] (s5 (s5 (s5 Env.leaf 11 (.int .i64 st)) 10 (.ptr H.length 0)) 0 (.str s)) (b.heap H)=some (.ret (.str (uT s)),H):=by
   intro b st h1 h2 h3 h4
   have hbn:b = .nil→s.drop st=[]:=fun e=>by
    have h5:=OC (h4 e)
    rw [h5] at h3
    exact (List.append_eq_nil_iff.1 h3).2
   have a1:=PX M hB H b (s:=s.drop st) (by simp;omega) hbn
   have a2:=b.wr_str (s.drop st) hbn
   have a3:=Ts M hB H (b.wr (s.drop st)) (by rw [a2];simp;omega) (fun n e=>by cases b<;>simp [BL.wr] at e)
   rw [a2,h3] at a3
   have q1:=A6 (s:=s) (k:=.i64) h1
   have hcut:∀ b:BL,bU H (b.heap H):=fun b=>by cases b<;>exact cut_app H _
   have htk:∀ b:BL,(b.heap H).take H.length=H:=fun b=>by cases b<;>simp [BL.heap]
   simp (maxSteps:=3000000) (maxDischargeDepth:=6) +contextual -implicitDefEqProofs only [amA M,amB,↓ae,↓aa,↓aj,↓ah,Nat.reduceBEq,Nat.reduceAdd,env,ao,jW,q1,a1,a3,hcut,htk]
  by_cases hg:s.length-n=0
  ·have hall:∀ x∈s,x=43:=by
    have:s.count 43=s.length:=by rw [Lib.countByte] at hc;omega
    exact fun x hx=>((List.count_eq_length.1 this) x hx).symm
   have hgr:=PW M hB hX hF H
   obtain ⟨st',b',g1,g2,g3,g4,g5⟩:=rpl M hN hF hS hX hB hs (H:=H) (H0:=H) n [.c (.seq (.seq (.ops [⟨(some 99),none,(.op (.mv (.t 0)))⟩,⟨(some 100),none,(.op (.mv (.t 11)))⟩,⟨(some 101),none,(.op (.sls (.t 99) (some (.t 100)) none))⟩,⟨(some 102),none,(.call (.c (.fn (.func aE) [] [])) [(.t 10),(.t 101)])⟩]) (.lv [10])) (.seq (.ops [⟨(some 103),none,(.call (.c (.fn (.func dn) [] [])) [(.t 10)])⟩,⟨(some 8),none,(.op (.mv (.t 103)))⟩]) .ret))] n 0 0 .nil (H++[rZ (.ptr H.length 0) (.slice .nil 1 [])]) (by omega) (by omega) (Nat.zero_le _) (Nat.le_refl _) hc (fun _=>hall)
   have g6:=fin b' st' g1 g3 g2 g4
   simp only [kv_cons,kv_nil,Int.ofNat_zero,OB,Mc] at g5
   rw [hg,z0] at w3
   rw [← g6,← g5]
   simp (maxSteps:=3000000) (maxDischargeDepth:=6) +contextual -implicitDefEqProofs only [amA M,amB,↓ae,↓aa,↓aj,↓ah,Nat.reduceBEq,Nat.reduceAdd,env,ao,jW,amG,AV.cell,Nat.reduceMul,Nat.reduceLeDiff,hct,z0,z1,q5,q6,q7,q8,q9,hn,w1,w2,w3,hgr]
  ·have hgr:=RK M hB hX hF hY H (n:=s.length-n) (by omega) (by omega)
   obtain ⟨st',b',g1,g2,g3,g4,g5⟩:=rpl M hN hF hS hX hB hs (H:=H) (H0:=H) n [.c (.seq (.seq (.ops [⟨(some 99),none,(.op (.mv (.t 0)))⟩,⟨(some 100),none,(.op (.mv (.t 11)))⟩,⟨(some 101),none,(.op (.sls (.t 99) (some (.t 100)) none))⟩,⟨(some 102),none,(.call (.c (.fn (.func aE) [] [])) [(.t 10),(.t 101)])⟩]) (.lv [10])) (.seq (.ops [⟨(some 103),none,(.call (.c (.fn (.func dn) [] [])) [(.t 10)])⟩,⟨(some 8),none,(.op (.mv (.t 103)))⟩]) .ret))] n 0 0 (.room (s.length-n)) (H++[rZ (.ptr H.length 0) (.rslice (H.length+1) 0 0 1 true),.cells (List.replicate (s.length-n) .unk) dN]) (by omega) (by omega) (Nat.zero_le _) (Nat.le_refl _) hc (fun e=>by cases e)
   have g6:=fin b' st' g1 g3 g2 g4
   simp only [kv_cons,kv_nil,Int.ofNat_zero,OB,Mc] at g5
   rw [← g6,← g5]
   simp (maxSteps:=3000000) (maxDischargeDepth:=6) +contextual -implicitDefEqProofs only [amA M,amB,↓ae,↓aa,↓aj,↓ah,Nat.reduceBEq,Nat.reduceAdd,env,ao,jW,amG,AV.cell,Nat.reduceMul,Nat.reduceLeDiff,hct,z0,z1,q5,q6,q7,q8,q9,hn,w1,w2,w3,hgr]
theorem Ky(hN:bq E)(hF:qV E)(hS:SpE E)(hX:sy M)(hY:Kx M)(hB:s4 E){s:Str}(hs:s.length≤1000000)(H:List ag) :
  M.run qt [.str s,.str [43],.str []] H=some (.ret (.str (uT s)),H):=by
 rw [aK M hF.strings_ReplaceAll rfl (c:=qz) rfl,qz]
 simp (maxSteps:=3000000) (maxDischargeDepth:=6) +contextual -implicitDefEqProofs only [amA M,amB,↓ae,↓aa,↓aj,↓ah,Nat.reduceBEq,Nat.reduceAdd,env,ao,Dd,OD M hN hF hS hX hY hB hs]
end
end Go.Am
