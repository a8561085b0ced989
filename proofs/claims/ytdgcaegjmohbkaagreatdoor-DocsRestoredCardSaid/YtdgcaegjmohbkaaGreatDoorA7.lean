import Derived.Test.YtdgcaegjmohbkaaGreatDoorA6
import Derived.Lib.Bytealg
import Derived.Test.YtdgcaegjmohbkaaGreatDoorChecked
import Derived.Shelf.Unicode.DecodeAny
import Derived.Lib.LaidU8T
import Derived.KernelRfl
/-
  Part 7 of the tool: an abstract machine over the model, proved sound, and what it says of the functions that the law reaches. Condition: none but those that each theorem names.
-/
set_option linter.unusedVariables false
set_option linter.unusedSimpArgs false
set_option maxRecDepth 100000
set_option maxHeartbeats 4000000
namespace Go.Am
open Go.RowKit
section
attribute [local congr] aA bo aM aC aL aG aD aq au aH aI
variable{E:bb}(M:bO bU E)
end
section
attribute [local congr] aA bo aM aC aL aG aD aq au aH aI
variable{E:bb}(M:bO bU E)
def DV(a b:List aw):Prop:=a.length=b.length∧∀ (i:Nat) (x y:aw),a[i]?=some x→b[i]?=some y→x.kind=y.kind∧x.pieces.l=y.pieces.l∧x.pieces.l.length≤bH
theorem sml(hB:kY E){a b:List aw}(hab:DV a b)(hl:a.length≤bH){ta tb:Tag}{p q:Nat}{H H0:List AObj}(hp:H[p]?=some (.cells [.slice ta 2 (a.map aw.row)] ag))(hq:H[q]?=some (.cells [.slice tb 2 (b.map aw.row)] ag))(k:List Fra):∀ (n i:Nat) (He:List AObj),i+n=a.length →
  M.go eV H0 (.c eA :: .lp ⟨(some [2,3,5]),[],false⟩ eA He :: .blk 0 :: .c (.lv [])::k) (kv [(2,.ptr p 0),(3,.ptr q 0),(5,.int .i64 i)]) H=M.go eV H0 k (kv []) H
 |0,i,He,h=>by
  have e:¬ i<a.length:=by omega
  have l1:∀ x:AV,bh none [x] 0=some x:=fun _=>rfl
  rw [ak M eA.eq_1];simp (maxSteps:=3000000) (maxDischargeDepth:=6) +contextual -implicitDefEqProofs only [amC M,↓amD,Nat.reduceBEq,Nat.reduceAdd,env,aj,jD,hp,l1,e,List.length_map]
 |n+1,i,He,h=>by
  have hi:i<a.length:=by omega
  have hib:i<b.length:=by rw [← hab.1];exact hi
  have l1:∀ x:AV,bh none [x] 0=some x:=fun _=>rfl
  have hx:a[i]?=some a[i]:=List.getElem?_eq_getElem hi;have hy:b[i]?=some b[i]:=List.getElem?_eq_getElem hib;obtain ⟨e1,e2,e3⟩:=hab.2 i _ _ hx hy;have hwi:=cV (n:=a.length) hi hl;have ira:=a8 (row:=aw.row) (tag:=ta) (sz:=2) (k:=.i64) hi;have irb:=a8 (row:=aw.row) (tag:=tb) (sz:=2) (k:=.i64) hib;have hs:=fun H=>BM M hB (l:=a[i].pieces.l) (ta:=a[i].pieces.tag) (tb:=b[i].pieces.tag) e3 H
  rw [show List.map ae.row a[i].pieces.l=List.map ae.row b[i].pieces.l by rw [e2]] at hs;have hkd:(a[i].kind == b[i].kind)=true:=by rw [e1];simp
  have hrow:List.map ae.row a[i].pieces.l=List.map ae.row b[i].pieces.l:=by rw [e2]
  have ih:=fun He=>sml hB hab hl hp hq (H0:=H0) k n (i+1) He (by omega)
  simp only [kv_cons,kv_nil] at ih;rw [ak M eA.eq_1];simp (maxSteps:=3000000) (maxDischargeDepth:=6) +contextual -implicitDefEqProofs only [amC M,↓amD,Nat.reduceBEq,Nat.reduceAdd,env,aj,jD,hp,hq,l1,hi,hib,hx,hy,hwi,ira,irb,dD,hkd,hrow,hs,ih,Bool.not_true,List.length_map]
theorem Np(hB:kY E)(hS:u6 E){a b:Docu}(hab:DV a.blocks.l b.blocks.l)(hl:a.blocks.l.length≤bH)(H:List AObj):M.run eT [.agg a.row,.agg b.row] H=some (.ret (.bool true),H):=by
 have g0:∀ X,(H++AObj.cells a.row ag::X)[H.length]?=some (AObj.cells a.row ag):=fun X=>by rw [aJ];rfl
 have g1:(H++[AObj.cells a.row ag,AObj.cells b.row ag])[H.length+1]?=some (AObj.cells b.row ag):=by rw [hp_getk];rfl
 have h1:=fun k He=>sml M hB hab hl (ta:=a.blocks.tag) (tb:=b.blocks.tag) (H:=H++[AObj.cells a.row ag,AObj.cells b.row ag]) (H0:=H) (p:=H.length) (q:=H.length+1) (g0 _) g1 k a.blocks.l.length 0 He (by omega)
 simp only [kv_cons,kv_nil,Int.ofNat_zero] at h1;have hq:(a.blocks.l.length == b.blocks.l.length)=true:=by rw [hab.1];simp
 have hq2:(((a.blocks.l.length:Nat):Int) == ((b.blocks.l.length:Nat):Int))=true:=by rw [hab.1];simp
 rw [bI M hS.truchmanref01_Same rfl (c:=jC) rfl,jC];simp (maxSteps:=3000000) (maxDischargeDepth:=6) +contextual -implicitDefEqProofs only [amC M,↓amD,Nat.reduceBEq,Nat.reduceAdd,env,aj,jD,amG,AV.cell,Nat.reduceMul,Nat.reduceLeDiff,g0,g1,kp,List.length_map,hq,hq2,Bool.not_true,h1,hp_take,cut_app]
end
section
attribute [local congr] aA bo aM aC aL aG aD aq au aH aI
variable{E:bb}(M:bO bU E)
def Hf(bl:List aw)(k:Int):Bool:=match bl[k.toNat]? with
 |some b=>b.kind == 6
 |none=>false
def u7(bl:List aw)(prev:Option Int)(s:bk):Bool:=
 decide (s.block<0)||(decide ((bl.length:Int)≤s.block)||(Hf bl s.block||(match prev with
  |none=>false
  |some q=>decide (s.block<q))))
def qA(bl:List aw):Option Int→List bk→Bool
 |_,[]=>false
 |prev,s::t=>u7 bl prev s||qA bl (some s.block) t
def zI(l:List bk)(i:Nat):Option Int:=match i with
 |0=>none
 |i+1=>(l[i]?).map (·.block)
theorem JU{H0 H:List AObj}(hc:db H0 H)(e:Int):mb bU .deep H0 H (.tuple [.agg [.slice .nil 2 []],.int .u8 e])=some (.tuple [.agg [.slice .nil 2 []],.int .u8 e],H.take H0.length):=by
 rw [kB hc ⟨6,oU (b9 (Mx (b9 (pX (t:=.nil) (dE _)) (dE _))) (b9 (vw _ _ _ _ _) (dE _)))⟩];rfl
end
section
attribute [local congr] aA bo aM aC aL aG aD aq au aH aI
variable{E:bb}(M:bO bU E)
def ofB(k:Int)(l:List bk):Bool:=l.any fun s=>s.block == k
def B7(sl:List bk):Nat→List aw→Bool
 |_,[]=>false
 |i,b::t => !((b.kind == 6)||ofB (i:Int) sl)||B7 sl (i+1) t
end
section
attribute [local congr] aA bo aM aC aL aG aD aq au aH aI
variable{E:bb}(M:bO bU E)
def prt(s:bk):Sl ae:=⟨s.pieces.tag.strip,s.pieces.l⟩
def bq(k:Int)(l:List bk):List (Sl ae):=(l.filter fun s=>s.block == k).map prt
theorem gD(k:Int)(s:bk)(l:List bk):bq k (s::l)=sel (s.block == k) [prt s] []++bq k l:=by
 unfold bq;rw [List.filter_cons];cases s.block == k<;>rfl
theorem Hg(t:Tag):t.strip.strip=t.strip:=by cases t<;>rfl
end
section
attribute [local congr] aA bo aM aC aL aG aD aq au aH aI
variable{E:bb}(M:bO bU E)
def Sl.kn{α:Type}(s:Sl α):Prop:=s.tag = .nil∧s.l=[]∨s.tag = .some
theorem Hh(sz:Nat)(r:List (List AV)):req .sl (.slice .some sz r) (.slice .nil 0 [])=some false:=by cases r<;>rfl
theorem Nq(sz:Nat):req .sl (.slice .nil sz []) (.slice .nil 0 [])=some true:=rfl
theorem PF(m:Bool)(H:List AObj)(e:TypeId)(sz bytes:Nat)(hb:bytes≤100000):rap false H e sz bytes false (.slice .full sz []) (.slice .some sz [])=some (.slice .full sz [],H):=by
 simp [rap,qL,kQ,mq]
theorem Fj{α:Type}{row:α→List AV}{sz:Nat}:∀ (m:List α),(∀ x∈m,(row x).length=sz∧(row x).all AV.cell=true)→mq sz (m.map row)=true
 |[],_=>rfl
 |x::m,h=>by
  have h1:=h x (by simp);have h2:=Fj m fun y hy=>h y (by simp [hy])
  simp only [mq,List.map_cons,List.all_cons,Bool.and_eq_true] at h2 ⊢;exact ⟨⟨by simpa using h1.1,h1.2⟩,h2⟩
theorem vT{α:Type}{row:α→List AV}:∀ (m:List α),(∀ x∈m,(row x).map AV.strip=row x)→(m.map row).map (·.map AV.strip)=m.map row
 |[],_=>rfl
 |x::m,h=>by
  simp only [List.map_cons];rw [h x (by simp),← List.map_cons];exact congrArg _ (vT m fun y hy=>h y (by simp [hy]))
theorem PG{α:Type}{row:α→List AV}{m:List α}{tg:Tag}{sz bytes:Nat}{e:TypeId}(H:List AObj)(h0:m≠[])(hm:∀ x∈m,(row x).length=sz∧(row x).all AV.cell=true)(hs:∀ x∈m,(row x).map AV.strip=row x)
  (hl:m.length*bytes≤140737488355328) (hl2:m.length≤4611686018427387904) :
  rap false H e sz bytes false (.slice .full sz []) (.slice tg sz (m.map row))=some (.slice (.own H.length) sz (m.map row),H++[.tok (m.length*sz) e]):=by
 have hr:=Fj m hm;have h3:=vT m hs;simp only [rap,qL,kQ,if_true,List.length_map,List.length_nil,Nat.zero_add,true_or,or_true,hl,hl2,hr,and_true,true_and];cases m with
 |nil=>exact absurd rfl h0
 |cons x m=>
  simp only [List.map_cons] at h3 ⊢;simp only [or_true,if_true,List.length_cons,List.length_map,h3,List.nil_append] at hl hl2 hr ⊢
theorem Hi(hS:u6 E){s:Sl ae}(hs:s.kn)(hn:s.l.length≤1000000)(H:List AObj):M.run dJ [.slice s.tag 3 (s.l.map ae.row)] H=some (.ret (.slice .any 3 (s.l.map ae.row)),H):=by
 rw [bI M hS.slices_Clone_api_Piece_api_Piece rfl (c:=dM) rfl,dM];obtain ⟨tg,l⟩:=s;simp only [Sl.kn] at hs hn ⊢;rcases hs with ⟨rfl,rfl⟩ | rfl
 ·simp (maxSteps:=3000000) (maxDischargeDepth:=6) +contextual -implicitDefEqProofs only [amC M,↓amD,Nat.reduceBEq,Nat.reduceAdd,env,aj,dO,Nq,Option.map_some,fI]
 ·cases l with
  |nil=>
   have ap0:=fun H=>PF false H ah 3 32 (by decide)
   simp (maxSteps:=3000000) (maxDischargeDepth:=6) +contextual -implicitDefEqProofs only [amC M,↓amD,Nat.reduceBEq,Nat.reduceAdd,env,aj,dO,amG,AV.cell,Nat.reduceMul,Nat.reduceLeDiff,Hh,Option.map_some,ap0,fI]
  |cons x l=>
   have hw:=fun n=>M1 n (x::l)
   have ap:=PG (row:=ae.row) (m:=x::l) (tg:=.some) (sz:=3) (bytes:=32) (e:=ah) H (by simp) (fun _ _=>⟨rfl,rfl⟩) (fun _ _=>rfl) (by omega) (by omega);generalize x::l=m at hw ap;simp only [rowsWk_map] at hw;simp (maxSteps:=3000000) (maxDischargeDepth:=6) +contextual -implicitDefEqProofs only [amC M,↓amD,Nat.reduceBEq,Nat.reduceAdd,env,aj,dO,amG,AV.cell,Nat.reduceMul,Nat.reduceLeDiff,Hh,Option.map_some,ap,hw,implies_true,cut_app]
end
section
attribute [local congr] aA bo aM aC aL aG aD aq au aH aI
variable{E:bb}(M:bO bU E)
def Nr(H:List AObj)(v:AV)(l:List (Sl ae)):Prop:=(l=[]∧∃ z,v = .slice .nil z [])∨∃ t,v = .slice (.own t) 1 (l.map fq)∧H[t]?=some (.tok (l.length*1) al)
structure nN (R:Nat→Prop) (H:List AObj) (P n:Nat) (f:Nat→List (Sl ae)) (vs:List AV):Prop where
 hP:¬ R P
 cell:H[P]?=some (.cells vs aY)
 len:vs.length=n
 own:∀ (k:Nat) (v:AV),vs[k]?=some v→Nr H v (f k)
 ne:∀ (i j t:Nat) (r s:List (List AV)),vs[i]?=some (.slice (.own t) 1 r)→vs[j]?=some (.slice (.own t) 1 s)→i=j
 fr:∀ (k t:Nat) (r:List (List AV)),vs[k]?=some (.slice (.own t) 1 r)→¬ R t
theorem Nr.len{H G:List AObj}{v:AV}{l:List (Sl ae)}(h:Nr H v l):qh G .sl v=some (.int .i64 (l.length:Int)):=by
 rcases h with ⟨rfl,z,rfl⟩ | ⟨t,rfl,_⟩
 ·rfl
 ·simp only [qh,List.length_map]
theorem nN.app{R:Nat→Prop}{H:List AObj}{P n:Nat}{f:Nat→List (Sl ae)}{vs:List AV}(h:nN R H P n f vs)(X:List AObj):nN R (H++X) P n f vs:=
 ⟨h.hP,bD h.cell,h.len,fun k v hv=>by
  rcases h.own k v hv with h1 | ⟨t,h1,h2⟩
  ·exact .inl h1
  ·exact .inr ⟨t,h1,bD h2⟩,h.ne,h.fr⟩
theorem Nr.push{H:List AObj}{v:AV}{l:List (Sl ae)}(h:Nr H v l)(hb:l.length≤1000000){x:Sl ae}{r:List AV}(h1:r.length=1)(h2:r.all AV.cell=true)(h3:r.map AV.strip=fq x) :
  ∃ t G,rap false H al 1 24 false v (.slice .full 1 [r])=some (.slice (.own t) 1 ((l++[x]).map fq),G)∧G[t]?=some (.tok ((l++[x]).length*1) al)∧(t=H.length∨v = .slice (.own t) 1 (l.map fq))∧H.length≤G.length∧∀ i,i<H.length→i≠t→G[i]?=H[i]? := by
 rcases h with ⟨rfl,z,rfl⟩ | ⟨t,rfl,hg⟩
 ·refine ⟨H.length,H++[.tok 1 al], ?_,by rw [aJ];rfl,.inl rfl,by simp,fun i hi _=>List.getElem?_append_left hi⟩
  simp [rap,qL,kQ,kC h1 h2,h3]
 ·have hlt:=bZ hg
  refine ⟨t,H.set t (.tok ((l++[x]).length*1) al), ?_,List.getElem?_set_self hlt,.inr rfl,by simp,fun i _ hi=>List.getElem?_set_ne hi.symm⟩;have e1:(l.length+1)*24≤140737488355328:=by omega
  have e2:l.length+1≤4611686018427387904:=by omega
  simp only [rap,qL,kQ,List.length_map,List.length_cons,List.length_nil,Nat.zero_add,or_true,if_true,e1,e2,kC h1 h2,and_true,true_and,hg,List.map_cons,List.map_nil,h3,List.map_append,List.length_append,Nat.add_mul,Nat.one_mul,Nat.mul_one];rw [Nat.add_mul,Nat.one_mul] at e1;rw [if_pos e1]
theorem nN.push{R:Nat→Prop}{H:List AObj}{P n:Nat}{f:Nat→List (Sl ae)}{vs:List AV}(h:nN R H P n f vs)(hR:∀ i,R i→i<H.length){k:Nat}{v:AV}(hv:vs[k]?=some v)(hb:(f k).length≤1000000){x:Sl ae}{r:List AV}(h1:r.length=1)(h2:r.all AV.cell=true)(h3:r.map AV.strip=fq x) :
  ∃ w G,rap false H al 1 24 false v (.slice .full 1 [r])=some (w,G)∧G[P]?=some (.cells vs aY)∧(∃ t q,w = .slice (.own t) 1 q)∧nN R (G.set P (.cells (vs.set k w) aY)) P n (fun j=>if j=k then f k++[x] else f j) (vs.set k w)∧H.length≤G.length∧∀ i,R i→(G.set P (.cells (vs.set k w) aY))[i]?=H[i]? := by
 obtain ⟨t,G,a1,a2,a3,a4,a5⟩:=(h.own k v hv).push hb h1 h2 h3;have hPl:=bZ h.cell;have hk:k<vs.length:=(List.getElem?_eq_some_iff.1 hv).1
 have tP:∀ (j u:Nat) (s:List (List AV)),vs[j]?=some (.slice (.own u) 1 s)→u<H.length∧u≠P:=fun j u s hj=>by
  rcases h.own j _ hj with ⟨_,_,e⟩ | ⟨t',e,hg⟩
  ·cases e
  ·cases e
   exact ⟨bZ hg,fun e=>by subst e;rw [h.cell] at hg;cases hg⟩
 have tnP:t≠P:=by
  rcases a3 with rfl | e
  ·omega
  ·exact (tP k t _ (by rw [hv,e])).2
 have gP:G[P]?=some (.cells vs aY):=by rw [a5 P hPl tnP.symm];exact h.cell
 have tR:¬ R t:=by
  rcases a3 with rfl | e
  ·intro hr;have:=hR _ hr;omega
  ·exact h.fr k t _ (by rw [hv,e])
 have oth:∀ (j u:Nat) (s:List (List AV)),j≠k→vs[j]?=some (.slice (.own u) 1 s)→u≠t:=fun j u s hj hs e=>by
  subst e;rcases a3 with e | e
  ·have:=(tP j _ s hs).1;omega
  ·exact hj (h.ne j k _ s _ hs (by rw [hv,e]))
 refine ⟨_,G,a1,gP,⟨t,_,rfl⟩,⟨h.hP,List.getElem?_set_self (by omega),by simpa using h.len,fun j w hj => ?_,fun i j u r1 s1 hi hj => ?_,fun j u r1 hj => ?_⟩,a4,fun i hi => ?_⟩
 ·by_cases hjk:j=k
  ·subst hjk
   rw [List.getElem?_set_self hk] at hj;cases hj;simp only [if_true];exact .inr ⟨t,rfl,by rw [List.getElem?_set_ne tnP.symm];exact a2⟩
  ·rw [List.getElem?_set_ne (fun e=>hjk e.symm)] at hj
   simp only [if_neg hjk];rcases h.own j w hj with e | ⟨u,e1,e2⟩
   ·exact .inl e
   ·have z:=tP j u _ (by rw [hj,e1])
    exact .inr ⟨u,e1,by rw [List.getElem?_set_ne z.2.symm,a5 u z.1 (oth j u _ hjk (by rw [hj,e1]))];exact e2⟩
 ·by_cases hik:i=k
  ·by_cases hjk:j=k
   ·rw [hik,hjk]
   ·subst hik
    rw [List.getElem?_set_self hk] at hi;rw [List.getElem?_set_ne (fun e=>hjk e.symm)] at hj;cases hi;exact absurd rfl (oth j _ _ hjk hj)
  ·rw [List.getElem?_set_ne (fun e=>hik e.symm)] at hi
   by_cases hjk:j=k
   ·subst hjk
    rw [List.getElem?_set_self hk] at hj;cases hj;exact absurd rfl (oth i _ _ hik hi)
   ·rw [List.getElem?_set_ne (fun e=>hjk e.symm)] at hj
    exact h.ne i j u _ _ hi hj
 ·by_cases hjk:j=k
  ·subst hjk
   rw [List.getElem?_set_self hk] at hj;cases hj;exact tR
  ·rw [List.getElem?_set_ne (fun e=>hjk e.symm)] at hj
   exact h.fr j u _ hj
 ·rw [List.getElem?_set_ne (show P≠i from fun e=>h.hP (by rw [e];exact hi)),a5 i (hR i hi) (fun e=>tR (by rw [← e];exact hi))]
end
section
attribute [local congr] aA bo aM aC aL aG aD aq au aH aI
variable{E:bb}(M:bO bU E)
def yS(f:Nat→List (Sl ae)):Nat→List aw→Bool
 |_,[]=>false
 |i,b::t=>(!(b.kind == 6)&&decide ((f i).length=0))||yS f (i+1) t
theorem dr1{bl:List aw}{tg:Tag}(hbl:bl.length≤1000000){H0:List AObj}{P r:Nat}{f:Nat→List (Sl ae)}{vs:List AV}{v2:AV}:∀ (n i:Nat) (G:List AObj),i+n=bl.length→nN (fun j=>j<H0.length) G P bl.length f vs→G[r]?=some (.cells [.slice .nil 2 []] ag)→H0.length≤G.length→(∀ m,m<H0.length→G[m]?=H0[m]?) →
  ∃ G',(∀ (k:List Fra) (He:List AObj),M.go ct H0 (.c eM :: .lp ⟨(some [2,4,7,86,87,88]),[],false⟩ eM He :: .blk 2 :: .c (.lv [2,4,7])::k) (kv [(2,v2),(4,.ptr r 0),(7,.rslice P 0 bl.length 1 true),(86,.slice tg 2 (bl.map aw.row)),(87,.int .i64 bl.length),(88,.int .i64 i)]) G =
   sel (yS f i (bl.drop i)) (some (.ret (.tuple [.agg [.slice .nil 2 []],.int .u8 1]),H0)) (M.go ct H0 k (kv [(2,v2),(4,.ptr r 0),(7,.rslice P 0 bl.length 1 true)]) G'))∧(∃ X,G'=G++X)
 |0,i,G,h,hp,hr,hl,hlow=>by
  have e:i=bl.length:=by omega
  subst e;refine ⟨G,fun k He => ?_,[],by simp⟩;rw [List.drop_length,yS,sel_false];rw [ak M eM.eq_1];simp (maxSteps:=3000000) (maxDischargeDepth:=6) +contextual -implicitDefEqProofs only [amC M,↓amD,Nat.reduceBEq,Nat.reduceAdd,env,aj,aW,Nat.lt_irrefl]
 |n+1,i,G,h,hp,hr,hl,hlow=>by
  have hi:i<bl.length:=by omega
  have hx:bl[i]?=some bl[i]:=List.getElem?_eq_getElem hi;have hd:(bl.drop i)=bl[i]::bl.drop (i+1):=List.drop_eq_getElem_cons hi;have hwi:=cV (n:=bl.length) hi (by simp only [bH];omega);have hir:=a8 (row:=aw.row) (tag:=tg) (sz:=2) (k:=.i64) hi;have hia:=mV (id:=P) hi .i64;have hiv:i<vs.length:=by rw [hp.len];exact hi
  have hv:vs[i]?=some vs[i]:=List.getElem?_eq_getElem hiv;have hld:bh none vs i=some vs[i]:=by simp only [bh,hv]
  have hln:=fun G=>(hp.own i _ hv).len (G:=G)
  have gx:=aJ G [AObj.cells bl[i].row aU];rw [List.getElem?_cons_zero] at gx;have hP1:∀ X,(G++X)[P]?=_:=fun X=>bD hp.cell
  have hr1:∀ X,(G++X)[r]?=_:=fun X=>bD hr
  have low1:∀ m,m<H0.length→(G++[AObj.cells bl[i].row aU])[m]?=H0[m]? := fun m hm=>by rw [List.getElem?_append_left (by omega),hlow m hm]
  obtain ⟨hct,htk⟩:=qc (show H0.length≤(G++[AObj.cells bl[i].row aU]).length by simp;omega) low1;obtain ⟨G2,i1,X,hX⟩:=dr1 hbl (tg:=tg) (v2:=v2) n (i+1) (G++[AObj.cells bl[i].row aU]) (by omega) (hp.app _) (hr1 _) (by simp;omega) low1;have hst:=stO_cells (sz:=1) (H:=G++[AObj.cells bl[i].row aU]) (id:=r) (off:=0) (cs:=[.slice .nil 2 []]) (T:=ag) (old:=[.slice .nil 2 []]) rfl (by simp) rfl;have hss:aX [AV.slice .nil 2 []] 0 [.slice .nil 2 []]=[.slice .nil 2 []]:=rfl
  rw [hss] at hst
  have hself:(G++[AObj.cells bl[i].row aU]).set r (.cells [.slice .nil 2 []] ag)=G++[AObj.cells bl[i].row aU]:=by
   refine List.ext_getElem? fun j => ?_
   by_cases hj:j=r
   ·subst hj;rw [List.getElem?_set_self (bZ (hr1 _)),hr1]
   ·rw [List.getElem?_set_ne (fun e=>hj e.symm)]
  rw [hself] at hst;have hh:=JU hct 1;rw [htk] at hh;refine ⟨G2,fun k He => ?_,AObj.cells bl[i].row aU::X,by rw [hX];simp⟩;have i2:=i1 k;simp only [kv_cons,kv_nil] at i2;rw [hd,yS];cases c1:bl[i].kind == 6 with
  |true=>
   rw [Bool.not_true,Bool.false_and,Bool.false_or];rw [ak M eM.eq_1];simp (maxSteps:=3000000) (maxDischargeDepth:=6) +contextual -implicitDefEqProofs only [amC M,↓amD,Nat.reduceBEq,Nat.reduceAdd,env,aj,aW,amG,AV.cell,Nat.reduceMul,Nat.reduceLeDiff,hi,hx,hir,hwi,dD,gx,c1,i2,Bool.not_true]
  |false=>
   rw [Bool.not_false,Bool.true_and]
   by_cases h0:(f i).length=0
   ·have q0:(((f i).length:Int) == 0)=true:=by rw [h0];rfl
    rw [decide_eq_true h0,Bool.true_or,sel_true];rw [ak M eM.eq_1];simp (maxSteps:=3000000) (maxDischargeDepth:=6) +contextual -implicitDefEqProofs only [amC M,↓amD,Nat.reduceBEq,Nat.reduceAdd,env,aj,aW,amG,AV.cell,Nat.reduceMul,Nat.reduceLeDiff,hi,hx,hir,hwi,dD,gx,c1,hia,hP1,hld,hln,q0,hr1,hst,hss,hself,hh,Bool.not_false]
   ·have q0:(((f i).length:Int) == 0)=false:=beq_eq_false_iff_ne.2 (by omega)
    rw [decide_eq_false h0,Bool.false_or];rw [ak M eM.eq_1];simp (maxSteps:=3000000) (maxDischargeDepth:=6) +contextual -implicitDefEqProofs only [amC M,↓amD,Nat.reduceBEq,Nat.reduceAdd,env,aj,aW,amG,AV.cell,Nat.reduceMul,Nat.reduceLeDiff,hi,hx,hir,hwi,dD,gx,c1,hia,hP1,hld,hln,q0,i2,Bool.not_false]
end
section
attribute [local congr] aA bo aM aC aL aG aD aq au aH aI
variable{E:bb}(M:bO bU E)
theorem B8{bl:List aw}{pv:Option Int}{s:bk} (c4:(match pv with
  |none=>false
  |some q=>decide (s.block<q))=false) (c1:decide (s.block<0)=false) (c2:decide ((bl.length:Int)≤s.block)=false) (c3:Hf bl s.block=false):u7 bl pv s=false:=by
 unfold u7;rw [c1,c2,c3];cases pv with
 |none=>rfl
 |some q=>exact c4
theorem JV(s:bk):[AV.slice s.pieces.tag.strip 3 (s.pieces.l.map ae.row)].map AV.strip=fq (prt s):=by
 rw [List.map_cons,List.map_nil,eS,Hg];rfl
theorem Hk{f:Nat→List (Sl ae)}{q:Nat}{s:bk}(hq:s.block=(q:Int))(l:List bk) :
  (fun j=>(if j=q then f q++[prt s] else f j)++bq (j:Int) l)=fun j=>f j++bq (j:Int) (s::l):=by
 funext j;rw [gD,hq]
 by_cases h:j=q
 ·subst h;rw [if_pos rfl,beq_self_eq_true,sel_true];simp
 ·rw [if_neg h,beq_eq_false_iff_ne.2 (fun e=>h (by omega)),sel_false];rfl
theorem dr0{sl:List bk}{ts tg:Tag}(hsl:sl.length≤1000000){bl:List aw}(hbl:bl.length≤1000000){H0:List AObj}{R:Nat→Prop}(hR0:∀ j,j<H0.length→R j){p r P:Nat}(hRp:R p)(hRr:R r):∀ (n i:Nat) (G:List AObj) (f:Nat→List (Sl ae)) (vs:List AV),i+n=sl.length→(∀ k,(f k).length≤i)→nN R G P bl.length f vs →
  G[p]?=some (.cells [.slice tg 2 (bl.map aw.row)] ag)→G[r]?=some (.cells [.slice .nil 2 []] ag)→(∀ j,R j→j<G.length)→H0.length≤G.length→(∀ m,m<H0.length→G[m]?=H0[m]?) →
  ∃ G' vs',(∀ (k:List Fra) (He:List AObj),M.go ct H0 (.c bc :: .lp ⟨(some [1,2,4,7,27,28,29]),[],false⟩ bc He :: .blk 0 :: .c (.lv [2,4,7])::k) (kv [(1,.slice ts 2 (sl.map bk.row)),(2,.ptr p 0),(4,.ptr r 0),(7,.rslice P 0 bl.length 1 true),(27,.slice ts 2 (sl.map bk.row)),(28,.int .i64 sl.length),(29,.int .i64 i)]) G =
   sel (qA bl (zI sl i) (sl.drop i)) (some (.ret (.tuple [.agg [.slice .nil 2 []],.int .u8 1]),H0)) (M.go ct H0 k (kv [(2,.ptr p 0),(4,.ptr r 0),(7,.rslice P 0 bl.length 1 true)]) G')) ∧
   (qA bl (zI sl i) (sl.drop i)=false→nN R G' P bl.length (fun k=>f k++bq (k:Int) (sl.drop i)) vs'∧G.length≤G'.length∧∀ m,R m→G'[m]?=G[m]?)
 |0,i,G,f,vs,h,hf,hp,hgp,hgr,hRl,hl,hlow=>by
  have e:i=sl.length:=by omega
  subst e;refine ⟨G,vs,fun k He => ?_,fun _=>⟨?_,Nat.le_refl _,fun _ _=>rfl⟩⟩
  ·rw [List.drop_length,qA,sel_false]
   rw [ak M bc.eq_1];simp (maxSteps:=3000000) (maxDischargeDepth:=6) +contextual -implicitDefEqProofs only [amC M,↓amD,Nat.reduceBEq,Nat.reduceAdd,env,aj,aW,Nat.lt_irrefl]
  ·rw [List.drop_length]
   simpa [bq] using hp
 |n+1,i,G,f,vs,h,hf,hp,hgp,hgr,hRl,hl,hlow=>by
  have hi:i<sl.length:=by omega
  have hx:sl[i]?=some sl[i]:=List.getElem?_eq_getElem hi;have hd:(sl.drop i)=sl[i]::sl.drop (i+1):=List.drop_eq_getElem_cons hi;have hwi:=cV (n:=sl.length) hi (by simp only [bH];omega);have hir:=a8 (row:=bk.row) (tag:=ts) (sz:=2) (k:=.i64) hi;have hprv:zI sl (i+1)=some sl[i].block:=by simp [zI,hx]
  rw [hd,qA];generalize hss2:sl[i]=s at *
  have gx:=aJ G [AObj.cells s.row aN];rw [List.getElem?_cons_zero] at gx;have hgp1:∀ X,(G++X)[p]?=_:=fun X=>bD hgp
  have hgr1:∀ X,(G++X)[r]?=_:=fun X=>bD hgr
  have hP1:∀ X,(G++X)[P]?=_:=fun X=>bD hp.cell
  have low1:∀ m,m<H0.length→(G++[AObj.cells s.row aN])[m]?=H0[m]? := fun m hm=>by rw [List.getElem?_append_left (by omega),hlow m hm]
  obtain ⟨hct,htk⟩:=qc (show H0.length≤(G++[AObj.cells s.row aN]).length by simp;omega) low1;have l1:∀ x:AV,bh none [x] 0=some x:=fun _=>rfl
  have hst:=stO_cells (sz:=1) (H:=G++[AObj.cells s.row aN]) (id:=r) (off:=0) (cs:=[.slice .nil 2 []]) (T:=ag) (old:=[.slice .nil 2 []]) rfl (by simp) rfl;have hss:aX [AV.slice .nil 2 []] 0 [.slice .nil 2 []]=[.slice .nil 2 []]:=rfl;rw [hss] at hst
  have hself:(G++[AObj.cells s.row aN]).set r (.cells [.slice .nil 2 []] ag)=G++[AObj.cells s.row aN]:=by
   refine List.ext_getElem? fun j => ?_
   by_cases hj:j=r
   ·subst hj;rw [List.getElem?_set_self (bZ (hgr1 _)),hgr1]
   ·rw [List.getElem?_set_ne (fun e=>hj e.symm)]
  rw [hself] at hst;have hh:=JU hct 1;rw [htk] at hh
  have bad:∀ (hb:u7 bl (zI sl i) s=true),(∀ (k:List Fra) (He:List AObj),M.go ct H0 (.c bc :: .lp ⟨(some [1,2,4,7,27,28,29]),[],false⟩ bc He :: .blk 0 :: .c (.lv [2,4,7])::k) (kv [(1,.slice ts 2 (sl.map bk.row)),(2,.ptr p 0),(4,.ptr r 0),(7,.rslice P 0 bl.length 1 true),(27,.slice ts 2 (sl.map bk.row)),(28,.int .i64 sl.length),(29,.int .i64 i)]) G=some (.ret (.tuple [.agg [.slice .nil 2 []],.int .u8 1]),H0))→∃ G' vs',(∀ (k:List Fra) (He:List AObj),M.go ct H0 (.c bc :: .lp ⟨(some [1,2,4,7,27,28,29]),[],false⟩ bc He :: .blk 0 :: .c (.lv [2,4,7])::k) (kv [(1,.slice ts 2 (sl.map bk.row)),(2,.ptr p 0),(4,.ptr r 0),(7,.rslice P 0 bl.length 1 true),(27,.slice ts 2 (sl.map bk.row)),(28,.int .i64 sl.length),(29,.int .i64 i)]) G =
    sel (u7 bl (zI sl i) s||qA bl (some s.block) (sl.drop (i+1))) (some (.ret (.tuple [.agg [.slice .nil 2 []],.int .u8 1]),H0)) (M.go ct H0 k (kv [(2,.ptr p 0),(4,.ptr r 0),(7,.rslice P 0 bl.length 1 true)]) G')) ∧
    ((u7 bl (zI sl i) s||qA bl (some s.block) (sl.drop (i+1)))=false→nN R G' P bl.length (fun k=>f k++bq (k:Int) (s::sl.drop (i+1))) vs'∧G.length≤G'.length∧∀ m,R m→G'[m]?=G[m]?):=fun hb hgo=>
   ⟨G,vs,fun k He=>by rw [hb,Bool.true_or,sel_true];exact hgo k He,fun e=>by rw [hb] at e;cases e⟩
  cases i with
  |zero=>
   have d3:decide ((0:Int)<((0:Nat):Int))=false:=rfl;cases c1:decide (s.block<0) with
   |true=>
    refine bad (by unfold u7;rw [c1];rfl) fun k He => ?_
    rw [ak M bc.eq_1];simp (maxSteps:=3000000) (maxDischargeDepth:=6) +contextual -implicitDefEqProofs only [amC M,↓amD,Nat.reduceBEq,Nat.reduceAdd,env,aj,aW,amG,AV.cell,Nat.reduceMul,Nat.reduceLeDiff,hi,hx,hss2,hir,hwi,oV,gx,d3,hgp1,hgr1,l1,dD,c1,hst,hss,hself,List.length_map,hh]
   |false=>
   cases c2:decide ((bl.length:Int)≤s.block) with
   |true=>
    refine bad (by unfold u7;rw [c2];simp) fun k He => ?_
    rw [ak M bc.eq_1];simp (maxSteps:=3000000) (maxDischargeDepth:=6) +contextual -implicitDefEqProofs only [amC M,↓amD,Nat.reduceBEq,Nat.reduceAdd,env,aj,aW,amG,AV.cell,Nat.reduceMul,Nat.reduceLeDiff,hi,hx,hss2,hir,hwi,oV,gx,d3,hgp1,hgr1,l1,dD,c1,c2,hst,hss,hself,List.length_map,hh]
   |false=>
   have z1:=of_decide_eq_false c1;have z2:=of_decide_eq_false c2;obtain ⟨q,hq⟩:∃ q:Nat,s.block=(q:Int):=⟨s.block.toNat,by omega⟩
   have hqb:q<bl.length:=by omega
   have hxq:bl[q]?=some bl[q]:=List.getElem?_eq_getElem hqb;have hirq:=a8 (row:=aw.row) (tag:=tg) (sz:=2) (k:=.i64) hqb;have hkd:Hf bl s.block=(bl[q].kind == 6):=by unfold Hf;rw [hq,Int.toNat_natCast,hxq]
   have l4:bh none (bk.row s) 0=some (.int .i64 (q:Int)):=by rw [← hq];rfl
   rw [hq] at c1 c2;have d5:decide (bl.length≤q)=false:=decide_eq_false (by omega);cases c3:bl[q].kind == 6 with
   |true=>
    refine bad (by unfold u7;rw [hkd,c3];simp) fun k He => ?_
    rw [ak M bc.eq_1];simp (maxSteps:=3000000) (maxDischargeDepth:=6) +contextual -implicitDefEqProofs only [amC M,↓amD,Nat.reduceBEq,Nat.reduceAdd,env,aj,aW,amG,AV.cell,Nat.reduceMul,Nat.reduceLeDiff,hi,hx,hss2,hir,hwi,oV,gx,d3,hgp1,hgr1,l1,dD,l4,hq,c1,c2,d5,hxq,hirq,hqb,c3,hst,hss,hself,List.length_map,hh]
   |false=>
   have hbf:u7 bl (zI sl 0) s=false:=B8 rfl (by rw [hq];exact c1) (by rw [hq];exact c2) (by rw [hkd];exact c3);have hqv:q<vs.length:=by rw [hp.len];exact hqb
   have hv:vs[q]?=some vs[q]:=List.getElem?_eq_getElem hqv;obtain ⟨w,G2,m1,m2,⟨tw,qw,hw⟩,m4,m5,m6⟩:=(hp.app [AObj.cells s.row aN]).push (fun j hj=>by have:=hRl j hj;simp;omega) hv (by have:=hf q;omega) (x:=prt s) (r:=[.slice s.pieces.tag.strip 3 (s.pieces.l.map ae.row)]) rfl rfl (JV s);have hlen1:(G++[AObj.cells s.row aN]).length=G.length+1:=by simp
   have low2:∀ m,R m→(G2.set P (.cells (vs.set q w) aY))[m]?=G[m]? := fun m hm=>by rw [m6 m hm,List.getElem?_append_left (hRl m hm)]
   obtain ⟨G3,vs3,i1,i2⟩:=dr0 hsl hbl (ts:=ts) (tg:=tg) hR0 hRp hRr n (0+1) (G2.set P (.cells (vs.set q w) aY)) _ _ (by omega) (fun k=>by
    have:=hf k
    by_cases hk:k=q
    ·rw [if_pos hk,← hk,List.length_append,List.length_singleton];omega
    ·rw [if_neg hk];omega) m4 (by rw [low2 p hRp];exact hgp) (by rw [low2 r hRr];exact hgr) (fun j hj=>by have:=hRl j hj;simp;omega) (by simp;omega) (fun m hm=>by rw [low2 m (hR0 m hm)];exact hlow m hm)
   rw [hprv,Hk hq] at i2;have i3:=fun k=>i1 k
   rw [hprv] at i3;simp only [kv_cons,kv_nil] at i3;have hia:=mV (id:=P) hqb .i64;have hld:bh none vs q=some vs[q]:=by simp only [bh,hv]
   have stw:stO 1 G2 P q [w] (some (.cells vs aY))=some (G2.set P (.cells (vs.set q w) aY)):=by
    rw [stO_cells (sz:=1) rfl (by show q+1≤vs.length;omega) (by rw [hw];rfl),setRow_cons,setRow_nil]
   have cw:cC w=some [w]:=by rw [hw];rfl
   have ncP:G.length≠P:=by have:=bZ hp.cell;omega
   have hab:fe vs[q]=none∨∃ t,fe vs[q]=some t∧G.length≠t:=by
    rcases hp.own q _ hv with ⟨_,z,e⟩ | ⟨t,e,g⟩
    ·exact .inl (by rw [e];rfl)
    ·exact .inr ⟨t,by rw [e];rfl,by have:=bZ g;omega⟩
   have r1:∀ H,ma (some H)=some (dC,H):=fun _=>rfl
   refine ⟨G3,vs3,fun k He => ?_,fun e => ?_⟩
   ·rw [hbf,Bool.false_or]
    generalize vs[q]=v at *
    rcases hab with ab | ⟨t,ab,nt⟩
    ·have aa:=oG (BZ ncP)
     rw [ak M bc.eq_1];simp (maxSteps:=3000000) (maxDischargeDepth:=6) +contextual -implicitDefEqProofs only [amC M,↓amD,Nat.reduceBEq,Nat.reduceAdd,env,aj,aW,amG,AV.cell,Nat.reduceMul,Nat.reduceLeDiff,hi,hx,hss2,hir,hwi,oV,gx,d3,hgp1,hgr1,hP1,l1,dD,l4,hq,c1,c2,d5,hxq,hirq,hqb,c3,hia,hld,eS,m1,m2,stw,cw,r1,dyK,amZ,ab,aa,List.length_map,i3]
    ·have aa:=oG (BY ncP nt)
     rw [ak M bc.eq_1];simp (maxSteps:=3000000) (maxDischargeDepth:=6) +contextual -implicitDefEqProofs only [amC M,↓amD,Nat.reduceBEq,Nat.reduceAdd,env,aj,aW,amG,AV.cell,Nat.reduceMul,Nat.reduceLeDiff,hi,hx,hss2,hir,hwi,oV,gx,d3,hgp1,hgr1,hP1,l1,dD,l4,hq,c1,c2,d5,hxq,hirq,hqb,c3,hia,hld,eS,m1,m2,stw,cw,r1,dyK,amZ,ab,aa,List.length_map,i3]
   ·rw [hbf,Bool.false_or] at e
    obtain ⟨e1,e2,e3⟩:=i2 e;exact ⟨e1,by rw [List.length_set] at e2;omega,fun m hm=>by rw [e3 m hm,low2 m hm]⟩
  |succ i=>
   have hi0:i<sl.length:=by omega
   have hx0:sl[i]?=some sl[i]:=List.getElem?_eq_getElem hi0;have hir0:=a8 (row:=bk.row) (tag:=ts) (sz:=2) (k:=.i64) hi0;have d3:decide ((0:Int)<((i+1:Nat):Int))=true:=decide_eq_true (by omega);have hw3:IntKind.i64.wrap (((i+1:Nat):Int)-1)=(i:Int):=by rw [bV (by omega) (by omega)];omega
   cases c4:decide (s.block<sl[i].block) with
   |true=>
    refine bad (by unfold u7;simp only [zI,hx0,Option.map_some];rw [c4];simp) fun k He => ?_
    rw [ak M bc.eq_1];simp (maxSteps:=3000000) (maxDischargeDepth:=6) +contextual -implicitDefEqProofs only [amC M,↓amD,Nat.reduceBEq,Nat.reduceAdd,env,aj,aW,amG,AV.cell,Nat.reduceMul,Nat.reduceLeDiff,hi,hx,hss2,hir,hwi,oV,gx,d3,hw3,hi0,hx0,hir0,c4,hgr1,l1,hst,hss,hself,List.length_map,hh]
   |false=>
   cases c1:decide (s.block<0) with
   |true=>
    refine bad (by unfold u7;rw [c1];rfl) fun k He => ?_
    rw [ak M bc.eq_1];simp (maxSteps:=3000000) (maxDischargeDepth:=6) +contextual -implicitDefEqProofs only [amC M,↓amD,Nat.reduceBEq,Nat.reduceAdd,env,aj,aW,amG,AV.cell,Nat.reduceMul,Nat.reduceLeDiff,hi,hx,hss2,hir,hwi,oV,gx,d3,hw3,hi0,hx0,hir0,c4,hgp1,hgr1,l1,dD,c1,hst,hss,hself,List.length_map,hh]
   |false=>
   cases c2:decide ((bl.length:Int)≤s.block) with
   |true=>
    refine bad (by unfold u7;rw [c2];simp) fun k He => ?_
    rw [ak M bc.eq_1];simp (maxSteps:=3000000) (maxDischargeDepth:=6) +contextual -implicitDefEqProofs only [amC M,↓amD,Nat.reduceBEq,Nat.reduceAdd,env,aj,aW,amG,AV.cell,Nat.reduceMul,Nat.reduceLeDiff,hi,hx,hss2,hir,hwi,oV,gx,d3,hw3,hi0,hx0,hir0,c4,hgp1,hgr1,l1,dD,c1,c2,hst,hss,hself,List.length_map,hh]
   |false=>
   have z1:=of_decide_eq_false c1;have z2:=of_decide_eq_false c2;obtain ⟨q,hq⟩:∃ q:Nat,s.block=(q:Int):=⟨s.block.toNat,by omega⟩
   have hqb:q<bl.length:=by omega
   have hxq:bl[q]?=some bl[q]:=List.getElem?_eq_getElem hqb;have hirq:=a8 (row:=aw.row) (tag:=tg) (sz:=2) (k:=.i64) hqb;have hkd:Hf bl s.block=(bl[q].kind == 6):=by unfold Hf;rw [hq,Int.toNat_natCast,hxq]
   have l4:bh none (bk.row s) 0=some (.int .i64 (q:Int)):=by rw [← hq];rfl
   rw [hq] at c1 c2 c4;have d5:decide (bl.length≤q)=false:=decide_eq_false (by omega);cases c3:bl[q].kind == 6 with
   |true=>
    refine bad (by unfold u7;rw [hkd,c3];simp) fun k He => ?_
    rw [ak M bc.eq_1];simp (maxSteps:=3000000) (maxDischargeDepth:=6) +contextual -implicitDefEqProofs only [amC M,↓amD,Nat.reduceBEq,Nat.reduceAdd,env,aj,aW,amG,AV.cell,Nat.reduceMul,Nat.reduceLeDiff,hi,hx,hss2,hir,hwi,oV,gx,d3,hw3,hi0,hx0,hir0,c4,hgp1,hgr1,l1,dD,l4,hq,c1,c2,d5,hxq,hirq,hqb,c3,hst,hss,hself,List.length_map,hh]
   |false=>
   have hbf:u7 bl (zI sl (i+1)) s=false:=B8 (by simp only [zI,hx0,Option.map_some];rw [hq];exact c4) (by rw [hq];exact c1) (by rw [hq];exact c2) (by rw [hkd];exact c3);have hqv:q<vs.length:=by rw [hp.len];exact hqb
   have hv:vs[q]?=some vs[q]:=List.getElem?_eq_getElem hqv;obtain ⟨w,G2,m1,m2,⟨tw,qw,hw⟩,m4,m5,m6⟩:=(hp.app [AObj.cells s.row aN]).push (fun j hj=>by have:=hRl j hj;simp;omega) hv (by have:=hf q;omega) (x:=prt s) (r:=[.slice s.pieces.tag.strip 3 (s.pieces.l.map ae.row)]) rfl rfl (JV s);have hlen1:(G++[AObj.cells s.row aN]).length=G.length+1:=by simp
   have low2:∀ m,R m→(G2.set P (.cells (vs.set q w) aY))[m]?=G[m]? := fun m hm=>by rw [m6 m hm,List.getElem?_append_left (hRl m hm)]
   obtain ⟨G3,vs3,i1,i2⟩:=dr0 hsl hbl (ts:=ts) (tg:=tg) hR0 hRp hRr n (i+1+1) (G2.set P (.cells (vs.set q w) aY)) _ _ (by omega) (fun k=>by
    have:=hf k
    by_cases hk:k=q
    ·rw [if_pos hk,← hk,List.length_append,List.length_singleton];omega
    ·rw [if_neg hk];omega) m4 (by rw [low2 p hRp];exact hgp) (by rw [low2 r hRr];exact hgr) (fun j hj=>by have:=hRl j hj;simp;omega) (by simp;omega) (fun m hm=>by rw [low2 m (hR0 m hm)];exact hlow m hm)
   rw [hprv,Hk hq] at i2;have i3:=fun k=>i1 k
   rw [hprv] at i3;simp only [kv_cons,kv_nil] at i3;have hia:=mV (id:=P) hqb .i64;have hld:bh none vs q=some vs[q]:=by simp only [bh,hv]
   have stw:stO 1 G2 P q [w] (some (.cells vs aY))=some (G2.set P (.cells (vs.set q w) aY)):=by
    rw [stO_cells (sz:=1) rfl (by show q+1≤vs.length;omega) (by rw [hw];rfl),setRow_cons,setRow_nil]
   have cw:cC w=some [w]:=by rw [hw];rfl
   have ncP:G.length≠P:=by have:=bZ hp.cell;omega
   have hab:fe vs[q]=none∨∃ t,fe vs[q]=some t∧G.length≠t:=by
    rcases hp.own q _ hv with ⟨_,z,e⟩ | ⟨t,e,g⟩
    ·exact .inl (by rw [e];rfl)
    ·exact .inr ⟨t,by rw [e];rfl,by have:=bZ g;omega⟩
   have r1:∀ H,ma (some H)=some (dC,H):=fun _=>rfl
   refine ⟨G3,vs3,fun k He => ?_,fun e => ?_⟩
   ·rw [hbf,Bool.false_or]
    generalize vs[q]=v at *
    rcases hab with ab | ⟨t,ab,nt⟩
    ·have aa:=oG (BZ ncP)
     rw [ak M bc.eq_1];simp (maxSteps:=3000000) (maxDischargeDepth:=6) +contextual -implicitDefEqProofs only [amC M,↓amD,Nat.reduceBEq,Nat.reduceAdd,env,aj,aW,amG,AV.cell,Nat.reduceMul,Nat.reduceLeDiff,hi,hx,hss2,hir,hwi,oV,gx,d3,hw3,hi0,hx0,hir0,c4,hgp1,hgr1,hP1,l1,dD,l4,hq,c1,c2,d5,hxq,hirq,hqb,c3,hia,hld,eS,m1,m2,stw,cw,r1,dyK,amZ,ab,aa,List.length_map,i3]
    ·have aa:=oG (BY ncP nt)
     rw [ak M bc.eq_1];simp (maxSteps:=3000000) (maxDischargeDepth:=6) +contextual -implicitDefEqProofs only [amC M,↓amD,Nat.reduceBEq,Nat.reduceAdd,env,aj,aW,amG,AV.cell,Nat.reduceMul,Nat.reduceLeDiff,hi,hx,hss2,hir,hwi,oV,gx,d3,hw3,hi0,hx0,hir0,c4,hgp1,hgr1,hP1,l1,dD,l4,hq,c1,c2,d5,hxq,hirq,hqb,c3,hia,hld,eS,m1,m2,stw,cw,r1,dyK,amZ,ab,aa,List.length_map,i3]
   ·rw [hbf,Bool.false_or] at e
    obtain ⟨e1,e2,e3⟩:=i2 e;exact ⟨e1,by rw [List.length_set] at e2;omega,fun m hm=>by rw [e3 m hm,low2 m hm]⟩
end
section
attribute [local congr] aA bo aM aC aL aG aD aq au aH aI
variable{E:bb}(M:bO bU E)
def vU(ps:List (Sl ae)):Int:=sel (decide (ps.length=0)) 1 (sel (qb ps == 0) (sel (ri ps) (sel (nL (mj ps.length 0 [] ps)) 3 0) 10) (qb ps))
def fF(ps:List (Sl ae)):List ae:=sel (vU ps == 0) (mj ps.length 0 [] ps) []
theorem JW(ps:List (Sl ae)):Hb ps = .tuple [.slice (lV (fF ps)) 3 ((fF ps).map ae.row),.int .u8 (vU ps)]:=by
 unfold fF;generalize hg:vU ps=g;unfold vU at hg;unfold Hb;cases c0:decide (ps.length=0) with
 |true=>rw [c0,sel_true] at hg;subst hg;rfl
 |false=>
 rw [c0,sel_false] at hg;cases c1:qb ps == 0 with
 |false=>
  rw [c1,sel_false] at hg;rw [sel_false,sel_false,← hg,c1,sel_false];rfl
 |true=>
 rw [c1,sel_true] at hg;cases c2:ri ps with
 |false=>rw [c2,sel_false] at hg;subst hg;rfl
 |true=>
 rw [c2,sel_true] at hg;cases c3:nL (mj ps.length 0 [] ps) with
 |true=>rw [c3,sel_true] at hg;subst hg;rfl
 |false=>rw [c3,sel_false] at hg;subst hg;rfl
def vV(f:Nat→List (Sl ae)):Nat→List aw→Int
 |_,[]=>0
 |i,b::t=>sel (b.kind == 6) (vV f (i+1) t) (sel (vU (f i) == 0) (sel (uq (fF (f i))) (vV f (i+1) t) 8) (vU (f i)))
def oC(g:List ae→Tag)(f:Nat→List (Sl ae)):Nat→List aw→List aw
 |_,[]=>[]
 |i,b::t=>sel (b.kind == 6) ⟨b.kind,⟨g b.pieces.l,b.pieces.l⟩⟩ ⟨b.kind,⟨lV (fF (f i)),fF (f i)⟩⟩::oC g f (i+1) t
theorem Hl(g:List ae→Tag)(f:Nat→List (Sl ae)):∀ (i:Nat) (l:List aw),(oC g f i l).length=l.length
 |_,[]=>rfl
 |i,b::t=>by simp only [oC,List.length_cons,Hl g f (i+1) t]
def C6(n:Nat)(H:List AObj)(v:AV)(l:List aw):Prop:=(l=[]∧v = .slice .nil 2 [])∨(l≠[]∧∃ t,n≤t∧v = .slice (.own t) 2 (l.map aw.row)∧H[t]?=some (.tok (l.length*2) aU))
theorem C6.app{n:Nat}{H:List AObj}{v:AV}{l:List aw}(h:C6 n H v l)(X:List AObj):C6 n (H++X) v l:=by
 rcases h with h | ⟨h0,t,h1,h2,h3⟩
 ·exact .inl h
 ·exact .inr ⟨h0,t,h1,h2,bD h3⟩
theorem C6.push{n:Nat}{H:List AObj}{v:AV}{l:List aw}(h:C6 n H v l)(hn:n≤H.length)(hb:l.length≤1000000){x:aw}{r:List AV}(h1:r.length=2)(h2:r.all AV.cell=true)(h3:r.map AV.strip=x.row) :
  ∃ t G,rap false H aU 2 32 false v (.slice .full 2 [r])=some (.slice (.own t) 2 ((l++[x]).map aw.row),G)∧n≤t∧G[t]?=some (.tok ((l++[x]).length*2) aU)∧H.length≤G.length∧(∀ (i:Nat) (y:AObj),H[i]?=some y→(∀ m e,y≠AObj.tok m e)→G[i]?=some y)∧∀ i:Nat,i<n→G[i]?=H[i]? := by
 rcases h with ⟨rfl,rfl⟩ | ⟨_,t,hnt,rfl,hg⟩
 ·refine ⟨H.length,H++[.tok 2 aU], ?_,hn,by rw [aJ];rfl,by simp,fun i y hi _=>bD hi,fun i hi=>List.getElem?_append_left (by omega)⟩
  simp [rap,qL,kQ,kC h1 h2,h3]
 ·have hlt:=bZ hg
  refine ⟨t,H.set t (.tok ((l++[x]).length*2) aU), ?_,hnt,List.getElem?_set_self hlt,by simp,fun i y hi hy => ?_,fun i hi=>List.getElem?_set_ne (by omega)⟩
  ·have e1:(l.length+1)*32≤140737488355328:=by omega
   have e2:l.length+1≤4611686018427387904:=by omega
   simp only [rap,qL,kQ,List.length_map,List.length_cons,List.length_nil,Nat.zero_add,or_true,if_true,e1,e2,kC h1 h2,and_true,true_and,hg,List.map_cons,List.map_nil,h3,List.map_append,List.length_append,Nat.add_mul,Nat.one_mul,Nat.mul_one];rw [Nat.add_mul] at e1;rw [if_pos e1]
  ·rw [List.getElem?_set_ne (fun e=>by subst e;rw [hg] at hi;cases hi;exact hy _ _ rfl)];exact hi
theorem dr2(hB:kY E)(hX:sR M)(hC:mI E)(hS:u6 E){bl:List aw}{tg:Tag}(hbl:bl.length≤1000000)(hkn:∀ b∈bl,b.pieces.kn∧b.pieces.l.length≤1000000){H0:List AObj}{P r o:Nat}{f:Nat→List (Sl ae)}{vs:List AV}(hvl:vs.length=bl.length)(hvs:∀ (k:Nat) (v:AV),vs[k]?=some v→f k≠[]→∃ tg,v = .slice tg 1 ((f k).map fq))
  (hfn:∀ k,(f k).length≤1000000∧(∀ p∈f k,p.l.length≤1000000∧yP p.l)∧szL (f k)≤100000000) (hro:r≠o) (ho0:H0.length≤o):∀ (n i:Nat) (G:List AObj) (acc:List aw) (v:AV),i+n=bl.length→yS f i (bl.drop i)=false→acc.length≤i→G[P]?=some (.cells vs aY) →
  G[r]?=some (.cells [.slice .nil 2 []] ag)→G[o]?=some (.cells [v] ag)→C6 H0.length G v acc→H0.length≤G.length→(∀ m,m<H0.length→G[m]?=H0[m]?) →
  ∃ G' w,(∀ (k:List Fra) (He:List AObj),M.go ct H0 (.c cS :: .lp ⟨(some [4,7,12,107,108,109]),[],false⟩ cS He :: .blk 4 :: .c (.lv [4,12])::k) (kv [(4,.ptr r 0),(7,.rslice P 0 bl.length 1 true),(12,.ptr o 0),(107,.slice tg 2 (bl.map aw.row)),(108,.int .i64 bl.length),(109,.int .i64 i)]) G =
   sel (vV f i (bl.drop i) == 0) (M.go ct H0 k (kv [(4,.ptr r 0),(12,.ptr o 0)]) G') (some (.ret (.tuple [.agg [.slice .nil 2 []],.int .u8 (vV f i (bl.drop i))]),H0))) ∧
   ((vV f i (bl.drop i) == 0)=true→G'[r]?=some (.cells [.slice .nil 2 []] ag)∧G'[o]?=some (.cells [w] ag)∧C6 H0.length G' w (acc++oC (fun _=>.any) f i (bl.drop i))∧H0.length≤G'.length∧∀ m,m<H0.length→G'[m]?=H0[m]?)
 |0,i,G,acc,v,h,hlk,hacc,hP,hr,ho,hw,hl,hlow=>by
  have e:i=bl.length:=by omega
  subst e;refine ⟨G,v,fun k He => ?_,fun _=>⟨hr,ho, ?_,hl,hlow⟩⟩
  ·rw [List.drop_length,show vV f bl.length []=0 from rfl,show ((0:Int) == 0)=true from rfl,sel_true]
   rw [ak M cS.eq_1];simp (maxSteps:=3000000) (maxDischargeDepth:=6) +contextual -implicitDefEqProofs only [amC M,↓amD,Nat.reduceBEq,Nat.reduceAdd,env,aj,aW,Nat.lt_irrefl]
  ·rw [List.drop_length,show oC (fun _=>.any) f bl.length []=[] from rfl,List.append_nil];exact hw
 |n+1,i,G,acc,v,h,hlk,hacc,hP,hr,ho,hw,hl,hlow=>by
  have hi:i<bl.length:=by omega
  have hx:bl[i]?=some bl[i]:=List.getElem?_eq_getElem hi;have hd:(bl.drop i)=bl[i]::bl.drop (i+1):=List.drop_eq_getElem_cons hi;have hwi:=cV (n:=bl.length) hi (by simp only [bH];omega);have hir:=a8 (row:=aw.row) (tag:=tg) (sz:=2) (k:=.i64) hi;have hia:=mV (id:=P) hi .i64;have hiv:i<vs.length:=by rw [hvl];exact hi
  have hv:vs[i]?=some vs[i]:=List.getElem?_eq_getElem hiv;obtain ⟨kn1,kn2⟩:=hkn _ (List.getElem_mem hi);obtain ⟨f1,f2,f3⟩:=hfn i;have l1:∀ x:AV,bh none [x] 0=some x:=fun _=>rfl
  rw [hd,yS,Bool.or_eq_false_iff] at hlk;obtain ⟨hlk1,hlk2⟩:=hlk;rw [hd];generalize hbb:bl[i]=b at *
  have gx:=aJ G [AObj.cells b.row aU];rw [List.getElem?_cons_zero] at gx;have hP1:∀ X,(G++X)[P]?=_:=fun X=>bD hP
  have hr1:∀ X,(G++X)[r]?=_:=fun X=>bD hr
  have ho1:∀ X,(G++X)[o]?=_:=fun X=>bD ho
  have low1:∀ m,m<H0.length→(G++[AObj.cells b.row aU])[m]?=H0[m]? := fun m hm=>by rw [List.getElem?_append_left (by omega),hlow m hm]
  obtain ⟨hct,htk⟩:=qc (show H0.length≤(G++[AObj.cells b.row aU]).length by simp;omega) low1;have hst:=stO_cells (sz:=1) (H:=G++[AObj.cells b.row aU]) (id:=r) (off:=0) (cs:=[.slice .nil 2 []]) (T:=ag) (old:=[.slice .nil 2 []]) rfl (by simp) rfl;have hss:aX [AV.slice .nil 2 []] 0 [.slice .nil 2 []]=[.slice .nil 2 []]:=rfl;rw [hss] at hst
  have hself:(G++[AObj.cells b.row aU]).set r (.cells [.slice .nil 2 []] ag)=G++[AObj.cells b.row aU]:=by
   refine List.ext_getElem? fun j => ?_
   by_cases hj:j=r
   ·subst hj;rw [List.getElem?_set_self (bZ (hr1 _)),hr1]
   ·rw [List.getElem?_set_ne (fun e=>hj e.symm)]
  rw [hself] at hst;have hh:=fun e=>JU hct e
  simp only [htk] at hh;have k1:=fun H=>Hi M hS kn1 kn2 H
  have more:∀ {x:aw}{rr:List AV},rr.length=2→rr.all AV.cell=true→rr.map AV.strip=x.row→∃ w G2,rap false (G++[AObj.cells b.row aU]) aU 2 32 false v (.slice .full 2 [rr])=some (w,G2)∧G2[o]?=some (.cells [v] ag)∧cC w=some [w] ∧
    stO 1 G2 o 0 [w] (some (.cells [v] ag))=some (G2.set o (.cells [w] ag)) ∧
    ∃ G' w',(∀ (k:List Fra) (He:List AObj),M.go ct H0 (.c cS :: .lp ⟨(some [4,7,12,107,108,109]),[],false⟩ cS He :: .blk 4 :: .c (.lv [4,12])::k) (kv [(4,.ptr r 0),(7,.rslice P 0 bl.length 1 true),(12,.ptr o 0),(107,.slice tg 2 (bl.map aw.row)),(108,.int .i64 bl.length),(109,.int .i64 ((i+1:Nat):Int))]) (G2.set o (.cells [w] ag)) =
     sel (vV f (i+1) (bl.drop (i+1)) == 0) (M.go ct H0 k (kv [(4,.ptr r 0),(12,.ptr o 0)]) G') (some (.ret (.tuple [.agg [.slice .nil 2 []],.int .u8 (vV f (i+1) (bl.drop (i+1)))]),H0))) ∧
     ((vV f (i+1) (bl.drop (i+1)) == 0)=true→G'[r]?=some (.cells [.slice .nil 2 []] ag)∧G'[o]?=some (.cells [w'] ag)∧C6 H0.length G' w' (acc++(x::oC (fun _=>.any) f (i+1) (bl.drop (i+1))))∧H0.length≤G'.length∧∀ m,m<H0.length→G'[m]?=H0[m]?):=fun {x rr} h1 h2 h3=>by
   obtain ⟨t,G2,m1,m2,m3,m4,m5,m6⟩:=(hw.app [AObj.cells b.row aU]).push (by simp;omega) (by omega) h1 h2 h3;have hlt:(G++[AObj.cells b.row aU]).length=G.length+1:=by simp
   have cl:∀ {j:Nat}{cs:List AV}{T:TypeId},G[j]?=some (.cells cs T)→G2[j]?=some (.cells cs T):=fun hj=>m5 _ _ (bD hj) fun _ _ e=>(by cases e)
   have hoG:=cl ho;have holt:=bZ hoG;refine ⟨_,G2,m1,hoG,rfl,by rw [stO_cells (sz:=1) rfl (by simp) rfl];rfl, ?_⟩;have nto:t≠o:=fun e=>by subst e;rw [hoG] at m3;cases m3
   obtain ⟨G',w',i1,i2⟩:=dr2 hB hX hC hS hbl (tg:=tg) hkn hvl hvs hfn hro ho0 n (i+1) (G2.set o (.cells [.slice (.own t) 2 ((acc++[x]).map aw.row)] ag)) (acc++[x]) (.slice (.own t) 2 ((acc++[x]).map aw.row)) (by omega) hlk2 (by simp;omega)
    (by rw [List.getElem?_set_ne (Lo ho hP (by decide))];exact cl hP) (by rw [List.getElem?_set_ne hro.symm];exact cl hr) (List.getElem?_set_self holt) (.inr ⟨by simp,t,m2,rfl,by rw [List.getElem?_set_ne nto.symm];exact m3⟩) (by simp;omega)
    (fun m hm=>by rw [List.getElem?_set_ne (by omega),m6 m hm];exact low1 m hm)
   refine ⟨G',w',i1,fun e => ?_⟩;obtain ⟨j1,j2,j3,j4,j5⟩:=i2 e;exact ⟨j1,j2,by simpa using j3,j4,j5⟩
  rw [vV,oC];cases c1:b.kind == 6 with
  |true=>
   obtain ⟨w,G2,m1,m2,m3,m4,G',w',i1,i2⟩:=more (x:=⟨b.kind,⟨.any,b.pieces.l⟩⟩) (rr:=[.int .u8 b.kind,.slice .any 3 (b.pieces.l.map ae.row)]) rfl rfl rfl;simp only [kv_cons,kv_nil] at i1;refine ⟨G',w',fun k He => ?_,fun e => ?_⟩
   ·have i3:=i1 k
    rw [sel_true];rw [ak M cS.eq_1];simp (maxSteps:=3000000) (maxDischargeDepth:=6) +contextual -implicitDefEqProofs only [amC M,↓amD,Nat.reduceBEq,Nat.reduceAdd,env,aj,aW,amG,AV.cell,Nat.reduceMul,Nat.reduceLeDiff,hi,hx,hbb,hir,hwi,dD,gx,k1,c1,Bool.not_true,ho1,l1,m1,m2,m3,m4,i3]
   ·rw [sel_true] at e
    rw [sel_true];exact i2 e
  |false=>
  rw [c1,Bool.not_false,Bool.true_and] at hlk1;obtain ⟨tv,hvv⟩:=hvs i _ hv fun e=>of_decide_eq_false hlk1 (by rw [e];rfl)
  have hld:bh none vs i=some (.slice tv 1 ((f i).map fq)):=by simp only [bh,hv,hvv]
  have k2:=fun H=>DS M hB hX hC (ps:=f i) (tg:=tv) f1 f2 f3 H
  simp only [JW] at k2;rw [sel_false,sel_false];cases c2:vU (f i) == 0 with
  |false=>
   refine ⟨G,v,fun k He => ?_,fun e => ?_⟩
   ·rw [sel_false,c2,sel_false]
    rw [ak M cS.eq_1];simp (maxSteps:=3000000) (maxDischargeDepth:=6) +contextual -implicitDefEqProofs only [amC M,↓amD,Nat.reduceBEq,Nat.reduceAdd,env,aj,aW,amG,AV.cell,Nat.reduceMul,Nat.reduceLeDiff,hi,hx,hbb,hir,hwi,dD,gx,k1,c1,Bool.not_false,hia,hP1,hld,k2,cX,List.getElem?_cons_zero,List.getElem?_cons_succ,c2,hr1,hst,hss,hself,hh]
   ·rw [sel_false,c2] at e;cases e
  |true=>
  have hwl:(fF (f i)).length≤bH:=by
   have hg:vU (f i)=0:=by simpa using c2
   unfold vU at hg;unfold fF;rw [c2,sel_true];cases z0:decide ((f i).length=0) with
   |true=>rw [z0,sel_true] at hg;cases hg
   |false=>
   cases z1:qb (f i) == 0 with
   |false=>rw [z0,sel_false,z1,sel_false] at hg;rw [hg] at z1;cases z1
   |true=>
   cases z2:ri (f i) with
   |false=>rw [z0,sel_false,z1,sel_true,z2,sel_false] at hg;cases hg
   |true=>
   cases z3:nL (mj (f i).length 0 [] (f i)) with
   |true=>rw [z0,sel_false,z1,sel_true,z2,sel_true,z3,sel_true] at hg;cases hg
   |false=>have:=of_decide_eq_false z3;simp only [bH];omega
  have k3:=fun H=>DT M hS (l:=fF (f i)) (tg:=lV (fF (f i))) hwl H
  rw [sel_true];cases c3:uq (fF (f i)) with
  |false=>
   refine ⟨G,v,fun k He => ?_,fun e => ?_⟩
   ·rw [sel_false,show ((8:Int) == 0)=false from rfl,sel_false]
    rw [ak M cS.eq_1];simp (maxSteps:=3000000) (maxDischargeDepth:=6) +contextual -implicitDefEqProofs only [amC M,↓amD,Nat.reduceBEq,Nat.reduceAdd,env,aj,aW,amG,AV.cell,Nat.reduceMul,Nat.reduceLeDiff,hi,hx,hbb,hir,hwi,dD,gx,k1,c1,Bool.not_false,hia,hP1,hld,k2,cX,List.getElem?_cons_zero,List.getElem?_cons_succ,c2,k3,c3,Bool.not_true,hr1,hst,hss,hself,hh]
   ·rw [sel_false] at e;cases e
  |true=>
   obtain ⟨w,G2,m1,m2,m3,m4,G',w',i1,i2⟩:=more (x:=⟨b.kind,⟨lV (fF (f i)),fF (f i)⟩⟩) (rr:=[.int .u8 b.kind,.slice (lV (fF (f i))) 3 ((fF (f i)).map ae.row)]) rfl rfl (by rw [List.map_cons,List.map_cons,sn];rfl);simp only [kv_cons,kv_nil] at i1;refine ⟨G',w',fun k He => ?_,fun e => ?_⟩
   ·have i3:=i1 k
    rw [sel_true];rw [ak M cS.eq_1];simp (maxSteps:=3000000) (maxDischargeDepth:=6) +contextual -implicitDefEqProofs only [amC M,↓amD,Nat.reduceBEq,Nat.reduceAdd,env,aj,aW,amG,AV.cell,Nat.reduceMul,Nat.reduceLeDiff,hi,hx,hbb,hir,hwi,dD,gx,k1,c1,Bool.not_false,Bool.not_true,hia,hP1,hld,k2,cX,List.getElem?_cons_zero,List.getElem?_cons_succ,c2,k3,c3,sn,ho1,l1,m1,m2,m3,m4,i3]
   ·rw [sel_true] at e
    exact i2 e
end
section
attribute [local congr] aA bo aM aC aL aG aD aq au aH aI
variable{E:bb}(M:bO bU E)
theorem Ns{G:List AObj}{r:Nat}{x:AObj}(h:G[r]?=some x):G.set r x=G:=by
 refine List.ext_getElem? fun j => ?_
 by_cases hj:j=r
 ·subst hj;rw [List.getElem?_set_self (bZ h),h]
 ·rw [List.getElem?_set_ne (fun e=>hj e.symm)]
theorem PH{G:List AObj}{r:Nat}(h:G[r]?=some (.cells [.slice .nil 2 []] ag)):stO 1 G r 0 [.slice .nil 2 []] (some (.cells [.slice .nil 2 []] ag))=some G:=by
 rw [stO_cells (sz:=1) rfl (by simp) rfl];refine congrArg some (List.ext_getElem? fun j => ?_)
 by_cases hj:j=r
 ·subst hj;rw [List.getElem?_set_self (bZ h),h];rfl
 ·rw [List.getElem?_set_ne (fun e=>hj e.symm)]
end
section
attribute [local congr] aA bo aM aC aL aG aD aq au aH aI
variable{E:bb}(M:bO bU E)
theorem yn(sl:List bk):∀ (bl:List aw) (i:Nat),yS (fun k=>bq (k:Int) sl) i bl=B7 sl i bl
 |[],_=>rfl
 |b::t,i=>by
  rw [yS,B7,yn sl t (i+1)]
  have h:decide ((bq (i:Int) sl).length=0) = !ofB (i:Int) sl:=by
   unfold bq ofB;rw [List.length_map];cases c:sl.any fun s=>s.block == (i:Int) with
   |true=>
    obtain ⟨x,h1,h2⟩:=List.any_eq_true.1 c
    have:0<(sl.filter fun s=>s.block == (i:Int)).length:=List.length_pos_of_mem (List.mem_filter.2 ⟨h1,h2⟩)
    rw [Bool.not_true];exact decide_eq_false (by omega)
   |false=>
    rw [Bool.not_false];refine decide_eq_true (List.length_eq_zero_iff.2 (List.filter_eq_nil_iff.2 fun x hx hb => ?_));have:=List.any_eq_false.1 c x hx;exact this hb
  rw [h,Bool.not_or]
def IL(sl:List bk)(bl:List aw):Int:=sel (gZ bl == 0) (sel (qA bl none sl) 1 (sel (B7 sl 0 bl) 1 (vV (fun k=>bq (k:Int) sl) 0 bl))) (gZ bl)
def qB(g:List ae→Tag)(sl:List bk)(bl:List aw):List aw:=sel (IL sl bl == 0) (oC g (fun k=>bq (k:Int) sl) 0 bl) []
def sq(l:List aw):Tag:=match l with
 |[]=>.nil
 |_=>.any
def PI(g:List ae→Tag)(sl:List bk)(bl:List aw):AV:=.tuple [.agg [.slice (sq (qB g sl bl)) 2 ((qB g sl bl).map aw.row)],.int .u8 (IL sl bl)]
theorem PJ(m:List ae):szQ m=m.length+gR m:=by
 unfold szQ gR;induction m with
 |nil=>rfl
 |cons x m ih=>simp only [List.map_cons,List.sum_cons,List.length_cons,ih];omega
theorem IM:∀ l:List (Sl ae),(∀ p∈l,p.l.length+gR p.l≤2600)→szL l≤l.length*2600
 |[],_=>Nat.zero_le _
 |p::l,h=>by
  have h1:=IM l fun q hq=>h q (by simp [hq])
  have h2:=h p (by simp);have h3:=PJ p.l;rw [Ha,List.length_cons,Nat.add_mul,Nat.one_mul];omega
theorem Nt{sl:List bk}(hsl:sl.length≤10000)(hs:∀ s∈sl,s.pieces.l.length+gR s.pieces.l≤2600)(k:Nat):(bq (k:Int) sl).length≤1000000∧(∀ p∈bq (k:Int) sl,p.l.length≤1000000∧yP p.l)∧szL (bq (k:Int) sl)≤100000000:=by
 have hlen:(bq (k:Int) sl).length≤10000:=by
  unfold bq;rw [List.length_map];exact Nat.le_trans (List.length_filter_le _ _) hsl
 have hp:∀ p∈bq (k:Int) sl,p.l.length+gR p.l≤2600:=fun p hp=>by
  obtain ⟨s,h1,rfl⟩:=List.mem_map.1 hp;exact hs s (List.mem_filter.1 h1).1
 refine ⟨by omega,fun p h => ?_, ?_⟩
 ·have h1:=hp p h
  exact ⟨by omega,fun x hx=>by have:=rh hx;omega⟩
 ·have:=IM _ hp
  have h4:(bq (k:Int) sl).length*2600≤10000*2600:=Nat.mul_le_mul_right _ hlen;omega
theorem PK{g:List ae→Tag}(hg:∀ l,(g l).fzd=g l){f:Nat→List (Sl ae)}{n k:Nat}{H:List AObj}(i:Nat)(bl:List aw):eh (eh (fzF (k+3) n H)) ((oC g f i bl).map aw.row)=some ((oC g f i bl).map aw.row):=by
 have hz:∀ (bl:List aw) (i:Nat),∀ x∈oC g f i bl,x.pieces.tag.fzd=x.pieces.tag:=by
  intro bl;induction bl with
  |nil=>intro i x hx;cases hx
  |cons b t ih=>
   intro i x hx;rw [oC] at hx;rcases List.mem_cons.1 hx with rfl | hx
   ·cases b.kind == 6
    ·rw [sel_false];dsimp only;cases fF (f i)<;>rfl
    ·rw [sel_true];exact hg _
   ·exact ih _ x hx
 exact AY fun x hx=>b9 (vw _ _ _ _ _) (b9 (by
  have h:=pX (k:=k+2) (n:=n) (H:=H) (t:=x.pieces.tag) (sz:=3) (Nh (k:=k+1) (n:=n) (H:=H) x.pieces.l);rw [hz bl i x hx] at h;exact h) (dE _))
theorem PL{g:List ae→Tag}(hg:∀ l,(g l).fzd=g l){f:Nat→List (Sl ae)}{n k m:Nat}{H G:List AObj}{v:AV}{bl:List aw}(h:C6 m H v (oC g f 0 bl)):fzF (k+4) n G v=some (.slice (sq (oC g f 0 bl)) 2 ((oC g f 0 bl).map aw.row)):=by
 rcases h with ⟨h1,rfl⟩ | ⟨h0,t,_,rfl,h3⟩
 ·rw [h1];exact pX (t:=.nil) (dE _)
 ·have h:=pX (k:=k+3) (n:=n) (H:=G) (t:=.own t) (sz:=2) (PK hg (f:=f) 0 bl)
  rw [h];generalize oC g f 0 bl=x at *
  cases x with
  |nil=>exact absurd rfl h0
  |cons b t=>rfl
theorem Sf{g:List ae→Tag}(hg:∀ l,(g l).fzd=g l){H0 G:List AObj}(h1:H0.length≤G.length)(h2:∀ m,m<H0.length→G[m]?=H0[m]?){f:Nat→List (Sl ae)}{v:AV}{bl:List aw}{m:Nat}{H:List AObj}(h:C6 m H v (oC g f 0 bl))(e:Int) :
  mb bU .deep H0 G (.tuple [.agg [v],.int .u8 e])=some (.tuple [.agg [.slice (sq (oC g f 0 bl)) 2 ((oC g f 0 bl).map aw.row)],.int .u8 e],H0):=by
 obtain ⟨hc,ht⟩:=qc h1 h2;rw [kB hc ⟨8,oU (b9 (Mx (b9 (PL hg (k:=2) h) (dE _))) (b9 (vw _ _ _ _ _) (dE _)))⟩,ht]
theorem IN{l:List aw}(h:(gZ l == 0)=true):l.length≤256:=(xt h).1
theorem xu(hB:kY E)(hX:sR M)(hC:mI E)(hS:u6 E){sl:List bk}{ts:Tag}(hsl:sl.length≤10000)(hs:∀ s∈sl,s.pieces.l.length+gR s.pieces.l≤2600){d:Docu}(hd:d.ok 0)(hkn:∀ b∈d.blocks.l,b.pieces.kn)(hsz:d.blocks.l.length≤256→∀ b∈d.blocks.l,b.pieces.l.length+gR b.pieces.l≤2600)(H:List AObj) :
  M.run lA [.agg d.row,.slice ts 2 (sl.map bk.row)] H=some (.ret (PI (fun _=>.any) sl d.blocks.l),H):=by
 have l1:∀ x:AV,bh none [x] 0=some x:=fun _=>rfl
 have l2:∀ x:AV,bh (some 1) [x] 0=some (.agg [x]):=fun _=>rfl
 have k1:=fun H=>B6 M hB hX hS hd (fun h b hb=>by
  have z:=hsz h b hb;exact ⟨by omega,fun x hx=>by have:=rh hx;omega⟩) H
 have g0:∀ X,(H++AObj.cells d.row ag::X)[H.length]?=some (.cells d.row ag):=fun X=>by rw [aJ];rfl
 have g1:∀ y X,(H++y::AObj.cells [.slice .nil 2 []] ag::X)[H.length+1]?=some (.cells [.slice .nil 2 []] ag):=fun y X=>by rw [hp_getk];rfl
 have hst:=fun X=>PH (g1 (AObj.cells d.row ag) X)
 have hsf:=fun X=>Ns (g1 (AObj.cells d.row ag) X)
 have hh:=fun X e=>JU (cut_app H X) e
 simp only [hp_take] at hh;rw [bI M hS.docs_Restore rfl (c:=o9) rfl,o9];unfold PI qB IL;cases c0:gZ d.blocks.l == 0 with
 |false=>
  rw [sel_false,c0,sel_false];simp (maxSteps:=3000000) (maxDischargeDepth:=6) +contextual -implicitDefEqProofs only [amC M,↓amD,Nat.reduceBEq,Nat.reduceAdd,env,aj,aW,amG,AV.cell,Nat.reduceMul,Nat.reduceLeDiff,g0,g1,kp,k1,c0,hst,hsf,hh,Bool.not_false,l2,sq,List.map_nil]
 |true=>
 rw [sel_true];have hb:=IN c0;obtain ⟨G0,hG⟩:∃ G,G=H++[AObj.cells d.row ag,AObj.cells [.slice .nil 2 []] ag,AObj.cells (List.replicate d.blocks.l.length (.slice .nil 0 [])) aY]:=⟨_,rfl⟩
 have hG0:G0.length=H.length+3:=by rw [hG];simp
 have q0:G0[H.length]?=some (.cells d.row ag):=by rw [hG];exact g0 _
 have q1:G0[H.length+1]?=some (.cells [.slice .nil 2 []] ag):=by rw [hG];exact g1 _ _
 have q2:G0[H.length+2]?=some (.cells (List.replicate d.blocks.l.length (.slice .nil 0 [])) aY):=by rw [hG,hp_getk];rfl
 have lowG:∀ m,m<H.length→G0[m]?=H[m]? := fun m hm=>by rw [hG,List.getElem?_append_left hm]
 have rep:∀ (k:Nat) (v:AV),(List.replicate d.blocks.l.length (AV.slice .nil 0 []))[k]?=some v→v = .slice .nil 0 []:=fun k v hv=>by
  rw [List.getElem?_replicate] at hv;split at hv
  ·cases hv;rfl
  ·cases hv
 have hms:rms (H++[AObj.cells d.row ag,AObj.cells [.slice .nil 2 []] ag]) aY 24 [.slice .nil 0 []] (.int .i64 d.blocks.l.length) (.int .i64 d.blocks.l.length)=some (.rslice (H.length+2) 0 d.blocks.l.length 1 true,G0):=by
  have z1:(0:Int)≤(d.blocks.l.length:Int)∧(d.blocks.l.length:Int)≤(d.blocks.l.length:Int)∧(d.blocks.l.length:Int).toNat*24≤140737488355328∧(d.blocks.l.length:Int)≤4611686018427387904:=by omega
  have z2:∀ n:Nat,(List.replicate n [AV.slice .nil 0 []]).flatten=List.replicate n (.slice .nil 0 []):=fun n=>by
   induction n with
   |zero=>rfl
   |succ n ih=>rw [List.replicate_succ,List.flatten_cons,ih,List.replicate_succ];rfl
  simp only [rms,if_pos z1,Int.toNat_natCast,z2,hG];simp;omega
 have pv0:nN (fun j=>j<H.length+2) G0 (H.length+2) d.blocks.l.length (fun _=>[]) (List.replicate d.blocks.l.length (.slice .nil 0 [])):=
  ⟨by omega,q2,by simp,fun k v hv=>.inl ⟨rfl,0,rep k v hv⟩,fun i j t r s h1 h2=>by have:=rep _ _ h1;(cases this),fun k t r h1=>by have:=rep _ _ h1;(cases this)⟩
 obtain ⟨G1,vs,a1,a2⟩:=dr0 M (sl:=sl) (ts:=ts) (tg:=d.blocks.tag) (by omega) (bl:=d.blocks.l) (by omega) (H0:=H) (R:=fun j=>j<H.length+2) (fun j hj=>by omega) (p:=H.length) (r:=H.length+1) (P:=H.length+2) (by omega) (by omega) sl.length 0 G0 (fun _=>[]) _ (by omega) (fun _=>Nat.le_refl _) pv0 q0 q1 (fun j hj=>by omega) (by omega) lowG;simp only [kv_cons,kv_nil,Int.ofNat_zero,List.drop_zero,zI,List.nil_append] at a1 a2
 cases c1:qA d.blocks.l none sl with
 |true=>
  simp only [c1,sel_true] at a1;rw [sel_true,show ((1:Int) == 0)=false from rfl,sel_false];simp (maxSteps:=3000000) (maxDischargeDepth:=6) +contextual -implicitDefEqProofs only [amC M,↓amD,Nat.reduceBEq,Nat.reduceAdd,env,aj,aW,amG,AV.cell,Nat.reduceMul,Nat.reduceLeDiff,g0,g1,kp,k1,c0,Bool.not_true,l1,l2,List.length_map,hms,a1,sq,List.map_nil]
 |false=>
 simp only [c1,sel_false] at a1;obtain ⟨b1,b2,b3⟩:=a2 c1;have hcg:=qc (show H.length≤G1.length by omega) (fun m hm=>by rw [b3 m (by omega),lowG m hm]);have b4:nN (fun j=>j<H.length) G1 (H.length+2) d.blocks.l.length (fun k=>bq (k:Int) sl) vs:=⟨by omega,b1.cell,b1.len,b1.own,b1.ne,fun k t r h1 h2=>b1.fr k t r h1 (by omega)⟩
 have q1':G1[H.length+1]?=some (.cells [.slice .nil 2 []] ag):=by rw [b3 _ (by omega)];exact q1
 have q0':G1[H.length]?=some (.cells d.row ag):=by rw [b3 _ (by omega)];exact q0
 have low1:∀ m,m<H.length→G1[m]?=H[m]? := fun m hm=>by rw [b3 m (by omega)];exact lowG m hm
 obtain ⟨G2,d1,X2,hX2⟩:=dr1 M (bl:=d.blocks.l) (tg:=d.blocks.tag) (by omega) (H0:=H) (P:=H.length+2) (r:=H.length+1) (v2:=.ptr H.length 0) d.blocks.l.length 0 G1 (by omega) b4 q1' (by omega) low1;simp only [kv_cons,kv_nil,Int.ofNat_zero,List.drop_zero,yn] at d1;rw [sel_false];cases c2:B7 sl 0 d.blocks.l with
 |true=>
  simp only [c2,sel_true] at d1;rw [sel_true,show ((1:Int) == 0)=false from rfl,sel_false];simp (maxSteps:=3000000) (maxDischargeDepth:=6) +contextual -implicitDefEqProofs only [amC M,↓amD,Nat.reduceBEq,Nat.reduceAdd,env,aj,aW,amG,AV.cell,Nat.reduceMul,Nat.reduceLeDiff,g0,g1,kp,k1,c0,Bool.not_true,l1,l2,List.length_map,hms,a1,q0',q1',d1,sq,List.map_nil]
 |false=>
 simp only [c2,sel_false] at d1;rw [sel_false];have q2':(G2++[AObj.cells [.slice .nil 2 []] ag])[H.length+2]?=some (.cells vs aY):=by rw [hX2,List.append_assoc];exact bD b1.cell
 have q1'':(G2++[AObj.cells [.slice .nil 2 []] ag])[H.length+1]?=some (.cells [.slice .nil 2 []] ag):=by rw [hX2,List.append_assoc];exact bD q1'
 have q0'':∀ X,(G2++X)[H.length]?=some (.cells d.row ag):=fun X=>by rw [hX2,List.append_assoc];exact bD q0'
 have hG2:H.length+3≤G2.length:=by rw [hX2];simp;omega
 obtain ⟨G',w,i1,i2⟩:=dr2 M hB hX hC hS (bl:=d.blocks.l) (tg:=d.blocks.tag) (by omega) (fun b hb2=>⟨hkn b hb2,by have:=hsz hb b hb2;omega⟩) (H0:=H) (P:=H.length+2) (r:=H.length+1) (o:=G2.length) (f:=fun k=>bq (k:Int) sl) (vs:=vs) b1.len (fun k v hv hne=>by
   rcases b1.own k v hv with ⟨h1,_⟩ | ⟨t,h1,_⟩
   ·exact absurd h1 hne
   ·exact ⟨.own t,h1⟩) (Nt hsl hs) (by omega) (by omega) d.blocks.l.length 0 (G2++[AObj.cells [.slice .nil 2 []] ag]) [] (.slice .nil 2 []) (by omega) (by rw [List.drop_zero,yn];exact c2) (Nat.le_refl _) q2' q1'' (by rw [aJ];rfl) (.inl ⟨rfl,rfl⟩) (by simp;omega) (fun m hm=>by rw [hX2,List.append_assoc,List.getElem?_append_left (by omega)];exact low1 m hm)
 simp only [kv_cons,kv_nil,Int.ofNat_zero,List.drop_zero,List.nil_append] at i1 i2;cases c3:vV (fun k=>bq (k:Int) sl) 0 d.blocks.l == 0 with
 |false=>
  simp only [c3,sel_false] at i1;rw [sel_false];simp (maxSteps:=3000000) (maxDischargeDepth:=6) +contextual -implicitDefEqProofs only [amC M,↓amD,Nat.reduceBEq,Nat.reduceAdd,env,aj,aW,amG,AV.cell,Nat.reduceMul,Nat.reduceLeDiff,g0,g1,kp,k1,c0,Bool.not_true,l1,l2,List.length_map,hms,a1,q0',q1',d1,q0'',i1,sq,List.map_nil]
 |true=>
  simp only [c3,sel_true] at i1;obtain ⟨j1,j2,j3,j4,j5⟩:=i2 c3;rw [sel_true];have e0:vV (fun k=>bq (k:Int) sl) 0 d.blocks.l=0:=by simpa using c3
  have st2:stO 1 G' (H.length+1) 0 [w] (some (.cells [.slice .nil 2 []] ag))=some (G'.set (H.length+1) (.cells [w] ag)):=by
   rw [stO_cells (sz:=1) rfl (by simp) (by rcases j3 with ⟨_,rfl⟩ | ⟨_,t,_,rfl,_⟩<;>rfl)];rfl
  have cw:cC w=some [w]:=by rcases j3 with ⟨_,rfl⟩ | ⟨_,t,_,rfl,_⟩<;>rfl
  have gs:(G'.set (H.length+1) (.cells [w] ag))[H.length+1]?=some (.cells [w] ag):=List.getElem?_set_self (bZ j1);have dd:=Sf (g:=fun _=>.any) (fun l=>rfl) (H0:=H) (G:=G'.set (H.length+1) (.cells [w] ag)) (by simpa using j4) (fun m hm=>by rw [List.getElem?_set_ne (by omega)];exact j5 m hm) j3 0;rw [e0];simp (maxSteps:=3000000) (maxDischargeDepth:=6) +contextual -implicitDefEqProofs only [amC M,↓amD,Nat.reduceBEq,Nat.reduceAdd,env,aj,aW,amG,AV.cell,Nat.reduceMul,Nat.reduceLeDiff,g0,g1,kp,k1,c0,Bool.not_true,l1,l2,List.length_map,hms,a1,q0',q1',d1,q0'',i1,j1,j2,cw,st2,gs,dd]
end
section
attribute [local congr] aA bo aM aC aL aG aD aq au aH aI
variable{E:bb}(M:bO bU E)
theorem PM{l:List aw}(h:B5 l=false)(hl:l.length≤256):∀ b∈l,b.pieces.l.length+gR b.pieces.l≤2500:=fun b hb=>by
 unfold B5 at h;rw [List.take_of_length_le (by omega)] at h;cases c:vsB l with
 |true=>rw [c,sel_true] at h;cases h
 |false=>
  have:=List.any_eq_false.1 c b hb;exact DI (by simpa using this)
theorem Nu(g:List ae→Tag)(sl:List bk)(bl:List aw):(qB g sl bl).length≤bl.length:=by
 unfold qB;cases IL sl bl == 0 with
 |true=>rw [sel_true,Hl];exact Nat.le_refl _
 |false=>rw [sel_false];exact Nat.zero_le _
def Docu.kt(d:Docu):Prop:=∀ b∈d.blocks.l,b.pieces.kn
end
section
attribute [local congr] aA bo aM aC aL aG aD aq au aH aI
variable{E:bb}(M:bO bU E)
structure ExtE (M:bO bU E):Prop where
 index:∀ (s:Str) (c:UInt8) (H:List AObj),M.run bY [.str s,.int .u8 c.toNat] H=some (.ret (.int .i64 (Lib.indexByte s c)),H)
 same:∀ (i o:Nat) (H:List AObj),M.run dU [.ptr i o] H=some (.ret (.ptr i o),H)
structure BldE (E:bb):Prop where
end
theorem Nv{s:Str}(hne:s≠[])(hv:¬ ((cT s).1=65533∧(cT s).2=1))(t:Str):cT (s.take (cT s).2++t)=cT s:=by
 have hl:0<s.length:=List.length_pos_iff.2 hne;unfold cT at *
 rw [Lib.decodeL_N s] at *
 rcases Lib.decodeN_shape s.length (s.getD 0 0).toNat (s.getD 1 0).toNat (s.getD 2 0).toNat (s.getD 3 0).toNat with ⟨c,e⟩ | ⟨c1,c2,c3,cv,e⟩ | ⟨c1,c2,c3,c4,cv,cs,e⟩ | ⟨c1,c2,c3,c4,c5,cv,cw,e⟩ | e
 ·rw [e,Lib.takeA s hl,Lib.decodeL_N]
  generalize s.getD 0 0=a at *
  simp only [List.cons_append,List.nil_append,List.getD_cons_zero,List.length_cons];unfold Lib.decodeN;rw [if_pos c]
 ·rw [e,Lib.takeB s c2,Lib.decodeL_N]
  generalize s.getD 0 0=a at *
  generalize s.getD 1 0=b at *
  simp only [List.cons_append,List.nil_append,List.getD_cons_zero,List.getD_cons_succ,List.length_cons];unfold Lib.decodeN;rw [if_neg (by omega),if_pos (by omega),if_pos (by omega)]
 ·rw [e,Lib.takeC s c2,Lib.decodeL_N]
  generalize s.getD 0 0=a at *
  generalize s.getD 1 0=b at *
  generalize s.getD 2 0=d at *
  simp only [List.cons_append,List.nil_append,List.getD_cons_zero,List.getD_cons_succ,List.length_cons];have:=a.toNat_lt;have:=b.toNat_lt;have:=d.toNat_lt;unfold Lib.decodeN;rw [if_neg (by omega),if_neg (by omega),if_pos (by omega),if_pos (by omega)]
 ·rw [e,Lib.takeD s c2,Lib.decodeL_N]
  generalize s.getD 0 0=a at *
  generalize s.getD 1 0=b at *
  generalize s.getD 2 0=d at *
  generalize s.getD 3 0=f at *
  simp only [List.cons_append,List.nil_append,List.getD_cons_zero,List.getD_cons_succ,List.length_cons];unfold Lib.decodeN;rw [if_neg (by omega),if_neg (by omega),if_neg (by omega),if_pos (by omega),if_pos (by omega)]
 ·rw [e] at hv
  exact absurd ⟨rfl,rfl⟩ hv
def qd(r:Nat):Prop:=yk r≠[]∧KV r (yk r).length=false∧∀ t,cT (yk r++t)=(r,(yk r).length)
theorem IP{s:Str}(hne:s≠[])(h:jM s=true):qd (cT s).1∧yk (cT s).1=s.take (cT s).2∧jM (s.drop (cT s).2)=true:=by
 rw [BH hne,Bool.and_eq_true,Bool.not_eq_true'] at h
 have hv:¬ ((cT s).1=65533∧(cT s).2=1):=fun e=>by
  have h1:=h.1;rw [e.1,e.2] at h1;cases h1
 have e1:yk (cT s).1=s.take (cT s).2:=Jv hne hv;have hl:=EW hne;have hw:=pq s;have e2:(s.take (cT s).2).length=(cT s).2:=by rw [List.length_take];omega
 refine ⟨⟨?_, ?_,fun t => ?_⟩,e1,h.2⟩
 ·intro e
  rw [e1] at e;rw [e] at e2;simp at e2;omega
 ·rw [e1,e2];exact h.1
 ·rw [e1,Nv hne hv,e2]
theorem Hm:∀ (n:Nat) (s:Str),s.length≤n→jM s=true→∀ r∈dv s,qd r
 |0,s,h,_,r,hr=>by
  obtain rfl:s=[]:=List.eq_nil_of_length_eq_zero (by omega);cases hr
 |n+1,s,h,ht,r,hr=>by
  by_cases hs:s=[]
  ·subst hs;cases hr
  ·obtain ⟨g1,_,g3⟩:=IP hs ht
   rw [uh hs] at hr;rcases List.mem_cons.1 hr with rfl | hr
   ·exact g1
   ·have hw:=pq s
    exact Hm n _ (by rw [List.length_drop];omega) g3 r hr
theorem vW:∀ (rs:List Nat),(∀ r∈rs,qd r)→dv (l8 rs)=rs∧jM (l8 rs)=true
 |[],_=>⟨rfl,rfl⟩
 |r::rs,h=>by
  obtain ⟨g1,g2,g3⟩:=h r (by simp);obtain ⟨i1,i2⟩:=vW rs fun x hx=>h x (by simp [hx])
  have e:l8 (r::rs)=yk r++l8 rs:=rfl;have hne:l8 (r::rs)≠[]:=by rw [e];simp [g1]
  rw [uh hne,BH hne,e,g3,List.drop_left' rfl,i1,i2,g2];exact ⟨rfl,rfl⟩
theorem lX(a b:List Nat):l8 (a++b)=l8 a++l8 b:=by simp [l8]
theorem PN{rs:List Nat}(h:∀ r∈rs,qd r)(h0:rs≠[]):l8 rs≠[]:=by
 cases rs with
 |nil=>exact absurd rfl h0
 |cons r rs=>
  show yk r++l8 rs≠[];simp [(h r (by simp)).1]
def txP(rs:List Nat):ae:=⟨1,l8 rs,false⟩
def Tx(x:ae):Prop:=(x.kind == 1)=false∨∃ rs,rs≠[]∧(∀ r∈rs,qd r)∧x=txP rs
def Sg(x:ae):Prop:=(x.kind == 1)=false∨∃ r,qd r∧x=txP [r]
theorem txP_one(r:Nat):txP [r]=pA r:=by
 unfold txP pA l8 yk;simp
theorem Sg.tx{x:ae}(h:Sg x):Tx x:=by
 rcases h with h | ⟨r,h1,h2⟩
 ·exact .inl h
 ·exact .inr ⟨[r],by simp,fun y hy=>by simp at hy;subst hy;exact h1,h2⟩
def cN(s:List ae):List ae:=s.foldl cf []
theorem mK(s:List ae)(x:ae):cN (s++[x])=cf (cN s) x:=by unfold cN;rw [List.foldl_append];rfl
theorem putF_txP(l:List ae)(a b:List Nat):cf (l++[txP a]) (txP b)=l++[txP (a++b)]:=by
 rw [fE];show sel true _ _=_;rw [sel_true,txP,txP,txP,lX]
theorem uG{l:List ae}{x p:ae}(h:(x.kind == 1)=false):cf (l++[x]) p=l++[x]++[p]:=by
 rw [fE,h,Bool.and_false,sel_false]
theorem fT{α:Type}(l:List α):l=[]∨∃ m x,l=m++[x]:=by
 rcases List.eq_nil_or_concat l with h | ⟨m,x,h⟩
 ·exact .inl h
 ·exact .inr ⟨m,x,by simpa using h⟩
theorem pE{α:Type}{P:List α→Prop}(h0:P [])(h1:∀ l x,P l→P (l++[x]))(l:List α):P l:=by
 have key:∀ n (l:List α),l.length=n→P l:=by
  intro n;induction n with
  |zero=>intro l hl;rw [List.eq_nil_of_length_eq_zero hl];exact h0
  |succ n ih=>
   intro l hl;rcases fT l with rfl | ⟨m,x,rfl⟩
   ·exact h0
   ·exact h1 m x (ih m (by simpa using hl))
 exact key _ l rfl
theorem mL{l:List ae}(hl:∀ y∈l,Tx y){x:ae}(hx:Tx x):cf l x=l++[x]∨∃ m a b,l=m++[txP a]∧x=txP b∧cf l x=m++[txP (a++b)]:=by
 rcases hx with hx | ⟨b,b0,b1,rfl⟩
 ·exact .inl (uF hx)
 ·rcases fT l with rfl | ⟨m,y,rfl⟩
  ·exact .inl rfl
  ·rcases hl y (by simp) with hy | ⟨a,a0,a1,rfl⟩
   ·exact .inl (uG hy)
   ·exact .inr ⟨m,a,b,rfl,rfl,putF_txP _ _ _⟩
theorem Nw{l:List ae}(hl:∀ y∈l,Tx y){x:ae}(hx:Tx x):∀ y∈cf l x,Tx y:=fun y hy=>by
 rcases mL hl hx with h | ⟨m,a,b,rfl,rfl,h⟩
 ·rw [h] at hy
  rcases List.mem_append.1 hy with hy | hy
  ·exact hl y hy
  ·simp at hy;subst hy;exact hx
 ·rw [h] at hy
  rcases List.mem_append.1 hy with hy | hy
  ·exact hl y (by simp [hy])
  ·simp at hy;subst hy
   have h1:=hl (txP a) (by simp);rcases h1 with h1 | ⟨a',n1,g1,e1⟩
   ·cases h1
   rcases hx with h2 | ⟨b',n2,g2,e2⟩
   ·cases h2
   refine .inr ⟨a'++b',by simp [n1],fun r hr => ?_, ?_⟩
   ·rcases List.mem_append.1 hr with hr | hr
    ·exact g1 r hr
    ·exact g2 r hr
   ·unfold txP at *
    injection e1 with _ e1 _;injection e2 with _ e2 _;rw [lX,lX,e1,e2]
theorem rk:∀ (s:List ae) {c:List ae},(∀ y∈c,Tx y)→(∀ y∈s,Tx y)→∀ y∈s.foldl cf c,Tx y
 |[],_,hc,_=>hc
 |x::s,_,hc,hs=>rk s (Nw hc (hs x (by simp))) fun y hy=>hs y (by simp [hy])
theorem lY{s:List ae}(h:∀ y∈s,Tx y):∀ y∈cN s,Tx y:=rk s (fun y hy=>(by cases hy)) h
theorem PO(c:List ae)(hc:∀ y∈c,Tx y)(a b:List Nat):cf (cf c (txP a)) (txP b)=cf c (txP (a++b)):=by
 rcases fT c with rfl | ⟨m,y,rfl⟩
 ·show cf ([]++[txP a]) (txP b)=[]++[txP (a++b)]
  exact putF_txP _ _ _
 ·rcases hc y (by simp) with hy | ⟨d,_,_,rfl⟩
  ·rw [uG hy,uG hy,putF_txP]
  ·rw [putF_txP,putF_txP,putF_txP,List.append_assoc]
theorem oH{c:List ae}(hc:∀ y∈c,Tx y)(s:List ae)(hs:∀ y∈s,Tx y):(cN s).foldl cf c=s.foldl cf c:=by
 induction s using pE with
 |h0=>rfl
 |h1 s x ih=>
  have hs1:∀ y∈s,Tx y:=fun y hy=>hs y (by simp [hy])
  have ih:=ih hs1;rw [mK,List.foldl_append,List.foldl_cons,List.foldl_nil,← ih];rcases mL (lY hs1) (hs x (by simp)) with h | ⟨m,a,b,e1,e2,h⟩
  ·rw [h,List.foldl_append];rfl
  ·rw [h,e1,e2,List.foldl_append,List.foldl_append,List.foldl_cons,List.foldl_nil,List.foldl_cons,List.foldl_nil]
   have hm:∀ y∈m,Tx y:=fun y hy=>lY hs1 y (by rw [e1];simp [hy])
   rw [PO _ (rk m hc hm)]
theorem mM{c:List ae}(hc:∀ y∈c,(y.kind == 1)=false)(s:List ae)(hs:∀ y∈s,Tx y):s.foldl cf c=c++cN s:=by
 induction s using pE with
 |h0=>simp [cN]
 |h1 s x ih=>
  have hs1:∀ y∈s,Tx y:=fun y hy=>hs y (by simp [hy])
  rw [List.foldl_append,List.foldl_cons,List.foldl_nil,ih hs1,mK];rcases fT (cN s) with e | ⟨m,y,e⟩
  ·rw [e,List.append_nil]
   rcases fT c with rfl | ⟨m,y,rfl⟩
   ·rfl
   ·rw [uG (hc y (by simp))];rfl
  ·rw [e,← List.append_assoc,fE,fE]
   cases x.kind == 1&&y.kind == 1<;>simp [sel]
theorem uu(a b:List ae):iK (a++b)=iK a++iK b:=by simp [iK]
theorem B9(x:ae):iK [x]=pB x:=by simp [iK]
theorem xv{x:ae}(h:(x.kind == 1)=false):pB x=[x]:=by unfold pB;rw [h,sel_false]
theorem uH{rs:List Nat}(h:∀ r∈rs,qd r):pB (txP rs)=rs.map pA:=by
 unfold pB;show sel true _ _=_;rw [sel_true];show (dv (l8 rs)).map pA=_;rw [(vW rs h).1]
theorem JX{l:List ae}(h:∀ y∈l,(y.kind == 1)=false):iK l=l:=by
 induction l with
 |nil=>rfl
 |cons x l ih=>
  show pB x++iK l=_;rw [xv (h x (by simp)),ih fun y hy=>h y (by simp [hy])];rfl
theorem Nx{s:List ae}(hs:∀ y∈s,Sg y):iK (cN s)=s:=by
 induction s using pE with
 |h0=>rfl
 |h1 s x ih=>
  have hs1:∀ y∈s,Sg y:=fun y hy=>hs y (by simp [hy])
  have ih:=ih hs1;have ht:=lY fun y hy=>(hs1 y hy).tx
  have hx:=hs x (by simp)
  have hsx:pB x=[x]:=by
   rcases hx with h | ⟨r,h1,rfl⟩
   ·exact xv h
   ·rw [uH fun y hy=>by simp at hy;subst hy;exact h1,txP_one];rfl
  rw [mK];rcases mL ht hx.tx with h | ⟨m,a,b,e1,e2,h⟩
  ·rw [h,uu,ih,B9,hsx]
  ·have ga:∃ a',(∀ r∈a',qd r)∧txP a=txP a':=by
    rcases ht (txP a) (by rw [e1];simp) with h1 | ⟨a',_,g,e⟩
    ·cases h1
    ·exact ⟨a',g,e⟩
   obtain ⟨a',ga,ea⟩:=ga
   obtain ⟨r,gr,er⟩:∃ r,qd r∧txP b=txP [r]:=by
    rw [e2] at hx;rcases hx with h1 | ⟨r,g,e⟩
    ·cases h1
    ·exact ⟨r,g,e⟩
   have eab:txP (a++b)=txP (a'++[r]):=by
    unfold txP at ea er ⊢;injection ea with _ ea _;injection er with _ er _;rw [lX,lX,ea,er]
   rw [h,eab,uu,B9,uH (fun y hy=>by
    rcases List.mem_append.1 hy with hy | hy
    ·exact ga y hy
    ·simp at hy;subst hy;exact gr),List.map_append,← uH ga,← ea,← List.append_assoc,← B9,← uu,← e1,ih,e2,er,txP_one];rfl
def NA:Bool→List ae→Prop
 |_,[]=>True
 |p,x::l=>(p&&(x.kind == 1))=false∧NA (x.kind == 1) l
theorem Ca{a b:List ae}:∀ {p:Bool},NA p (a++b)↔NA p a∧NA (a.foldl (fun _ x=>x.kind == 1) p) b:=by
 induction a with
 |nil=>intro p;simp [NA]
 |cons x a ih=>intro p;simp only [List.cons_append,NA,List.foldl_cons,ih,and_assoc]
theorem Hn:∀ (l:List ae) (c:List ae) (p:Bool),(∀ y∈l,Tx y)→NA p l→(p=false→∀ m y,c=m++[y]→(y.kind == 1)=false)→(iK l).foldl cf c=c++l
 |[],c,p,_,_,_=>by simp [iK]
 |x::l,c,p,ht,ha,hc=>by
  have hl:∀ y∈l,Tx y:=fun y hy=>ht y (by simp [hy])
  have hcx:cf c x=c++[x]:=by
   cases k:x.kind == 1 with
   |false=>exact uF k
   |true=>
    have h1:=ha.1;rw [k,Bool.and_true] at h1;rcases fT c with rfl | ⟨m,y,rfl⟩
    ·rfl
    ·exact uG (hc h1 m y rfl)
  show (pB x++iK l).foldl cf c=c++x::l;rw [List.foldl_append]
  have h2:(pB x).foldl cf c=c++[x]:=by
   rcases ht x (by simp) with h | ⟨rs,h0,hg,rfl⟩
   ·rw [xv h];exact hcx
   ·rw [uH hg]
    have key:∀ (q:List Nat) (a:List Nat),(q.map pA).foldl cf (c++[txP a])=c++[txP (a++q)]:=by
     intro q;induction q with
     |nil=>intro a;simp
     |cons r q ih=>intro a;rw [List.map_cons,List.foldl_cons,← txP_one,putF_txP,ih,List.append_assoc];rfl
    cases rs with
    |nil=>exact absurd rfl h0
    |cons r rs=>
     have h3:cf c (txP [r])=c++[txP [r]]:=by
      have h1:=ha.1;rw [show ((txP (r::rs)).kind == 1)=true from rfl,Bool.and_true] at h1;rcases fT c with rfl | ⟨m,y,rfl⟩
      ·rfl
      ·exact uG (hc h1 m y rfl)
     rw [List.map_cons,List.foldl_cons,← txP_one,h3,key];rfl
  rw [h2,Hn l (c++[x]) (x.kind == 1) hl ha.2 (fun hp m y e=>by
   have e2:=(List.append_inj' e rfl).2;simp at e2;subst e2;exact hp)]
  simp
def Fk(x:ae):Bool := !(x.kind == 1)||(!(x.text == [])&&jM x.text)
def nxt(st:List Str)(x:ae):List Str:=if x.kind == 2 then x.text::st else if x.kind == 3 then st.tail else st
def okW(b e:Bool)(st:List Str)(x:ae):Bool:=
 !GE x&&(!EY x&&(Fk x&&(!EZ x&&(jN b e x&&(!((x.kind == 3) && !xd st x.text) && !((x.kind == 2)&&decide ((16:Int)<((x.text::st).length:Int))))))))
def Wok:List ae→Bool→Bool→List Str→Prop
 |[],_,_,_=>True
 |x::l,b,e,st=>okW b e st x=true∧Wok l (b || !cM x) (e||bJ x) (nxt st x)
def bF(b:Bool)(l:List ae):Bool:=b||l.any fun x => !cM x
def eF(e:Bool)(l:List ae):Bool:=e||l.any bJ
def sF(st:List Str)(l:List ae):List Str:=l.foldl nxt st
theorem JY(b:Bool)(x:ae)(l:List ae):bF b (x::l)=bF (b || !cM x) l:=by simp [bF,Bool.or_assoc]
theorem Fl(b:Bool)(x:ae)(l:List ae):eF b (x::l)=eF (b||bJ x) l:=by simp [eF,Bool.or_assoc]
theorem uv(b:Bool)(l m:List ae):bF b (l++m)=bF (bF b l) m:=by simp [bF,Bool.or_assoc]
theorem yo(b:Bool)(l m:List ae):eF b (l++m)=eF (eF b l) m:=by simp [eF,Bool.or_assoc]
theorem pF(st:List Str)(l m:List ae):sF st (l++m)=sF (sF st l) m:=List.foldl_append ..
theorem gE:∀ {a c:List ae}{b e:Bool}{st:List Str},Wok (a++c) b e st↔Wok a b e st∧Wok c (bF b a) (eF e a) (sF st a)
 |[],c,b,e,st=>by simp [Wok,bF,eF,sF]
 |x::a,c,b,e,st=>by
  rw [List.cons_append,Wok,Wok,gE,JY,Fl,and_assoc];rfl
theorem k12{x:ae}(h:(x.kind == 1)=true):(x.kind == 2)=false∧(x.kind == 3)=false∧(x.kind == 5)=false:=by
 rw [eq_of_beq h];exact ⟨rfl,rfl,rfl⟩
theorem k23{x:ae}(h:(x.kind == 2)=true):(x.kind == 1)=false∧(x.kind == 3)=false∧(x.kind == 5)=false:=by
 rw [eq_of_beq h];exact ⟨rfl,rfl,rfl⟩
theorem k31{x:ae}(h:(x.kind == 3)=true):(x.kind == 1)=false∧(x.kind == 2)=false∧(x.kind == 5)=false:=by
 rw [eq_of_beq h];exact ⟨rfl,rfl,rfl⟩
theorem JZ(x:ae)(st:List Str):(if x.kind == 2 then x.text::stP x st else stP x st)=nxt st x:=by
 unfold stP nxt;cases c2:x.kind == 2 with
 |true=>simp [(k23 c2).2.1]
 |false=>simp only [Bool.false_eq_true,if_false]
theorem Ny{p:Bool}{x:ae}:K7 p x=false↔Fk x=true∧(p&&(x.kind == 1))=false:=by
 unfold K7 Fk;cases x.kind == 1<;>cases x.text == []<;>cases jM x.text<;>cases p<;>simp
theorem Ho:∀ (l:List ae) (p b e:Bool) (st:List Str),BL l p b e st=0↔NA p l∧Wok l b e st∧sF st l=[]
 |[],p,b,e,st=>by
  unfold BL NA Wok sF;cases st<;>simp [sel]<;>omega
 |x::l,p,b,e,st=>by
  have ih:=Ho l (x.kind == 1) (b || !cM x) (e||bJ x) (nxt st x);rw [BL,NA,Wok,show sF st (x::l)=sF (nxt st x) l from rfl];unfold okW;cases c1:GE x with
  |true=>simp [sel]
  |false=>
  cases c2:EY x with
  |true=>simp [sel]
  |false=>
  cases c3:K7 p x with
  |true=>
   have h3:¬ (Fk x=true∧(p&&(x.kind == 1))=false):=fun h=>by rw [Ny.2 h] at c3;cases c3
   simp only [sel];constructor
   ·intro h;cases h
   ·rintro ⟨⟨h1,_⟩,⟨h2,_⟩,_⟩
    simp only [Bool.and_eq_true] at h2;exact absurd ⟨h2.2.2.1,h1⟩ h3
  |false=>
  obtain ⟨t1,t2⟩:=Ny.1 c3;rw [t1,t2];cases c4:EZ x with
  |true=>simp [sel]
  |false=>
  cases c5:jN b e x with
  |false=>simp [sel]
  |true=>
  cases c6:(x.kind == 3) && !xd st x.text with
  |true=>simp [sel]
  |false=>
  cases c7:x.kind == 2 with
  |false=>
   have hs:stP x st=nxt st x:=by have:=JZ x st;rwa [c7,if_neg (by simp)] at this
   rw [hs];simp only [sel,Bool.not_false,Bool.true_and,Bool.false_and,true_and];exact ih
  |true=>
   have hs:x.text::stP x st=nxt st x:=by have:=JZ x st;rwa [c7,if_pos rfl] at this
   have hp:stP x st=st:=by unfold stP;rw [if_neg (by rw [(k23 c7).2.1];simp)]
   have h2:nxt st x=x.text::st:=by rw [← hs,hp]
   rw [hs,h2];rw [h2] at ih;cases c8:decide ((16:Int)<((x.text::st).length:Int)) with
   |true=>simp [sel]
   |false=>
    simp only [sel,Bool.not_false,Bool.true_and,true_and];exact ih
theorem mN(l:List ae):c9 l=0↔l.length≤512∧NA false l∧Wok l false false []∧sF [] l=[]:=by
 unfold c9;cases c:decide ((512:Int)<(l.length:Int)) with
 |true=>
  have:=of_decide_eq_true c;simp only [sel];constructor
  ·intro h;cases h
  ·intro h;omega
 |false=>
  have:=of_decide_eq_false c;rw [sel_false,Ho];constructor
  ·intro h;exact ⟨by omega,h⟩
  ·intro h;exact h.2
theorem Fm{b e:Bool}{st:List Str}{x:ae}(h:okW b e st x=true):Tx x:=by
 unfold okW at h;simp only [Bool.and_eq_true,Bool.not_eq_true'] at h;cases k:x.kind == 1 with
 |false=>exact .inl k
 |true=>
  have h1:=h.2.1;have h2:=h.2.2.1;unfold EY at h1;rw [(k12 k).1,(k12 k).2.1] at h1;unfold Fk at h2;rw [k] at h2;simp only [Bool.not_true,Bool.false_or,Bool.and_eq_true,Bool.not_eq_true',beq_eq_false_iff_ne] at h2;refine .inr ⟨dv x.text,fun e => ?_,Hm _ _ (Nat.le_refl _) h2.2, ?_⟩
  ·have:=DD h2.2
   rw [e] at this;exact h2.1 this.symm
  ·obtain ⟨kd,t,c⟩:=x
   unfold txP;dsimp only at *
   rw [DD h2.2,eq_of_beq k];simp at h1;rw [h1]
theorem Cb:∀ {l:List ae}{b e:Bool}{st:List Str},Wok l b e st→∀ y∈l,Tx y
 |x::l,b,e,st,h,y,hy=>by
  rcases List.mem_cons.1 hy with rfl | hy
  ·exact Fm h.1
  ·exact Cb h.2 y hy
theorem zR{b e:Bool}{st:List Str}{rs:List Nat}(h0:rs≠[])(hg:∀ r∈rs,qd r):okW b e st (txP rs) = !e:=by
 have h1:Fk (txP rs)=true:=by
  unfold Fk;have h2:=PN hg h0;have h3:=(vW rs hg).2;simp [txP,h2,h3]
 unfold okW;rw [h1];simp [GE,EY,EZ,jN,cM,bJ,txP]
theorem DW{st:List Str}:∀ {rs:List Nat}{b:Bool},(∀ r∈rs,qd r)→Wok (rs.map pA) b false st
 |[],_,_=>trivial
 |r::rs,b,h=>by
  rw [List.map_cons,← txP_one];exact ⟨zR (by simp) fun y hy=>by simp at hy;subst hy;exact h _ (by simp),DW fun y hy=>h y (by simp [hy])⟩
theorem Nz{rs:List Nat}:(∀ st,sF st (rs.map pA)=st)∧(∀ e,eF e (rs.map pA)=e)∧∀ b,rs≠[]→bF b (rs.map pA)=true:=by
 refine ⟨fun st => ?_,fun e => ?_,fun b h => ?_⟩
 ·induction rs with
  |nil=>rfl
  |cons r rs ih=>exact ih
 ·induction rs with
  |nil=>simp [eF]
  |cons r rs ih=>rw [List.map_cons,Fl,show bJ (pA r)=false from rfl,Bool.or_false];exact ih
 ·cases rs with
  |nil=>exact absurd rfl h
  |cons r rs=>simp [bF,pA,cM]
theorem NC:∀ {l:List ae}{b e:Bool}{st:List Str},Wok l b e st→Wok (iK l) b e st∧bF b (iK l)=bF b l∧eF e (iK l)=eF e l∧sF st (iK l)=sF st l
 |[],b,e,st,_=>⟨trivial,rfl,rfl,rfl⟩
 |x::l,b,e,st,h=>by
  obtain ⟨i1,i2,i3,i4⟩:=NC h.2;show Wok (pB x++iK l) _ _ _∧bF _ (pB x++iK l)=_∧eF _ (pB x++iK l)=_∧sF _ (pB x++iK l)=_;rw [uv,yo,pF,JY,Fl,show sF st (x::l)=sF (nxt st x) l from rfl,gE]
  have key:Wok (pB x) b e st∧bF b (pB x)=(b || !cM x)∧eF e (pB x)=(e||bJ x)∧sF st (pB x)=nxt st x:=by
   rcases Fm h.1 with k | ⟨rs,h0,hg,rfl⟩
   ·rw [xv k]
    exact ⟨⟨h.1,trivial⟩,by simp [bF],by simp [eF],rfl⟩
   ·rw [uH hg]
    have he:=h.1;rw [zR h0 hg,Bool.not_eq_true'] at he;subst he;obtain ⟨f1,f2,f3⟩:=Nz (rs:=rs);refine ⟨DW hg, ?_, ?_, ?_⟩
    ·rw [f3 b h0];simp [txP,cM]
    ·rw [f2];rfl
    ·rw [f1];rfl
  obtain ⟨a1,a2,a3,a4⟩:=key;rw [a2,a3,a4];exact ⟨⟨a1,i1⟩,i2,i3,i4⟩
theorem ND:∀ {l:List ae}{b e:Bool}{st:List Str},Wok l b e st→∀ y∈iK l,Sg y
 |x::l,b,e,st,h,y,hy=>by
  rcases List.mem_append.1 (show y∈pB x++iK l from hy) with hy | hy
  ·rcases Fm h.1 with k | ⟨rs,h0,hg,rfl⟩
   ·rw [xv k] at hy;simp at hy;subst hy;exact .inl k
   ·rw [uH hg] at hy
    obtain ⟨r,hr,rfl⟩:=List.mem_map.1 hy;exact .inr ⟨r,hg r hr,(txP_one r).symm⟩
  ·exact ND h.2 y hy
theorem PP{b e:Bool}{st:List Str}{s:List ae}(h:Wok s b e st):Wok (cN s) b e st∧bF b (cN s)=bF b s∧eF e (cN s)=eF e s∧sF st (cN s)=sF st s∧NA false (cN s):=by
 induction s using pE with
 |h0=>exact ⟨trivial,rfl,rfl,rfl,trivial⟩
 |h1 s x ih=>
  obtain ⟨h1,h2⟩:=gE.1 h;obtain ⟨i1,i2,i3,i4,i5⟩:=ih h1;have hs1:=Cb h1;have hx:=Fm h2.1;rw [mK];rcases mL (lY hs1) hx with hc | ⟨m,a,c,e1,e2,hc⟩
  ·rw [hc,uv,yo,pF,uv,yo,pF,i2,i3,i4,gE,i2,i3,i4]
   refine ⟨⟨i1,h2⟩,rfl,rfl,rfl, ?_⟩;rw [Ca];refine ⟨i5, ?_,trivial⟩;rcases fT (cN s) with e0 | ⟨m,y,e0⟩
   ·rw [e0];rfl
   ·rw [e0,List.foldl_append]
    show ((y.kind == 1)&&(x.kind == 1))=false;cases k1:x.kind == 1 with
    |false=>exact Bool.and_false _
    |true=>
     cases k2:y.kind == 1 with
     |false=>rfl
     |true=>
      rw [e0,fE,k1,k2] at hc;have:=congrArg List.length hc;simp [sel] at this
  ·subst e2
   rw [e1] at i1 i2 i3 i4 i5;obtain ⟨j1,j2⟩:=gE.1 i1
   have ha:∃ a',a'≠[]∧(∀ r∈a',qd r)∧txP a=txP a':=by
    rcases lY hs1 (txP a) (by rw [e1];simp) with h1 | ⟨a',n,g,e⟩
    ·cases h1
    ·exact ⟨a',n,g,e⟩
   obtain ⟨a',n1,g1,ea⟩:=ha
   have hcc:∃ c',c'≠[]∧(∀ r∈c',qd r)∧txP c=txP c':=by
    rcases hx with h1 | ⟨c',n,g,e⟩
    ·cases h1
    ·exact ⟨c',n,g,e⟩
   obtain ⟨c',n2,g2,ec⟩:=hcc
   have eac:txP (a++c)=txP (a'++c'):=by
    unfold txP at ea ec ⊢;injection ea with _ ea _;injection ec with _ ec _;rw [lX,lX,ea,ec]
   have g3:∀ r∈a'++c',qd r:=fun r hr=>by
    rcases List.mem_append.1 hr with hr | hr
    ·exact g1 r hr
    ·exact g2 r hr
   rw [hc,eac,uv,yo,pF,uv,yo,pF,← i2,← i3,← i4,uv,yo,pF,gE,Ca];have o1:=j2.1;rw [ea,zR n1 g1] at o1;refine ⟨⟨j1, ?_,trivial⟩, ?_, ?_,rfl, ?_⟩
   ·rw [zR (by simp [n1]) g3];exact o1
   ·simp [bF,txP,cM]
   ·simp [eF,txP,bJ]
   ·rw [Ca] at i5
    exact ⟨i5.1,i5.2.1,trivial⟩
theorem IQ{b e b' e':Bool}{x:ae}(hb:b'=true→b=true)(he:e'=true→e=true)(h:jN b e x=true):jN b' e' x=true:=by
 unfold jN at *
 generalize cM x=o at *
 generalize bJ x=c at *
 revert b e b' e' o c;decide
theorem NF{b e b' e':Bool}{st:List Str}{x:ae}(hb:b'=true→b=true)(he:e'=true→e=true)(h:okW b e st x=true):okW b' e' st x=true:=by
 unfold okW at *
 simp only [Bool.and_eq_true] at h ⊢;exact ⟨h.1,h.2.1,h.2.2.1,h.2.2.2.1,IQ hb he h.2.2.2.2.1,h.2.2.2.2.2⟩
theorem Hp:∀ {l:List ae}{b e b' e':Bool}{st:List Str},(b'=true→b=true)→(e'=true→e=true)→Wok l b e st→Wok l b' e' st
 |[],_,_,_,_,_,_,_,_=>trivial
 |x :: l,b,e,b',e',st,hb,he,h=>⟨NF hb he h.1,Hp (fun hh=>by
    cases b' with
    |true=>rw [hb rfl];rfl
    |false=>simp at hh;simp [hh]) (fun hh=>by
    cases e' with
    |true=>rw [he rfl];rfl
    |false=>simp at hh;simp [hh]) h.2⟩
theorem pG:∀ {l:List ae}{e:Bool}{st:List Str},Wok l true e st→∀ x∈l,cM x=false
 |y::l,e,st,h,x,hx=>by
  rcases List.mem_cons.1 hx with rfl | hx
  ·have h1:=h.1
   unfold okW jN at h1;simp only [Bool.and_eq_true,Bool.not_eq_true',Bool.and_true,Bool.or_eq_false_iff] at h1;exact h1.2.2.2.2.1.1
  ·exact pG h.2 x hx
theorem qe{c:List ae}{y:ae}{t:List ae}{b e:Bool}{st:List Str}(h:Wok (c++y::t) b e st)(hy:(y.kind == 3)=false):∀ x∈c,bJ x=false:=fun x hx=>by
 have h1:=(gE.1 h).2.1;unfold okW jN at h1;simp only [Bool.and_eq_true,Bool.not_eq_true',Bool.or_eq_false_iff] at h1;have h2:=h1.2.2.2.2.1.2;have h3:bJ y=false:=by unfold bJ;rw [hy];rfl
 rw [h3,Bool.not_false,Bool.and_true] at h2;unfold eF at h2;rw [Bool.or_eq_false_iff] at h2;have:=List.any_eq_false.1 h2.2 x hx;simpa using this
def isU(x:ae):Bool:=(x.kind == 1)||(x.kind == 5)
def uN(l:List ae):Nat:=(l.filter isU).length
theorem nO(a b:List ae):uN (a++b)=uN a+uN b:=by simp [uN]
theorem uI(x:ae)(l:List ae):uN (x::l)=(if isU x=true then 1 else 0)+uN l:=by
 unfold uN;rw [List.filter_cons];split<;>simp;omega
theorem J0{l:List ae}(h:∀ x∈l,isU x=false):uN l=0:=by
 unfold uN;rw [List.length_eq_zero_iff,List.filter_eq_nil_iff];intro x hx;simp [h x hx]
theorem J1{x:ae}(h:(x.kind == 3)=true):isU x=false:=by unfold isU;rw [(k31 h).1,(k31 h).2.2];rfl
theorem Si{x:ae}(h:(x.kind == 2)=true):isU x=false:=by unfold isU;rw [(k23 h).1,(k23 h).2.2];rfl
def Hd(s:List ae):Prop:=∃ y t,s=y::t∧(y.kind == 3)=false
def Ck:Nat→List ae→Prop
 |d,[]=>d=0
 |0,x::c=>(x.kind == 3)=true∧Ck 0 c
 |d+1,x::c=>Ck (if isU x=true then d else d+1) c
def brk:Nat→List ae→List ae×List ae
 |_,[]=>([],[])
 |0,x::s=>if (x.kind == 3)=true then (x::(brk 0 s).1,(brk 0 s).2) else ([],x::s)
 |d+1,x::s=>(x::(brk (if isU x=true then d else d+1) s).1,(brk (if isU x=true then d else d+1) s).2)
theorem IR:∀ (s:List ae) (d:Nat),d<uN s→Ck d (brk d s).1∧s=(brk d s).1++(brk d s).2∧Hd (brk d s).2
 |[],d,h=>by simp [uN] at h
 |x::s,0,h=>by
  rw [uI] at h;cases k:x.kind == 3 with
  |true=>
   rw [J1 k] at h;obtain ⟨i1,i2,i3⟩:=IR s 0 (by simpa using h);unfold brk;rw [if_pos k];exact ⟨⟨k,i1⟩,by rw [List.cons_append,← i2],i3⟩
  |false=>
   unfold brk;rw [if_neg (by rw [k];simp)];exact ⟨rfl,rfl,x,s,rfl,k⟩
 |x::s,d+1,h=>by
  rw [uI] at h;obtain ⟨i1,i2,i3⟩:=IR s (if isU x=true then d else d+1) (by split at h<;>simp_all<;>omega);unfold brk;exact ⟨i1,by rw [List.cons_append,← i2],i3⟩
theorem xw:∀ {c:List ae}{d:Nat},Ck d c→uN c=d
 |[],d,h=>by unfold Ck at h;subst h;rfl
 |x::c,0,h=>by rw [uI,xw h.2,J1 h.1];rfl
 |x::c,d+1,h=>by
  have:=xw (c:=c) (d:=if isU x=true then d else d+1) h;rw [uI,this];split<;>omega
theorem J2:∀ {O:List ae}{d:Nat}{c:List ae},(∀ x∈O,isU x=false)→0<d→Ck d c→Ck d (O++c)
 |[],d,c,_,_,h=>h
 |x::O,0,c,hO,hd,h=>by omega
 |x::O,d+1,c,hO,hd,h=>by
  show Ck (if isU x=true then d else d+1) (O++c);rw [hO x (by simp)];exact J2 (fun y hy=>hO y (by simp [hy])) hd h
def Cks:Nat→List Int→List (List ae)→Prop
 |_,[],cs => ∃ c,cs=[c]
 |_,_::_,[]=>False
 |n,p::P,c::cs=>(n:Int)<p∧Ck (p.toNat-n) c∧Hd cs.flatten∧Cks p.toNat P cs
def C7(N:Nat):Nat→List Int→Prop
 |_,[]=>True
 |n,p::P=>(n:Int)<p∧p<(N:Int)∧C7 N p.toNat P
theorem IS(N:Nat):∀ (pos:List Int) (q:Option Int) (n:Nat),(∀ x,q=some x→(n:Int)=x)→(q=none→n=0)→okA (N:Int) q pos=true→C7 N n pos
 |[],_,_,_,_,_=>trivial
 |p::P,q,n,hq,hn,h=>by
  rw [xo] at h;simp only [Bool.and_eq_true,Bool.not_eq_true',decide_eq_false_iff_not] at h;obtain ⟨h1,h2,h3,h4⟩:=h;refine ⟨?_,by omega,IS N P (some p) p.toNat (fun x hx=>by cases hx;omega) (fun e=>by cases e) h4⟩;cases q with
  |none=>rw [hn rfl];omega
  |some x=>
   have:=hq x rfl;simp only [decide_eq_false_iff_not,Bool.not_eq_true'] at h3;omega
theorem NG(N:Nat):∀ (pos:List Int) (n:Nat) (s:List ae),C7 N n pos→uN s+n=N→∃ cs,cs.flatten=s∧Cks n pos cs
 |[],n,s,_,_=>⟨[s],by simp,s,rfl⟩
 |p::P,n,s,h,hu=>by
  obtain ⟨h1,h2,h3⟩:=h;obtain ⟨b1,b2,b3⟩:=IR s (p.toNat-n) (by omega);have hc:=xw b1;have hs:=congrArg uN b2;rw [nO] at hs;obtain ⟨cs,c1,c2⟩:=NG N P p.toNat (brk (p.toNat-n) s).2 h3 (by omega);exact ⟨(brk (p.toNat-n) s).1::cs,by rw [List.flatten_cons,c1,← b2],h1,b1,by rw [c1];exact b3,c2⟩
theorem xx:∀ {pos:List Int}{n:Nat}{cs:List (List ae)},Cks n pos cs→cs.length=pos.length+1
 |[],_,_,⟨c,h⟩=>by rw [h];rfl
 |p::P,n,[],h=>absurd h id
 |p::P,n,c::cs,h=>by rw [List.length_cons,xx h.2.2.2];rfl
def IT(cur:List ae)(o:List Str):List (List ae)→List (List ae)
 |[]=>[]
 |c::cs=>match cs with
  |[]=>[c.foldl cf cur]
  |d::cs=>(c.foldl cf cur++(c.foldl cG o).reverse.map fY)::IT ((c.foldl cG o).map ee) (c.foldl cG o) (d::cs)
theorem Hq(cur:List ae)(o:List Str)(c:List ae):IT cur o [c]=[c.foldl cf cur]:=rfl
theorem Hr(cur:List ae)(o:List Str)(c d:List ae)(cs:List (List ae)):IT cur o (c::d::cs)=(c.foldl cf cur++(c.foldl cG o).reverse.map fY)::IT ((c.foldl cG o).map ee) (c.foldl cG o) (d::cs):=rfl
theorem IU{pos:List Int}:∀ (c:List ae) (d:Nat) (T:CSt),Ck d c→T.done.length<pos.length→pos.getD T.done.length 0=((T.place+d:Nat):Int)→c.foldl (pD pos) T = { T with cur:=c.foldl cf T.cur,opn:=c.foldl cG T.opn,place:=T.place+d }
 |[],d,T,h,_,_=>by unfold Ck at h;subst h;rfl
 |x::c,0,T,h,hm,hp=>by
  have hc:uo pos T x=false:=by unfold uo;rw [h.1,Bool.not_true,Bool.and_false,Bool.and_false]
  have hS:pD pos T x = { T with cur:=cf T.cur x,opn:=cG T.opn x }:=by
   unfold pD;rw [hc,sel_false];unfold C4;rw [show ((x.kind == 1)||(x.kind == 5))=isU x from rfl,J1 h.1,sel_false]
  rw [List.foldl_cons,hS,IU c 0 { T with cur:=cf T.cur x,opn:=cG T.opn x } h.2 hm hp];rfl
 |x::c,d+1,T,h,hm,hp=>by
  have hc:uo pos T x=false:=by
   unfold uo;rw [hp,show ((T.place:Int) == ((T.place+(d+1):Nat):Int))=false from beq_eq_false_iff_ne.2 (by omega),Bool.false_and,Bool.and_false]
  have hS:pD pos T x = { T with cur:=cf T.cur x,opn:=cG T.opn x,place:=if isU x=true then T.place+1 else T.place }:=by
   unfold pD;rw [hc,sel_false];unfold C4;rw [show ((x.kind == 1)||(x.kind == 5))=isU x from rfl];cases isU x<;>rfl
  rw [List.foldl_cons,hS,IU c (if isU x=true then d else d+1) { T with cur:=cf T.cur x,opn:=cG T.opn x,place:=if isU x=true then T.place+1 else T.place } h hm (by
   dsimp only;rw [hp];split<;>omega)]
  dsimp only
  have:(if isU x=true then T.place+1 else T.place)+(if isU x=true then d else d+1)=T.place+(d+1):=by split<;>omega
  rw [this];rfl
theorem J3{pos:List Int}:∀ (c:List ae) (T:CSt),pos.length≤T.done.length→(c.foldl (pD pos) T).done=T.done∧(c.foldl (pD pos) T).cur=c.foldl cf T.cur
 |[],_,_=>⟨rfl,rfl⟩
 |x::c,T,hm=>by
  have hc:uo pos T x=false:=by unfold uo;rw [decide_eq_false (by omega),Bool.false_and]
  have hS:pD pos T x=C4 T x:=by unfold pD;rw [hc,sel_false]
  rw [List.foldl_cons,hS,List.foldl_cons];exact J3 c (C4 T x) hm
theorem J4{pos:List Int}:∀ (cs:List (List ae)) (P:List Int) (T:CSt),pos.drop T.done.length=P→Cks T.place P cs→(cs.flatten.foldl (pD pos) T).done++[(cs.flatten.foldl (pD pos) T).cur]=T.done++IT T.cur T.opn cs
 |cs,[],T,hp,hk=>by
  obtain ⟨c,rfl⟩:=hk
  have hl:pos.length≤T.done.length:=by
   have:=congrArg List.length hp;simp at this;omega
  obtain ⟨h1,h2⟩:=J3 (pos:=pos) [c].flatten T hl;rw [h1,h2,Hq];simp
 |[],p::P,T,hp,hk=>absurd hk id
 |c::cs,p::P,T,hp,hk=>by
  obtain ⟨k1,k2,k3,k4⟩:=hk
  have hm:T.done.length<pos.length:=by
   have:=congrArg List.length hp;simp at this;omega
  have hpm:pos.getD T.done.length 0=p:=by
   have:=congrArg (fun l:List Int=>l[0]?) hp;simp only [List.getElem?_drop,Nat.add_zero,List.getElem?_cons_zero] at this;simp [List.getD,this]
  have hpP:pos.drop (T.done.length+1)=P:=by rw [← List.drop_drop,hp];rfl
  have h1:=IU c (p.toNat-T.place) T k2 hm (by rw [hpm];omega);rw [List.flatten_cons,List.foldl_append,h1,show T.place+(p.toNat-T.place)=p.toNat by omega];obtain ⟨y,t,hyt,hy⟩:=k3;obtain ⟨T1,hT1⟩:∃ T1:CSt,T1 = { T with cur:=c.foldl cf T.cur,opn:=c.foldl cG T.opn,place:=p.toNat }:=⟨_,rfl⟩
  rw [← hT1];have e1:T1.done=T.done:=by rw [hT1]
  have e2:T1.place=p.toNat:=by rw [hT1]
  have hc1:uo pos T1 y=true:=by
   unfold uo;rw [e1,e2,hpm,hy,decide_eq_true hm];simp;omega
  have hc2:uo pos (pC T1) y=false:=by
   unfold uo;have e3:(pC T1).done.length=T.done.length+1:=by unfold pC;rw [e1];simp
   have e4:(pC T1).place=p.toNat:=by unfold pC;exact e2
   rw [e3,e4];cases P with
   |nil=>
    have:pos.length≤T.done.length+1:=by
     have:=congrArg List.length hpP;simp at this;omega
    rw [decide_eq_false (by omega),Bool.false_and]
   |cons p' P'=>
    have h5:pos.getD (T.done.length+1) 0=p':=by
     have:=congrArg (fun l:List Int=>l[0]?) hpP;simp only [List.getElem?_drop,Nat.add_zero,List.getElem?_cons_zero] at this;simp [List.getD,this]
    cases cs with
    |nil=>exact absurd k4 id
    |cons c' cs'=>
     have:=k4.1;rw [h5,show (((p.toNat:Nat):Int) == p')=false from beq_eq_false_iff_ne.2 (by omega),Bool.false_and,Bool.and_false]
  have hS:pD pos T1 y=pD pos (pC T1) y:=by unfold pD;rw [hc1,hc2];rfl
  rw [hyt,List.foldl_cons,hS,← List.foldl_cons (f:=pD pos) (b:=pC T1),← hyt]
  have ih:=J4 cs P (pC T1) (by unfold pC;rw [e1];simpa using hpP) (by
   show Cks T1.place P cs;rw [e2];exact k4)
  rw [ih];cases cs with
  |nil=>simp at hyt
  |cons d cs=>
   rw [Hr,hT1];simp [pC]
theorem oI:∀ (l:List ae),(unL l).length=uN (iK l)
 |[]=>rfl
 |x::l=>by
  show (unP x++unL l).length=uN (pB x++iK l);rw [List.length_append,nO,oI l];congr 1;unfold unP pB;cases k5:x.kind == 5 with
  |true=>
   have k1:(x.kind == 1)=false:=by rw [eq_of_beq k5];rfl
   rw [k1,sel_true,sel_false,uI];simp [isU,k5,uN]
  |false=>
   rw [sel_false];cases k1:x.kind == 1 with
   |true=>
    rw [sel_true,sel_true,List.length_map];unfold uN;rw [List.filter_eq_self.2 (fun y hy=>by obtain ⟨r,_,rfl⟩:=List.mem_map.1 hy;rfl),List.length_map]
   |false=>
    rw [sel_false,sel_false,uI];simp [isU,k1,k5,uN]
theorem PQ{l:List ae}{pos:List Int}(h:okA ((unL l).length:Int) none pos=true):∃ cs,cs.flatten=iK l∧Cks 0 pos cs∧nM l pos=IT [] [] cs:=by
 obtain ⟨cs,c1,c2⟩:=NG (uN (iK l)) pos 0 (iK l) (IS _ pos none 0 (fun x hx=>by cases hx) (fun _=>rfl) (by rw [← oI];exact h)) rfl;refine ⟨cs,c1,c2, ?_⟩;rw [Nj h];unfold Rw Pz;have:=J4 (pos:=pos) cs pos ⟨[],[],[],0,false,[]⟩ rfl c2;rw [← c1,this];rfl
theorem mO{o:List Str}{y:ae}(h:y∈o.map ee):(y.kind == 1)=false:=by obtain ⟨s,_,rfl⟩:=List.mem_map.1 h;rfl
theorem Cc{o:List Str}{y:ae}(h:y∈o.map fY):(y.kind == 1)=false:=by obtain ⟨s,_,rfl⟩:=List.mem_map.1 h;rfl
theorem Qy{o:List Str}{y:ae}(h:y∈o.map ee):isU y=false:=by obtain ⟨s,_,rfl⟩:=List.mem_map.1 h;rfl
theorem Sj{o:List Str}{y:ae}(h:y∈o.map fY):isU y=false:=by obtain ⟨s,_,rfl⟩:=List.mem_map.1 h;rfl
theorem NH(o:List Str)(x:ae):(cG o x).reverse=nxt o.reverse x:=by
 unfold cG nxt;cases k2:x.kind == 2 with
 |true=>simp [sel]
 |false=>
  cases k3:x.kind == 3 with
  |true=>simp [sel]
  |false=>simp [sel]
theorem kO:∀ (c:List ae) (o:List Str),(c.foldl cG o).reverse=sF o.reverse c
 |[],_=>rfl
 |x::c,o=>by rw [List.foldl_cons,kO c,NH];rfl
def NI(st:List Str):Prop:=(∀ s∈st,xc s=true)∧st.length≤16
theorem NJ:∀ {c:List ae}{b e:Bool}{st:List Str},NI st→Wok c b e st→NI (sF st c)
 |[],_,_,_,h,_=>h
 |x::c,b,e,st,h,hw=>by
  refine NJ (c:=c) ?_ hw.2;have h1:=hw.1;unfold okW at h1;simp only [Bool.and_eq_true,Bool.not_eq_true'] at h1;unfold nxt;cases k2:x.kind == 2 with
  |true=>
   have h2:=h1.2.2.2.1;have h3:=h1.2.2.2.2.2.2;unfold EZ at h2;rw [(k23 k2).1,Bool.not_false,Bool.true_and,Bool.not_eq_false'] at h2;rw [k2,Bool.true_and,decide_eq_false_iff_not] at h3;simp only [if_true];refine ⟨fun s hs => ?_,by simp at h3 ⊢;omega⟩;rcases List.mem_cons.1 hs with rfl | hs
   ·exact h2
   ·exact h.1 s hs
  |false=>
   simp only [Bool.false_eq_true,if_false];split
   ·exact ⟨fun s hs=>h.1 s (List.mem_of_mem_tail hs),by have:=h.2;simp;omega⟩
   ·exact h
theorem J5:∀ {o:List Str}{st:List Str},(∀ s∈o,xc s=true)→st.length+o.length≤16→Wok (o.map ee) false false st∧sF st (o.map ee)=o.reverse++st
 |[],_,_,_=>⟨trivial,rfl⟩
 |s::o,st,h,hl=>by
  obtain ⟨i1,i2⟩:=J5 (o:=o) (st:=s::st) (fun x hx=>h x (by simp [hx])) (by simp at hl ⊢;omega);have hn:=h s (by simp);refine ⟨⟨?_, ?_⟩, ?_⟩
  ·unfold okW
   have h16:decide ((16:Int)<(((ee s).text::st).length:Int))=false:=decide_eq_false (by simp at hl ⊢;omega);rw [h16];simp [GE,EY,Fk,EZ,jN,cM,bJ,ee,hn]
  ·exact i1
  ·show sF (s::st) (o.map ee)=_
   rw [i2];simp
theorem Rx(o:List Str):bF false (o.map ee)=false∧eF false (o.map ee)=false:=by
 induction o with
 |nil=>exact ⟨rfl,rfl⟩
 |cons s o ih=>exact ih
theorem J6:∀ {st:List Str}{b e:Bool},(∀ s∈st,xc s=true)→Wok (st.map fY) b e st∧sF st (st.map fY)=[]
 |[],_,_,_=>⟨trivial,rfl⟩
 |s::st,b,e,h=>by
  obtain ⟨i1,i2⟩:=J6 (st:=st) (b:=b||true) (e:=e||true) (fun x hx=>h x (by simp [hx]));have hn:=h s (by simp);refine ⟨⟨?_,i1⟩,i2⟩;unfold okW;simp [GE,EY,Fk,EZ,jN,cM,bJ,fY,hn,xd]
theorem NK:∀ {l:List ae}{p:Bool},(∀ y∈l,(y.kind == 1)=false)→NA p l
 |[],_,_=>trivial
 |x::l,p,h=>⟨by rw [h x (by simp),Bool.and_false],NK fun y hy=>h y (by simp [hy])⟩
theorem PR{l:List ae}(h:∀ y∈l,(y.kind == 1)=false):l.foldl (fun _ x=>x.kind == 1) false=false:=by
 rcases fT l with rfl | ⟨m,x,rfl⟩
 ·rfl
 ·rw [List.foldl_append];exact h x (by simp)
theorem J7{o st:List Str}{c:List ae}{b e:Bool}(ho:NI o.reverse)(hc:Wok c b e o.reverse)(hst:sF o.reverse c=st)(hl:(o.map ee++(cN c++st.map fY)).length≤512):c9 (o.map ee++(cN c++st.map fY))=0:=by
 rw [mN];have hs2:=NJ ho hc;rw [hst] at hs2;obtain ⟨w1,w2⟩:=J5 (o:=o) (st:=[]) (fun s hs=>ho.1 s (by simp [hs])) (by have:=ho.2;simp at this ⊢;omega);obtain ⟨be1,be2⟩:=Rx o;obtain ⟨n1,n2,n3,n4,n5⟩:=PP (Hp (b':=false) (e':=false) (fun h=>by cases h) (fun h=>by cases h) hc);rw [List.append_nil] at w2;rw [hst] at n4;obtain ⟨c1,c2⟩:=J6 (st:=st) (b:=bF false (cN c)) (e:=eF false (cN c)) hs2.1;refine ⟨hl, ?_, ?_, ?_⟩
 ·rw [Ca,Ca]
  refine ⟨NK fun y hy=>mO hy, ?_,NK fun y hy=>Cc hy⟩;rw [PR fun y hy=>mO hy];exact n5
 ·rw [gE,gE,w2,be1,be2,n4]
  exact ⟨w1,n1,c1⟩
 ·rw [pF,pF,w2,n4,c2]
theorem Cd{o st:List Str}{c:List ae}(hs:∀ y∈c,Sg y):iK (o.map ee++(cN c++st.map fY))=o.map ee++(c++st.map fY):=by
 rw [uu,uu,Nx hs,JX fun y hy=>mO hy,JX fun y hy=>Cc hy]
theorem Ce{o st:List Str}{c:List ae}(hs:∀ y∈c,Sg y):(unL (o.map ee++(cN c++st.map fY))).length=uN c:=by
 rw [oI,Cd hs,nO,nO,J0 fun y hy=>Qy hy,J0 fun y hy=>Sj hy];omega
theorem xy:∀ (C:List ae) (l:List ae),(∀ y∈C,(y.kind == 1)=false)→C.foldl cf l=l++C
 |[],l,_=>by simp
 |x::C,l,h=>by rw [List.foldl_cons,uF (h x (by simp)),xy C _ fun y hy=>h y (by simp [hy])];simp
def parts(o:List Str):List (List ae)→List (List ae)
 |[]=>[]
 |c::cs=>match cs with
  |[]=>[o.map ee++(cN c++([]:List Str).map fY)]
  |d::cs=>(o.map ee++(cN c++(c.foldl cG o).reverse.map fY))::parts (c.foldl cG o) (d::cs)
theorem gj(o:List Str)(c:List ae):parts o [c]=[o.map ee++(cN c++([]:List Str).map fY)]:=rfl
theorem fG(o:List Str)(c d:List ae)(cs:List (List ae)):parts o (c::d::cs)=(o.map ee++(cN c++(c.foldl cG o).reverse.map fY))::parts (c.foldl cG o) (d::cs):=rfl
theorem DX:∀ (cs:List (List ae)) (o:List Str),(∀ y∈cs.flatten,Sg y)→IT (o.map ee) o cs=parts o cs
 |[],_,_=>rfl
 |[c],o,h=>by
  rw [Hq,gj,mM (fun y hy=>mO hy) c fun y hy=>(h y (by simpa using hy)).tx];simp
 |c::d::cs,o,h=>by
  rw [Hr,fG,DX (d::cs) _ fun y hy=>h y (by rw [List.flatten_cons];exact List.mem_append_right _ hy),mM (fun y hy=>mO hy) c fun y hy=>(h y (by simp [hy])).tx,List.append_assoc]
theorem yp:∀ (cs:List (List ae)) (o:List Str) (b e:Bool),NI o.reverse→Wok cs.flatten b e o.reverse→(∀ y∈cs.flatten,Sg y)→sF o.reverse cs.flatten=[] →
  ∀ (i:Nat) (p c:List ae),(parts o cs)[i]?=some p→cs[i]?=some c→(p.length≤512→c9 p=0)∧(unL p).length=uN c
 |[],_,_,_,_,_,_,_,i,p,c,h,_=>by simp [parts] at h
 |[c],o,b,e,ho,hw,hs,hf,i,p,c',hp,hc=>by
  cases i with
  |succ i=>simp at hc
  |zero=>
   rw [gj] at hp;simp only [List.getElem?_cons_zero,Option.some.injEq] at hp hc;subst hp hc;have e1:[c].flatten=c:=by simp
   rw [e1] at hw hs hf;exact ⟨fun hl=>J7 ho hw hf hl,Ce hs⟩
 |c::d::cs,o,b,e,ho,hw,hs,hf,i,p,c',hp,hc=>by
  rw [List.flatten_cons] at hw hs hf;obtain ⟨w1,w2⟩:=gE.1 hw;rw [pF] at hf;have hrev:=kO c o;have ho2:=NJ ho w1;rw [← hrev] at ho2 hf w2;rw [fG] at hp;cases i with
  |zero=>
   simp only [List.getElem?_cons_zero,Option.some.injEq] at hp hc;subst hp hc;exact ⟨fun hl=>J7 ho w1 hrev.symm hl,Ce fun y hy=>hs y (by simp [hy])⟩
  |succ i=>
   simp only [List.getElem?_cons_succ] at hp hc;exact yp (d::cs) _ _ _ ho2 w2 (fun y hy=>hs y (List.mem_append_right _ hy)) hf i p c' hp hc
theorem iT:∀ (cs:List (List ae)) (o:List Str),(parts o cs).length=cs.length
 |[],_=>rfl
 |[c],_=>rfl
 |c::d::cs,o=>by rw [fG,List.length_cons,iT (d::cs)];rfl
theorem iB(n i:Nat):∀ (l cur:List ae),glue1 n i cur l=(l.filter fun x => !lW n i x).foldl cf cur
 |[],_=>rfl
 |x::l,cur=>by
  show glue1 n i (sel (lW n i x) cur (cf cur x)) l=_;rw [iB n i l,List.filter_cons];cases lW n i x<;>rfl
theorem PS{l:List ae}{x y:ae}(h:y∈cf l x):(y.kind == 1)=true∨y∈l∨y=x:=by
 rcases fT l with rfl | ⟨m,z,rfl⟩
 ·rw [GQ] at h;simp at h;exact .inr (.inr h)
 ·rw [fE] at h
  cases k:x.kind == 1&&z.kind == 1 with
  |true=>
   rw [k,sel_true] at h;rcases List.mem_append.1 h with h | h
   ·exact .inr (.inl (by simp [h]))
   ·simp at h;subst h
    rw [Bool.and_eq_true] at k;exact .inl k.2
  |false=>
   rw [k,sel_false] at h;rcases List.mem_append.1 h with h | h
   ·exact .inr (.inl h)
   ·simp at h;exact .inr (.inr h)
theorem Cf{s:List ae}:∀ {y:ae},y∈cN s→(y.kind == 1)=true∨y∈s:=by
 induction s using pE with
 |h0=>intro y hy;cases hy
 |h1 s x ih=>
  intro y hy;rw [mK] at hy;rcases PS hy with h | h | h
  ·exact .inl h
  ·rcases ih h with h | h
   ·exact .inl h
   ·exact .inr (by simp [h])
  ·exact .inr (by simp [h])
theorem Cg{n i:Nat}(hi:0<i)(s:Str):lW n i (ee s)=true:=by unfold lW;simp [ee,hi]
theorem Ch{n i:Nat}(hi:i+1<n)(s:Str):lW n i (fY s)=true:=by unfold lW;simp [fY,hi]
theorem PT{n i:Nat}{x:ae}(h1:0<i→cM x=false)(h2:i+1<n→bJ x=false):lW n i x=false:=by
 unfold lW cM bJ at *
 cases c:x.car<;>cases k2:x.kind == 2<;>cases k3:x.kind == 3<;>simp_all
theorem oJ{n i:Nat}{c:List ae}(h1:0<i→∀ x∈c,cM x=false)(h2:i+1<n→∀ x∈c,bJ x=false):(cN c).filter (fun x => !lW n i x)=cN c:=
 List.filter_eq_self.2 fun x hx=>by
  rw [Bool.not_eq_true'];rcases Cf hx with h | h
  ·unfold lW;rw [(k12 h).1,(k12 h).2.1];simp
  ·exact PT (fun hi=>h1 hi x h) (fun hi=>h2 hi x h)
def Hds:List (List ae)→Prop
 |[]=>True
 |c::cs=>match cs with
  |[]=>True
  |d::cs=>Hd (d::cs).flatten∧Hds (d::cs)
theorem Fo:∀ {pos:List Int}{n:Nat}{cs:List (List ae)},Cks n pos cs→Hds cs
 |[],n,cs,⟨c,h⟩=>by rw [h];exact True.intro
 |p::P,n,[],h=>absurd h id
 |p::P,n,[c],h=>True.intro
 |p::P,n,c::d::cs,h=>⟨h.2.2.1,Fo h.2.2.2⟩
theorem DY(n:Nat):∀ (cs:List (List ae)) (o:List Str) (e:Bool) (i:Nat) (cur:List ae) (ps:List (Sl ae)),cs≠[]→ps.map (·.l)=parts o cs→(∀ y∈cs.flatten,Sg y)→Wok cs.flatten true e o.reverse→Hds cs→0<i→n=i+cs.length→(∀ y∈cur,Tx y) →
  mj n i cur ps=cs.flatten.foldl cf cur
 |[],_,_,_,_,_,h,_,_,_,_,_,_,_=>absurd rfl h
 |[c],o,e,i,cur,ps,_,hps,hs,hw,_,hi,hn,ht=>by
  rw [gj] at hps;cases ps with
  |nil=>cases hps
  |cons q ps=>
   cases ps with
   |cons q2 ps=>simp at hps
   |nil=>
    simp only [List.map_cons,List.map_nil,List.cons.injEq,and_true] at hps;have e1:[c].flatten=c:=by simp
    rw [e1] at hs hw ⊢;show glue1 n i cur q.l=_;rw [iB,hps,List.filter_append,List.filter_append,oJ (fun _=>pG hw) (fun h=>by rw [hn] at h;simp at h)];rw [List.filter_eq_nil_iff.2 (fun x hx=>by obtain ⟨s,_,rfl⟩:=List.mem_map.1 hx;rw [Cg hi];simp)];simp only [List.map_nil,List.filter_nil,List.append_nil,List.nil_append];exact oH ht c fun y hy=>(hs y hy).tx
 |c::d::cs,o,e,i,cur,ps,_,hps,hs,hw,hh,hi,hn,ht=>by
  rw [fG] at hps;cases ps with
  |nil=>cases hps
  |cons q ps=>
   simp only [List.map_cons,List.cons.injEq] at hps;rw [List.flatten_cons] at hs hw ⊢;obtain ⟨y,t,hyt,hy⟩:=hh.1;obtain ⟨w1,w2⟩:=gE.1 hw;have hcl:∀ x∈c,bJ x=false:=qe (by rw [hyt] at hw;exact hw) hy
   have hg:glue1 n i cur q.l=c.foldl cf cur:=by
    rw [iB,hps.1,List.filter_append,List.filter_append,oJ (fun _=>pG w1) (fun _=>hcl)];rw [List.filter_eq_nil_iff.2 (fun x hx=>by obtain ⟨s,_,rfl⟩:=List.mem_map.1 hx;rw [Cg hi];simp),List.filter_eq_nil_iff.2 (fun x hx=>by obtain ⟨s,_,rfl⟩:=List.mem_map.1 hx;rw [Ch (by rw [hn];simp)];simp)];simp only [List.append_nil,List.nil_append];exact oH ht c fun y hy=>(hs y (by simp [hy])).tx
   show mj n (i+1) (glue1 n i cur q.l) ps=_;rw [hg,List.foldl_append];rw [← kO,show bF true c=true from by simp [bF]] at w2;exact DY n (d::cs) _ _ (i+1) _ ps (by simp) hps.2 (fun y hy=>hs y (List.mem_append_right _ hy)) w2 hh.2 (by omega) (by rw [hn];simp;omega) (rk c ht fun y hy=>(hs y (by simp [hy])).tx)
theorem Fp{c:List ae}(h:0<uN c):bF false c=true:=by
 unfold uN at h;obtain ⟨x,hx⟩:=List.exists_mem_of_length_pos h;obtain ⟨h1,h2⟩:=List.mem_filter.1 hx;unfold bF;rw [Bool.false_or,List.any_eq_true];refine ⟨x,h1, ?_⟩;unfold cM;cases k:x.kind == 2 with
 |true=>rw [Si k] at h2;cases h2
 |false=>rfl
theorem Hs{c:List ae}{cs:List (List ae)}{ps:List (Sl ae)}(hps:ps.map (·.l)=parts [] (c::cs))(hs:∀ y∈(c::cs).flatten,Sg y)(hw:Wok (c::cs).flatten false false [])(hh:Hds (c::cs))(hu:cs≠[]→0<uN c) :
  mj ps.length 0 [] ps=cN (c::cs).flatten:=by
 have hn:ps.length=(c::cs).length:=by
  have:=congrArg List.length hps;rwa [List.length_map,iT] at this
 cases ps with
 |nil=>simp at hn
 |cons q ps=>
  cases cs with
  |nil=>
   rw [gj] at hps;cases ps with
   |cons q2 ps=>simp at hps
   |nil=>
    simp only [List.map_cons,List.map_nil,List.cons.injEq,and_true,List.nil_append,List.append_nil] at hps;have e1:[c].flatten=c:=by simp
    rw [e1] at hs ⊢;show glue1 1 0 [] q.l=_;rw [iB,hps,oJ (fun h=>by omega) (fun h=>by omega)];exact oH (fun y hy=>by cases hy) c fun y hy=>(hs y hy).tx
  |cons d cs=>
   rw [fG] at hps;simp only [List.map_cons,List.cons.injEq,List.map_nil,List.nil_append] at hps;rw [List.flatten_cons] at hs hw ⊢;obtain ⟨y,t,hyt,hy⟩:=hh.1;obtain ⟨w1,w2⟩:=gE.1 hw;have hcl:∀ x∈c,bJ x=false:=qe (by rw [hyt] at hw;exact hw) hy
   have hg:glue1 (q::ps).length 0 [] q.l=c.foldl cf []:=by
    rw [iB,hps.1,List.filter_append,oJ (fun h=>by omega) (fun _=>hcl)];rw [List.filter_eq_nil_iff.2 (fun x hx=>by obtain ⟨s,_,rfl⟩:=List.mem_map.1 hx;rw [Ch (by rw [hn];simp)];simp)];simp only [List.append_nil];exact oH (fun y hy=>by cases hy) c fun y hy=>(hs y (by simp [hy])).tx
   show mj _ 1 (glue1 _ 0 [] q.l) ps=_;rw [hg];show _=List.foldl cf [] (c++(d::cs).flatten);rw [List.foldl_append];have hrev:=kO c [];rw [List.reverse_nil] at hrev;rw [Fp (hu (by simp)),← hrev] at w2;exact DY _ (d::cs) _ _ 1 _ ps (by simp) hps.2 (fun y hy=>hs y (List.mem_append_right _ hy)) w2 hh.2 (by omega) (by rw [hn];simp;omega) (rk c (fun y hy=>by cases hy) fun y hy=>(hs y (by simp [hy])).tx)
theorem xz(k:Int)(a b:List ae):jP k (a++b)=jP k a++jP k b:=by simp [jP]
theorem uJ{k:Int}{l:List ae}(h:∀ x∈l,(x.car&&(x.kind == k))=false):jP k l=[]:=by
 unfold jP;rw [List.filter_eq_nil_iff.2 fun x hx=>by rw [h x hx];simp];rfl
theorem Lt(o:List Str):jP 2 (o.map ee)=o:=by
 induction o with
 |nil=>rfl
 |cons s o ih=>show s::jP 2 (o.map ee)=_;rw [ih]
theorem Lu(o:List Str):jP 3 (o.map fY)=o:=by
 induction o with
 |nil=>rfl
 |cons s o ih=>show s::jP 3 (o.map fY)=_;rw [ih]
theorem IV{c:List ae}(h:∀ x∈c,cM x=false):jP 2 (cN c)=[]:=uJ fun x hx=>by
 rcases Cf hx with k | k
 ·rw [show (x.kind == (2:Int))=false from (k12 k).1,Bool.and_false]
 ·rw [Bool.and_comm];exact h x k
theorem IW{c:List ae}(h:∀ x∈c,bJ x=false):jP 3 (cN c)=[]:=uJ fun x hx=>by
 rcases Cf hx with k | k
 ·rw [show (x.kind == (3:Int))=false from (k12 k).2.1,Bool.and_false]
 ·rw [Bool.and_comm];exact h x k
theorem zS:∀ (cs:List (List ae)) (o:List Str) (b e:Bool) (ps:List (Sl ae)),ps.map (·.l)=parts o cs→Wok cs.flatten b e o.reverse→Hds cs→(b=true∨∀ c t,cs=c::t→t≠[]→bF b c=true)→ri ps=true
 |[],_,_,_,ps,hps,_,_,_=>by
  have:ps=[]:=by simpa [parts] using hps
  subst this;rfl
 |[c],o,b,e,ps,hps,_,_,_=>by
  rw [gj] at hps;cases ps with
  |nil=>rfl
  |cons q ps=>
   cases ps with
   |nil=>rfl
   |cons q2 ps=>simp at hps
 |c::d::cs,o,b,e,ps,hps,hw,hh,hb=>by
  rw [fG] at hps;cases ps with
  |nil=>rfl
  |cons q ps=>
   simp only [List.map_cons,List.cons.injEq] at hps;rw [List.flatten_cons] at hw;obtain ⟨y,t,hyt,hy⟩:=hh.1;obtain ⟨w1,w2⟩:=gE.1 hw;have hcl:∀ x∈c,bJ x=false:=qe (by rw [hyt] at hw;exact hw) hy
   have hbt:bF b c=true:=by
    rcases hb with rfl | hb
    ·simp [bF]
    ·exact hb c (d::cs) rfl (by simp)
   have hrev:=kO c o;rw [hbt,← hrev] at w2;have ih:=zS (d::cs) _ true _ ps hps.2 w2 hh.2 (.inl rfl);cases ps with
   |nil=>cases cs<;>simp [parts] at hps
   |cons q2 ps=>
    rw [rj,ih,Bool.and_true]
    have h1:jP 3 q.l=(c.foldl cG o).reverse:=by
     rw [hps.1,xz,xz,IW hcl,Lu,uJ (fun x hx=>by obtain ⟨s,_,rfl⟩:=List.mem_map.1 hx;rfl)];rfl
    have hd2:∀ x∈d,cM x=false:=fun x hx=>pG w2 x (by simp [hx])
    have h2:jP 2 q2.l=c.foldl cG o:=by
     have h3:∃ z,q2.l=(c.foldl cG o).map ee++(cN d++z)∧∀ x∈z,(x.kind == (2:Int))=false:=by
      cases cs with
      |nil=>
       have:=hps.2;rw [gj] at this;simp only [List.map_cons,List.cons.injEq] at this;exact ⟨[],this.1,fun x hx=>by cases hx⟩
      |cons f cs=>
       have:=hps.2;rw [fG] at this;simp only [List.map_cons,List.cons.injEq] at this;exact ⟨_,this.1,fun x hx=>by obtain ⟨s,_,rfl⟩:=List.mem_map.1 hx;rfl⟩
     obtain ⟨z,z1,z2⟩:=h3;rw [z1,xz,xz,Lt,IV hd2,uJ (l:=z) (fun x hx=>by rw [z2 x hx,Bool.and_false])];simp
    rw [h1,h2];simp
theorem Fq:∀ {c c' r r':List ae}{d:Nat},Ck d c→Ck d c'→Hd r→Hd r'→c++r=c'++r'→c=c'∧r=r'
 |[],[],_,_,_,_,_,_,_,e=>⟨rfl,e⟩
 |[],x::c',r,r',d,h,h',hr,_,e=>by
  unfold Ck at h;subst h;obtain ⟨y,t,rfl,hy⟩:=hr;simp only [List.nil_append,List.cons_append,List.cons.injEq] at e;have h3:=h'.1;rw [← e.1,hy] at h3;cases h3
 |x::c,[],r,r',d,h,h',_,hr,e=>by
  unfold Ck at h';subst h';obtain ⟨y,t,rfl,hy⟩:=hr;simp only [List.nil_append,List.cons_append,List.cons.injEq] at e;have h3:=h.1;rw [e.1,hy] at h3;cases h3
 |x::c,x'::c',r,r',0,h,h',hr,hr',e=>by
  simp only [List.cons_append,List.cons.injEq] at e;obtain ⟨e1,e2⟩:=e;subst e1;obtain ⟨i1,i2⟩:=Fq h.2 h'.2 hr hr' e2;exact ⟨by rw [i1],i2⟩
 |x::c,x'::c',r,r',d+1,h,h',hr,hr',e=>by
  simp only [List.cons_append,List.cons.injEq] at e;obtain ⟨e1,e2⟩:=e;subst e1;obtain ⟨i1,i2⟩:=Fq (d:=if isU x=true then d else d+1) h h' hr hr' e2;exact ⟨by rw [i1],i2⟩
theorem xA:∀ {P:List Int}{n:Nat}{cs cs':List (List ae)},Cks n P cs→Cks n P cs'→cs.flatten=cs'.flatten→cs=cs'
 |[],_,_,_,⟨c,h⟩,⟨c',h'⟩,e=>by subst h h';simpa using e
 |p::P,n,[],_,h,_,_=>absurd h id
 |p::P,n,_::_,[],_,h,_=>absurd h id
 |p::P,n,c::cs,c'::cs',h,h',e=>by
  rw [List.flatten_cons,List.flatten_cons] at e;obtain ⟨e1,e2⟩:=Fq h.2.1 h'.2.1 h.2.2.1 h'.2.2.1 e;rw [e1,xA h.2.2.2 h'.2.2.2 e2]
theorem IX:∀ {c c':List ae}{d d':Nat},Ck d c→Ck d' c'→0<d'→Ck (d+d') (c++c')
 |[],c',d,d',h,h',hd=>by unfold Ck at h;subst h;rw [Nat.zero_add];exact h'
 |x::c,c',0,d',h,h',hd=>by
  obtain ⟨m,rfl⟩:∃ m,d'=m+1:=⟨d'-1,by omega⟩
  rw [Nat.zero_add];show Ck (if isU x=true then m else m+1) (c++c');rw [if_neg (by rw [J1 h.1];simp)];have:=IX h.2 h' hd;rwa [Nat.zero_add] at this
 |x::c,c',d+1,d',h,h',hd=>by
  have:=IX (c:=c) (d:=if isU x=true then d else d+1) h h' hd;rw [show d+1+d'=(d+d')+1 by omega];show Ck (if isU x=true then d+d' else d+d'+1) (c++c');rw [show (if isU x=true then d+d' else d+d'+1)=(if isU x=true then d else d+1)+d' by split<;>omega];exact this
theorem Fs(N:Nat):∀ (pos:List Int) (q:Option Int) (n:Nat),(∀ x,q=some x→(n:Int)=x)→C7 N n pos→okA (N:Int) q pos=true
 |[],_,_,_,_=>by rw [okA.eq_def]
 |p::P,q,n,hq,h=>by
  obtain ⟨h1,h2,h3⟩:=h;rw [xo,decide_eq_false (by omega),decide_eq_false (by omega),Fs N P (some p) p.toNat (fun x hx=>by cases hx;omega) h3];cases q with
  |none=>rfl
  |some x=>
   have:=hq x rfl;simp only [Bool.and_true,Bool.not_false,Bool.true_and];rw [decide_eq_false (by omega)];rfl
theorem Ft:∀ {P:List Int}{n:Nat}{cs:List (List ae)},Cks n P cs→(∀ c,cs.getLast? = some c→0<uN c)→C7 (n+uN cs.flatten) n P
 |[],_,_,_,_=>trivial
 |p::P,n,[],h,_=>absurd h id
 |p::P,n,[c],h,_=>by
  obtain ⟨y,t,e,_⟩:=h.2.2.1;cases e
 |p::P,n,c::d::cs,h,hl=>by
  have h1:=h.1;have h2:=xw h.2.1;have ih:=Ft h.2.2.2 (fun x hx=>hl x (by rw [List.getLast?_cons_cons];exact hx))
  have hpos:0<uN (d::cs).flatten:=by
   have:∀ (l:List (List ae)),l≠[]→(∀ c,l.getLast? = some c→0<uN c)→0<uN l.flatten:=by
    intro l;induction l with
    |nil=>intro h;exact absurd rfl h
    |cons a l ih=>
     intro _ hh;rw [List.flatten_cons,nO];cases l with
     |nil=>have:=hh a rfl;omega
     |cons b l=>have:=ih (by simp) (fun c hc=>hh c (by rw [List.getLast?_cons_cons];exact hc));omega
   exact this _ (by simp) (fun x hx=>hl x (by rw [List.getLast?_cons_cons];exact hx))
  rw [List.flatten_cons,nO];have e:n+(uN c+uN (d::cs).flatten)=p.toNat+uN (d::cs).flatten:=by omega
  rw [e];exact ⟨h1,by omega,ih⟩
theorem DZ:∀ {az:List (List ae)}{P1:List Int}{p:Int}{P2:List Int}{n:Nat}{a:List ae}{cs:List (List ae)}{C:List ae},P1.length=az.length→Cks n (P1++p::P2) (az++a::cs)→(∀ y∈C,(y.kind == 3)=true) →
  Cks n P1 (az++[a++C])∧0<uN a∧Ck (p.toNat-n) (az.flatten++a)∧(n:Int)<p∧Hd cs.flatten∧Cks p.toNat P2 cs
 |[],[],p,P2,n,a,cs,C,_,h,hC=>by
  have h':Cks n (p::P2) (a::cs):=h;have h2:=xw h'.2.1;have h1:=h'.1;exact ⟨⟨_,rfl⟩,by omega,by simpa using h'.2.1,h'.1,h'.2.2.1,h'.2.2.2⟩
 |[],_::_,_,_,_,_,_,_,h,_,_=>by simp at h
 |_::_,[],_,_,_,_,_,_,h,_,_=>by simp at h
 |c::az,p1::P1,p,P2,n,a,cs,C,hl,h,hC=>by
  have h':Cks n (p1::(P1++p::P2)) (c::(az++a::cs)):=h;obtain ⟨i1,i2,i3,i4,i5,i6⟩:=DZ (az:=az) (P1:=P1) (by simpa using hl) h'.2.2.2 hC;have h1:=h'.1;obtain ⟨y,t,e,hy⟩:=h'.2.2.1;refine ⟨⟨h'.1,h'.2.1, ?_,i1⟩,i2, ?_,by omega,i5,i6⟩
  ·have ha:a≠[]:=fun e=>by rw [e] at i2;simp [uN] at i2
   have hne:az.flatten++a≠[]:=by simp [ha]
   obtain ⟨z,u,hz⟩:=List.exists_cons_of_ne_nil hne
   have e2:(az++a::cs).flatten=z::(u++cs.flatten):=by
    rw [List.flatten_append,List.flatten_cons,← List.append_assoc,hz];rfl
   rw [e2] at e;injection e with ez _;have e4:(az++[a++C]).flatten=z::(u++C):=by rw [List.flatten_append,List.flatten_cons,List.flatten_nil,List.append_nil,← List.append_assoc,hz];rfl
   exact ⟨z,u++C,e4,by rw [ez];exact hy⟩
  ·rw [List.flatten_cons,List.append_assoc]
   have e3:p.toNat-n=(p1.toNat-n)+(p.toNat-p1.toNat):=by omega
   rw [e3];exact IX h'.2.1 i3 (by omega)
theorem D0:∀ {P:List Int}{n m:Nat}{cs:List (List ae)},Cks n P cs→m≤n→Cks (n-m) (P.map (· - (m:Int))) cs
 |[],_,_,_,h,_=>h
 |p::P,n,m,[],h,_=>absurd h id
 |p::P,n,m,c::cs,h,hm=>by
  have h1:=h.1;have ih:=D0 h.2.2.2 (m:=m) (by omega);refine ⟨by dsimp only;omega, ?_,h.2.2.1, ?_⟩
  ·rw [show (p-(m:Int)).toNat-(n-m)=p.toNat-n by omega];exact h.2.1
  ·rw [show (p-(m:Int)).toNat=p.toNat-m by omega];exact ih
theorem PU{P:List Int}{b:List ae}{bs:List (List ae)}{O:List ae}(h:Cks 0 P (b::bs))(hO:∀ y∈O,isU y=false):Cks 0 P ((O++b)::bs):=by
 cases P with
 |nil=>
  obtain ⟨c,hc⟩:=h;cases hc;exact ⟨_,rfl⟩
 |cons p P=>
  have h1:=h.1;exact ⟨h.1,J2 hO (by omega) h.2.1,h.2.2.1,h.2.2.2⟩
theorem NL(c:List ae)(st:List Str):cN (c++st.map fY)=cN c++st.map fY:=by
 unfold cN;rw [List.foldl_append,xy _ _ fun y hy=>Cc hy]
theorem Ht{c:List ae}(o:List Str)(h:∀ y∈c,Tx y):cN (o.map ee++c)=o.map ee++cN c:=by
 unfold cN;rw [List.foldl_append,xy _ _ fun y hy=>mO hy,List.nil_append,mM (fun y hy=>mO hy) c h];rfl
theorem Hu:∀ (o a:List Str),(o.map ee).foldl cG a=a++o
 |[],a=>by simp
 |s::o,a=>by
  rw [List.map_cons,List.foldl_cons,show cG a (ee s)=a++[s] from rfl,Hu o];simp
theorem yT:∀ (az:List (List ae)) (a d:List ae) (cs:List (List ae)) (o:List Str),
  parts o (az++a::d::cs)=parts o (az++[a++(((az.flatten++a).foldl cG o).reverse.map fY)])++parts ((az.flatten++a).foldl cG o) (d::cs)
 |[],a,d,cs,o=>by
  show parts o (a::d::cs)=parts o [a++((([]++a).foldl cG o).reverse.map fY)]++parts (([]++a).foldl cG o) (d::cs);rw [fG,gj,List.nil_append,NL];simp
 |c::az,a,d,cs,o=>by
  have ih:=yT az a d cs (c.foldl cG o)
  have e1:∀ z:List (List ae),z≠[]→parts o (c::z)=(o.map ee++(cN c++(c.foldl cG o).reverse.map fY))::parts (c.foldl cG o) z:=fun z hz=>by
   cases z with
   |nil=>exact absurd rfl hz
   |cons x z=>rfl
  rw [List.cons_append,e1 _ (by simp),ih,List.cons_append,e1 _ (by simp),List.flatten_cons];simp only [List.foldl_append,List.cons_append,List.append_assoc]
theorem Lv{o:List Str}{b:List ae}{bs:List (List ae)}(h:∀ y∈b,Tx y):parts [] ((o.map ee++b)::bs)=parts o (b::bs):=by
 have h1:(o.map ee++b).foldl cG []=b.foldl cG o:=by rw [List.foldl_append,Hu];rfl
 cases bs with
 |nil=>rw [gj,gj,Ht o h];simp
 |cons d bs=>rw [fG,fG,h1,Ht o h];simp
theorem uw{α:Type}:∀ (l:List α) (k:Nat) (x:α),l[k]?=some x→l=l.take k++x::l.drop (k+1)
 |[],k,x,h=>by simp at h
 |y::l,0,x,h=>by simp at h;simp [h]
 |y::l,k+1,x,h=>by
  simp only [List.getElem?_cons_succ] at h;rw [List.take_succ_cons,List.drop_succ_cons,List.cons_append,← uw l k x h]
structure sS (l:List ae) (pos:List Int) (cs:List (List ae)):Prop where
 chk:c9 l=0
 fl:cs.flatten=iK l
 ck:Cks 0 pos cs
 cut:nM l pos=parts [] cs
 sg:∀ y∈cs.flatten,Sg y
 ok:Wok cs.flatten false false []
 fin:sF [] cs.flatten=[]
 inc:C7 (unL l).length 0 pos
theorem zT{l:List ae}{pos:List Int}(hc:c9 l=0)(h:okA ((unL l).length:Int) none pos=true):∃ cs,sS l pos cs:=by
 obtain ⟨cs,c1,c2,c3⟩:=PQ h;obtain ⟨_,_,w,f⟩:=(mN l).1 hc;obtain ⟨s1,s2,s3,s4⟩:=NC w;have hs:=ND w;rw [← c1] at s1 s4 hs;refine ⟨cs,hc,c1,c2, ?_,hs,s1,by rw [s4];exact f,IS _ pos none 0 (fun x hx=>by cases hx) (fun _=>rfl) h⟩;rw [c3];exact DX cs [] hs
theorem pH{l:List ae}(hc:c9 l=0):cN (iK l)=l:=by
 obtain ⟨_,na,w,_⟩:=(mN l).1 hc;have:=Hn l [] false (Cb w) na (fun _ m y e=>by simp at e);exact this
theorem sS.glue{l:List ae}{pos:List Int}{cs:List (List ae)}(h:sS l pos cs){ps:List (Sl ae)}(hps:ps.map (·.l)=parts [] cs)(hl:∀ p∈ps,p.l.length≤512) :
  (∀ p∈ps,c9 p.l=0)∧ri ps=true∧mj ps.length 0 [] ps=l:=by
 have hlen:ps.length=cs.length:=by
  have:=congrArg List.length hps;rwa [List.length_map,iT] at this
 have hh:=Fo h.ck;have st0:NI ([]:List Str).reverse:=⟨fun s hs=>(by cases hs),by simp⟩
 refine ⟨fun p hp => ?_, ?_, ?_⟩
 ·obtain ⟨i,hi⟩:=List.getElem?_of_mem hp
  have h1:(parts [] cs)[i]?=some p.l:=by rw [← hps,List.getElem?_map,hi];rfl
  have hlt:=(List.getElem?_eq_some_iff.1 h1).1;rw [iT] at hlt;exact ((yp cs [] false false st0 h.ok h.sg h.fin i p.l cs[i] h1 (List.getElem?_eq_getElem hlt)).1 (hl p hp))
 ·cases pos with
  |nil=>
   obtain ⟨c,hc⟩:=h.ck;refine zS cs [] false false ps hps h.ok hh (.inr fun c' t e ht => ?_);rw [hc] at e;cases e;exact absurd rfl ht
  |cons p P=>
   refine zS cs [] false false ps hps h.ok hh (.inr fun c' t e ht => ?_);have hck:=h.ck;rw [e] at hck;have:=hck.1;exact Fp (by have:=xw hck.2.1;omega)
 ·have hne:cs≠[]:=fun e=>by
   have:=xx h.ck;rw [e] at this;simp at this
  obtain ⟨c,t,e⟩:=List.exists_cons_of_ne_nil hne;have hck:=h.ck;have h1:=h.ok;have h2:=h.sg;have h3:=h.fl;rw [e] at hps hh hck h1 h2 h3
  rw [Hs hps h2 h1 hh (fun ht=>by
   cases pos with
   |nil=>obtain ⟨c',hc'⟩:=hck;cases hc';exact absurd rfl ht
   |cons p P=>
    have:=hck.1;have:=xw hck.2.1;omega),h3,pH h.chk]
theorem sS.again{l:List ae}{pos:List Int}{cs:List (List ae)}(h:sS l pos cs){k:Nat}{p:Int}(hp:pos[k]?=some p){ds:List (List ae)}(hd:sS l [p] ds){p0 p1:List ae}(hpd:parts [] ds=[p0,p1])(h0:c9 p0=0)(h1:c9 p1=0) :
  okA ((unL p0).length:Int) none (pos.take k)=true∧okA ((unL p1).length:Int) none ((pos.drop (k+1)).map (· - p))=true ∧
   nM p0 (pos.take k)++nM p1 ((pos.drop (k+1)).map (· - p))=parts [] cs:=by
 have hpos:=uw pos k p hp;have hlen:=xx h.ck;have hk:k<pos.length:=(List.getElem?_eq_some_iff.1 hp).1;have hkc:cs[k]?=some cs[k]:=List.getElem?_eq_getElem (by omega);have hcs:=uw cs k cs[k] hkc;generalize cs[k]=a at hkc hcs;generalize hP1:pos.take k=P1 at hpos ⊢;generalize hP2:pos.drop (k+1)=P2 at hpos ⊢;have hP1l:P1.length=k:=by rw [← hP1,List.length_take];omega
 have hasl:(cs.take k).length=k:=by rw [List.length_take];omega
 have hbl:0<(cs.drop (k+1)).length:=by rw [List.length_drop];omega
 generalize cs.take k=az at hcs hasl;generalize cs.drop (k+1)=bs at hcs hbl;cases bs with
 |nil=>simp at hbl
 |cons b bs=>
 have hck:=h.ck;rw [hpos,hcs] at hck;have hC:∀ y∈((az.flatten++a).foldl cG []).reverse.map fY,(y.kind == 3)=true:=fun y hy=>by obtain ⟨s,_,rfl⟩:=List.mem_map.1 hy;rfl
 obtain ⟨f1,f2,f3,f4,f5,f6⟩:=DZ (by omega) hck hC;have hfl:cs.flatten=(az.flatten++a)++(b::bs).flatten:=by rw [hcs,List.flatten_append,List.flatten_cons,List.append_assoc]
 have hds:ds=[az.flatten++a,(b::bs).flatten]:=by
  refine xA hd.ck (P:=[p]) (n:=0) ⟨f4,f3,by simpa using f5,⟨_,rfl⟩⟩ ?_;rw [hd.fl,← h.fl,hfl];simp
 rw [hds,fG,gj] at hpd;simp only [List.cons.injEq,and_true,List.map_nil,List.append_nil,List.nil_append] at hpd;obtain ⟨e0,e1⟩:=hpd;have sgA:∀ y∈az.flatten++a,Sg y:=fun y hy=>h.sg y (by rw [hfl];exact List.mem_append_left _ hy)
 have sgB:∀ y∈(b::bs).flatten,Sg y:=fun y hy=>h.sg y (by rw [hfl];exact List.mem_append_right _ hy)
 have s0:iK p0=(az.flatten++a)++((az.flatten++a).foldl cG []).reverse.map fY:=by
  have:=Cd (o:=[]) (st:=((az.flatten++a).foldl cG []).reverse) sgA;simp only [List.map_nil,List.nil_append] at this;rw [← e0];exact this
 have s1:iK p1=((az.flatten++a).foldl cG []).map ee++(b::bs).flatten:=by
  have:=Cd (o:=(az.flatten++a).foldl cG []) (st:=[]) sgB;simp only [List.map_nil,List.append_nil] at this;rw [← e1];exact this
 generalize hCe:((az.flatten++a).foldl cG []).reverse.map fY=C at *
 have ok0:C7 (unL p0).length 0 P1:=by
  have:=Ft f1 (fun c hc=>by
   rw [List.getLast?_append] at hc;simp at hc;subst hc;rw [nO];omega)
  rw [Nat.zero_add] at this;rw [oI,s0];have e:(az++[a++C]).flatten=az.flatten++a++C:=by simp
  rwa [e] at this
 have ok0':=Fs _ P1 none 0 (fun x hx=>by cases hx) ok0;obtain ⟨q,hq⟩:∃ q:Nat,p=(q:Int):=⟨p.toNat,by omega⟩
 have g6:=D0 f6 (Nat.le_refl _);rw [Nat.sub_self,hq,Int.toNat_natCast] at g6;have g7:=PU g6 (O:=((az.flatten++a).foldl cG []).map ee) fun y hy=>Qy hy
 have hlast:∀ c,((((az.flatten++a).foldl cG []).map ee++b)::bs).getLast? = some c→0<uN c:=fun c hc=>by
  have hinc:=h.inc;rw [oI,← h.fl] at hinc
  have hsum:∀ (P:List Int) (n:Nat) (z:List (List ae)),Cks n P z→C7 (n+uN z.flatten) n P→0<uN z.flatten→∀ c,z.getLast? = some c→0<uN c:=by
   intro P;induction P with
   |nil=>
    rintro n z ⟨c',rfl⟩ _ h c hc;simp at hc h;subst hc;exact h
   |cons p' P ih=>
    intro n z hz hi _ c hc;cases z with
    |nil=>cases hc
    |cons w z=>
     have hw:=xw hz.2.1;have hz1:=hz.1;have hi2:=hi.2.1;rw [List.flatten_cons,nO] at hi hi2;have e:n+(uN w+uN z.flatten)=p'.toNat+uN z.flatten:=by omega
     have h3:=hi.2.2;rw [e] at h3;refine ih p'.toNat z hz.2.2.2 h3 (by omega) c ?_;cases z with
     |nil=>obtain ⟨y,t,e',_⟩:=hz.2.2.1;cases e'
     |cons v z=>rwa [List.getLast?_cons_cons] at hc
  have hall:=hsum pos 0 cs h.ck (by rw [Nat.zero_add];exact hinc) (by
   rw [hfl,nO,nO];omega)
  cases bs with
  |nil=>
   simp at hc;subst hc;rw [nO];have:=hall b (by rw [hcs];simp);omega
  |cons d bs=>
   rw [List.getLast?_cons_cons] at hc;exact hall c (by rw [hcs,List.getLast?_append,List.getLast?_cons_cons,List.getLast?_cons_cons,hc];rfl)
 have ok1:C7 (unL p1).length 0 (P2.map (· - p)):=by
  have:=Ft g7 hlast;rw [Nat.zero_add] at this;rw [oI,s1,hq];have e:((((az.flatten++a).foldl cG []).map ee++b)::bs).flatten=((az.flatten++a).foldl cG []).map ee++(b::bs).flatten:=by simp
  rwa [e] at this
 have ok1':=Fs _ (P2.map (· - p)) none 0 (fun x hx=>by cases hx) ok1;obtain ⟨c0,k0⟩:=zT h0 ok0';obtain ⟨c1,k1⟩:=zT h1 ok1';have u0:c0=az++[a++C]:=xA k0.ck f1 (by rw [k0.fl,s0];simp);have u1:c1=(((az.flatten++a).foldl cG []).map ee++b)::bs:=xA k1.ck (by rw [hq];exact g7) (by rw [k1.fl,s1];simp);refine ⟨ok0',ok1', ?_⟩;rw [k0.cut,k1.cut,u0,u1,Lv (fun y hy=>(sgB y (by simp [hy])).tx),hcs,yT,hCe]
def wq(k:Nat)(x:ae):Nat:=k*x.text.length+1
def wQ(k:Nat)(l:List ae):Nat:=(l.map (wq k)).sum
def nq(k:Nat)(x:ae):Nat:=if (x.kind == 1)=true then 0 else wq k x
def nQ(k:Nat)(l:List ae):Nat:=(l.map (nq k)).sum
def wS(k:Nat)(st:List Str):Nat:=(st.map fun s=>k*s.length+1).sum
theorem sr(k:Nat)(a b:List ae):wQ k (a++b)=wQ k a+wQ k b:=by simp [wQ]
theorem zU(k:Nat)(x:ae)(b:List ae):wQ k (x::b)=wq k x+wQ k b:=by simp [wQ]
theorem Fu(k:Nat)(a b:List ae):nQ k (a++b)=nQ k a+nQ k b:=by simp [nQ]
theorem uK(k:Nat)(x:ae)(b:List ae):nQ k (x::b)=nq k x+nQ k b:=by simp [nQ]
theorem Qz(k:Nat)(x:ae):nq k x≤wq k x:=by unfold nq;split<;>omega
theorem NM(k:Nat):∀ l:List ae,nQ k l≤wQ k l
 |[]=>Nat.le_refl _
 |x::l=>by rw [uK,zU];have:=Qz k x;have:=NM k l;omega
theorem QA(k:Nat)(a b:List Nat):wq k (txP (a++b))+1=wq k (txP a)+wq k (txP b):=by
 have e:∀ z,wq k (txP z)=k*(l8 z).length+1:=fun _=>rfl
 rw [e,e,e,lX,List.length_append,Nat.mul_add];omega
theorem Sk{l:List ae}(hl:∀ y∈l,Tx y){x:ae}(hx:Tx x)(k:Nat):wQ k l+nq k x≤wQ k (cf l x)∧nQ k (cf l x)=nQ k l+nq k x:=by
 rcases mL hl hx with h | ⟨m,a,b,rfl,rfl,h⟩
 ·rw [h,sr,Fu]
  have:=Qz k x;simp [wQ,nQ];omega
 ·have h1:=QA k a b
  have h2:1≤wq k (txP b):=by unfold wq;omega
  rw [h,sr,sr,Fu,Fu];have e1:∀ z,nq k (txP z)=0:=fun _=>rfl
  simp only [zU,uK,e1];simp [wQ,nQ];omega
theorem Fv(k:Nat):∀ (s l:List ae),(∀ y∈l,Tx y)→(∀ y∈s,Tx y)→wQ k l+nQ k s≤wQ k (s.foldl cf l)∧nQ k (s.foldl cf l)=nQ k l+nQ k s
 |[],l,_,_=>by simp [nQ]
 |x::s,l,hl,hs=>by
  obtain ⟨p1,p2⟩:=Sk hl (hs x (by simp)) k;obtain ⟨i1,i2⟩:=Fv k s (cf l x) (Nw hl (hs x (by simp))) fun y hy=>hs y (by simp [hy])
  rw [List.foldl_cons,uK];exact ⟨by omega,by omega⟩
theorem zV{z l:List ae}(h:l≠[])(x:ae):cf (z++l) x=z++cf l x:=by
 rcases fT l with rfl | ⟨m,y,rfl⟩
 ·exact absurd rfl h
 ·rw [← List.append_assoc,fE,fE]
  cases x.kind == 1&&y.kind == 1<;>simp [sel]
theorem IY{cur:List ae}(hc:∀ y∈cur,Tx y)(c:List ae)(h:∀ y∈c,Tx y):c.foldl cf cur=cur++cN c∨∃ m a b t,cur=m++[txP a]∧cN c=txP b::t∧c.foldl cf cur=m++txP (a++b)::t:=by
 induction c using pE with
 |h0=>exact .inl (by simp [cN])
 |h1 c x ih=>
  have hc1:∀ y∈c,Tx y:=fun y hy=>h y (by simp [hy])
  have hx:=h x (by simp);rw [List.foldl_append,List.foldl_cons,List.foldl_nil,mK];rcases ih hc1 with e | ⟨m,a,b,t,e1,e2,e3⟩
  ·rw [e]
   by_cases hn:cN c=[]
   ·rw [hn,List.append_nil,GQ]
    rcases mL hc hx with e' | ⟨m,a,b,e1,e2,e3⟩
    ·exact .inl e'
    ·exact .inr ⟨m,a,b,[],e1,by rw [e2],e3⟩
   ·exact .inl (zV hn x)
  ·rw [e3,e2,zV (by simp)]
   by_cases ht:t=[]
   ·subst ht
    rcases hx with hx | ⟨d,_,_,rfl⟩
    ·exact .inr ⟨m,a,b,[x],e1,putF_nt' hx b,by rw [putF_nt' hx (a++b)]⟩
    ·refine .inr ⟨m,a,b++d,[],e1,putF_txP [] b d, ?_⟩
     have:=putF_txP [] (a++b) d;rw [List.nil_append,List.nil_append] at this;rw [this,List.append_assoc]
   ·exact .inr ⟨m,a,b,cf t x,e1,zV (z:=[txP b]) ht x,by rw [show txP (a++b)::t=[txP (a++b)]++t from rfl,zV ht x];rfl⟩
where
 putF_nt' {x:ae} (hx:(x.kind == 1)=false) (b:List Nat):cf [txP b] x=txP b::[x]:=uF hx
theorem Hv{cur:List ae}(hc:∀ y∈cur,Tx y){c:List ae}(h:∀ y∈c,Tx y)(k:Nat):nQ k cur+wQ k (cN c)≤wQ k (c.foldl cf cur):=by
 rcases IY hc c h with e | ⟨m,a,b,t,e1,e2,e3⟩
 ·rw [e,sr];have:=NM k cur;omega
 ·rw [e2,e3,e1,Fu,sr,zU,zU,uK,show nq k (txP a)=0 from rfl]
  have:=QA k a b;have h2:1≤wq k (txP a):=by unfold wq;omega
  have:=NM k m;simp [nQ] at *;omega
theorem Ry(k:Nat)(st:List Str)(x:ae):wS k (nxt st x)≤wS k st+nq k x:=by
 unfold nxt;cases k2:x.kind == 2 with
 |true=>
  unfold nq;rw [(k23 k2).1];simp [wS,wq];omega
 |false=>
  simp only [Bool.false_eq_true,if_false];split
  ·cases st with
   |nil=>simp [wS]
   |cons s st=>simp [wS];omega
  ·omega
theorem IZ(k:Nat):∀ (c:List ae) (st:List Str),wS k (sF st c)≤wS k st+nQ k c
 |[],st=>by simp [sF,nQ]
 |x::c,st=>by
  have h1:=Ry k st x;have h2:=IZ k c (nxt st x);rw [uK];show wS k (sF (nxt st x) c)≤_;omega
theorem J8(k:Nat):∀ (c:List ae) (b e:Bool) (st:List Str),Wok c b e st→wS k st≤wS k (sF st c)+nQ k c
 |[],_,_,st,_=>by simp [sF,nQ]
 |x::c,b,e,st,h=>by
  have h2:=J8 k c _ _ _ h.2
  have h1:wS k st≤wS k (nxt st x)+nq k x:=by
   have h0:=h.1;unfold okW at h0;simp only [Bool.and_eq_true,Bool.not_eq_true'] at h0;unfold nxt;cases k2:x.kind == 2 with
   |true=>simp [wS];omega
   |false=>
    simp only [Bool.false_eq_true,if_false];cases k3:x.kind == 3 with
    |false=>simp
    |true=>
     have hp:=h0.2.2.2.2.2.1;rw [k3,Bool.true_and,Bool.not_eq_false'] at hp;cases st with
     |nil=>simp [wS]
     |cons s st=>
      have:s=x.text:=by simpa [xd] using hp
      unfold nq;rw [(k31 k3).1];simp [wS,wq,this];omega
  rw [uK];show wS k st≤wS k (sF (nxt st x) c)+_;omega
theorem NN(k:Nat)(o:List Str):wQ k (o.map ee)=wS k o:=by unfold wQ wS;rw [List.map_map];rfl
theorem Rz(k:Nat)(o:List Str):wQ k (o.map fY)=wS k o:=by unfold wQ wS;rw [List.map_map];rfl
theorem Fw(k:Nat)(o:List Str):wS k o.reverse=wS k o:=by unfold wS;rw [List.map_reverse,List.sum_reverse]
theorem I0{A c B:List ae}(hw:Wok (A++(c++B)) false false [])(hf:sF [] (A++(c++B))=[])(k:Nat) :
  wQ k ((A.foldl cG []).map ee++(cN c++(c.foldl cG (A.foldl cG [])).reverse.map fY))≤wQ k (cN (A++(c++B))):=by
 have ht:=Cb hw;have tA:∀ y∈A,Tx y:=fun y hy=>ht y (by simp [hy])
 have tc:∀ y∈c,Tx y:=fun y hy=>ht y (by simp [hy])
 have tB:∀ y∈B,Tx y:=fun y hy=>ht y (by simp [hy])
 obtain ⟨_,w2⟩:=gE.1 hw;obtain ⟨_,w3⟩:=gE.1 w2;have b1:=J8 k B _ _ _ w3;rw [pF,pF] at hf;rw [hf,show wS k []=0 from rfl,Nat.zero_add] at b1;have r1:=kO A [];rw [List.reverse_nil] at r1;have r2:=kO c (A.foldl cG []);rw [r1] at r2;rw [← r2,Fw] at b1;have a1:=IZ k A [];rw [← r1,Fw,show wS k []=0 from rfl,Nat.zero_add] at a1;have e:cN (A++(c++B))=B.foldl cf (c.foldl cf (cN A)):=by unfold cN;rw [List.foldl_append,List.foldl_append]
 have f1:=(Fv k B (c.foldl cf (cN A)) (rk c (lY tA) tc) tB).1;have f2:=Hv (lY tA) tc k;have f3:=(Fv k A [] (fun y hy=>by cases hy) tA).2;have f3':nQ k (cN A)=nQ k A:=by unfold cN;rw [f3];simp [nQ]
 rw [e,sr,sr,NN,Rz,Fw];omega
theorem Hw{A c:List ae}(hw:Wok (A++c) false false [])(k:Nat):wQ k ((A.foldl cG []).map ee++(cN c++([]:List Str).map fY))≤wQ k (cN (A++c)):=by
 have ht:=Cb hw;have tA:∀ y∈A,Tx y:=fun y hy=>ht y (by simp [hy])
 have tc:∀ y∈c,Tx y:=fun y hy=>ht y (by simp [hy])
 have r1:=kO A [];rw [List.reverse_nil] at r1;have a1:=IZ k A [];rw [← r1,Fw,show wS k []=0 from rfl,Nat.zero_add] at a1;have e:cN (A++c)=c.foldl cf (cN A):=by unfold cN;rw [List.foldl_append]
 have f2:=Hv (lY tA) tc k;have f3:=(Fv k A [] (fun y hy=>by cases hy) tA).2;have f3':nQ k (cN A)=nQ k A:=by unfold cN;rw [f3];simp [nQ]
 rw [e,sr,sr,NN,List.map_nil,show wQ k []=0 from rfl];omega
theorem ux:∀ (cs:List (List ae)) (A:List ae),Wok (A++cs.flatten) false false []→sF [] (A++cs.flatten)=[]→∀ p∈parts (A.foldl cG []) cs,∀ k,wQ k p≤wQ k (cN (A++cs.flatten))
 |[],_,_,_,p,hp,_=>by simp [parts] at hp
 |[c],A,hw,_,p,hp,k=>by
  rw [gj] at hp;simp only [List.mem_singleton] at hp;subst hp;have e:[c].flatten=c:=by simp
  rw [e] at hw ⊢;exact Hw hw k
 |c::d::cs,A,hw,hf,p,hp,k=>by
  rw [fG] at hp;rw [List.flatten_cons] at hw hf ⊢;rcases List.mem_cons.1 hp with rfl | hp
  ·exact I0 hw hf k
  ·have e:A++(c++(d::cs).flatten)=(A++c)++(d::cs).flatten:=by simp
   rw [e] at hw hf ⊢;have h2:c.foldl cG (A.foldl cG [])=(A++c).foldl cG []:=by rw [List.foldl_append]
   rw [h2] at hp;exact ux (d::cs) (A++c) hw hf p hp k
theorem PV(l:List ae):wQ 0 l=l.length:=by
 unfold wQ;induction l with
 |nil=>rfl
 |cons x l ih=>simp only [List.map_cons,List.sum_cons,ih,List.length_cons,wq];omega
theorem PW(l:List ae):wQ 1 l=l.length+gR l:=by
 unfold wQ gR;induction l with
 |nil=>rfl
 |cons x l ih=>simp only [List.map_cons,List.sum_cons,ih,List.length_cons,wq];omega
theorem sS.small{l:List ae}{pos:List Int}{cs:List (List ae)}(h:sS l pos cs):∀ p∈parts [] cs,p.length≤l.length∧p.length+gR p≤l.length+gR l:=fun p hp=>by
 have h1:=ux cs [] h.ok h.fin p hp;have e:cN ([]++cs.flatten)=l:=by rw [List.nil_append,h.fl,pH h.chk]
 rw [e] at h1;have a:=h1 0;have b:=h1 1;rw [PV,PV] at a;rw [PW,PW] at b;exact ⟨a,b⟩
theorem sS.len{l:List ae}{pos:List Int}{cs:List (List ae)}(h:sS l pos cs):l.length≤512:=((mN l).1 h.chk).1
theorem sS.nobig{l:List ae}{pos:List Int}{cs:List (List ae)}(h:sS l pos cs):(nM l pos).any nL=false:=by
 rw [h.cut,List.any_eq_false];intro p hp;have:=(h.small p hp).1;have:=h.len;unfold nL;rw [decide_eq_false (by omega)];simp
theorem sS.val{l:List ae}{pos:List Int}{cs:List (List ae)}(h:sS l pos cs):Qw l pos = .tuple [.slice .any 1 ((parts [] cs).map plR),.int .u8 0]:=by
 unfold Qw;rw [h.chk,Fs _ pos none 0 (fun x hx=>by cases hx) h.inc,h.nobig,h.cut];rfl
theorem Lw{l:List ae}(hl:∀ y∈l,Tx y){x:ae}(hx:Tx x):b8 (cf l x)=b8 l++b8 [x]:=by
 rcases mL hl hx with h | ⟨m,a,b,rfl,rfl,h⟩
 ·rw [h,plainF_app2]
 ·rw [h,plainF_app2,plainF_app2]
  show b8 m++(l8 (a++b)++[])=b8 m++(l8 a++[])++(l8 b++[])
  rw [lX];simp
where
 plainF_app2:∀ (a b:List ae),b8 (a++b)=b8 a++b8 b:=fun a b=>by
  induction a with
  |nil=>rfl
  |cons x a ih=>simp only [List.cons_append,b8,ih,List.append_assoc]
theorem uL(a b:List ae):b8 (a++b)=b8 a++b8 b:=by
 induction a with
 |nil=>rfl
 |cons x a ih=>simp only [List.cons_append,b8,ih,List.append_assoc]
theorem Ci{s:List ae}(hs:∀ y∈s,Tx y):b8 (cN s)=b8 s:=by
 induction s using pE with
 |h0=>rfl
 |h1 s x ih=>
  have hs1:∀ y∈s,Tx y:=fun y hy=>hs y (by simp [hy])
  rw [mK,Lw (lY hs1) (hs x (by simp)),ih hs1,uL]
theorem Hx{l:List ae}(h:∀ y∈l,(y.kind == 1)=false):b8 l=[]:=by
 induction l with
 |nil=>rfl
 |cons x l ih=>rw [b8,h x (by simp),sel_false,ih fun y hy=>h y (by simp [hy])];rfl
theorem Cj{o st:List Str}{c:List ae}(hs:∀ y∈c,Tx y):b8 (o.map ee++(cN c++st.map fY))=b8 c:=by
 rw [uL,uL,Hx fun y hy=>mO hy,Hx fun y hy=>Cc hy,Ci hs];simp
theorem yU:∀ (cs:List (List ae)) (o:List Str),(∀ y∈cs.flatten,Tx y)→((parts o cs).map b8).flatten=b8 cs.flatten
 |[],_,_=>rfl
 |[c],o,h=>by
  rw [gj,List.map_cons,Cj fun y hy=>h y (by simpa using hy)];simp
 |c::d::cs,o,h=>by
  rw [fG,List.map_cons,List.flatten_cons,Cj fun y hy=>h y (by simp [hy]),yU (d::cs) _ fun y hy=>h y (by rw [List.flatten_cons];exact List.mem_append_right _ hy),List.flatten_cons (l:=c),uL]
theorem sS.plain{l:List ae}{pos:List Int}{cs:List (List ae)}(h:sS l pos cs):((parts [] cs).map b8).flatten=b8 l:=by
 rw [yU cs [] fun y hy=>(h.sg y hy).tx]
 conv=>rhs;rw [← pH h.chk]
 rw [← h.fl,Ci fun y hy=>(h.sg y hy).tx]
section
attribute [local congr] aA bo aM aC aL aG aD aq au aH aI
variable{E:bb}(M:bO bU E)
end
section
attribute [local congr] aA bo aM aC aL aG aD aq au aH aI
variable{E:bb}(M:bO bU E)
end
section
attribute [local congr] aA bo aM aC aL aG aD aq au aH aI
variable{E:bb}(M:bO bU E)
theorem QB{a b:Int}(h:b≠0):kz .rem .i64 a b=some (.int .i64 (a.tmod b)):=if_neg h
theorem NO(w:Int){n:Nat}(h0:0<n)(hn:n≤1000000):∃ k:Nat,k<n∧(w.tmod (n:Int)+(n:Int)).tmod (n:Int)=(k:Int)∧IntKind.i64.wrap (w.tmod (n:Int)+(n:Int))=w.tmod (n:Int)+(n:Int):=by
 have h1:w.tmod (n:Int)<(n:Int):=Int.tmod_lt_of_pos w (by omega);have h2 : -(n:Int)<w.tmod (n:Int):=Int.lt_tmod_of_pos w (by omega);have h3:0≤w.tmod (n:Int)+(n:Int):=by omega
 have h4:=Int.tmod_nonneg (n:Int) h3;have h5:(w.tmod (n:Int)+(n:Int)).tmod (n:Int)<(n:Int):=Int.tmod_lt_of_pos _ (by omega);exact ⟨((w.tmod (n:Int)+(n:Int)).tmod (n:Int)).toNat,by omega,by omega,bV (by omega) (by omega)⟩
end
structure ChP (l:List ae) (cs:List (List ae)):Prop where
 chk:c9 l=0
 fl:cs.flatten=iK l
 ne:cs≠[]
 hds:Hds cs
 u:∀ c t,cs=c::t→t≠[]→0<uN c
 sg:∀ y∈cs.flatten,Sg y
 ok:Wok cs.flatten false false []
 fin:sF [] cs.flatten=[]
theorem sS.ch{l:List ae}{pos:List Int}{cs:List (List ae)}(h:sS l pos cs):ChP l cs:=
 ⟨h.chk,h.fl,fun e=>by have:=xx h.ck;rw [e] at this;simp at this,Fo h.ck,fun c t e ht=>by
  have hck:=h.ck;rw [e] at hck;cases pos with
  |nil=>obtain ⟨c',hc'⟩:=hck;cases hc';exact absurd rfl ht
  |cons p P=>
   have:=hck.1;have:=xw hck.2.1;omega,h.sg,h.ok,h.fin⟩
theorem ChP.small{l:List ae}{cs:List (List ae)}(h:ChP l cs):∀ p∈parts [] cs,p.length≤l.length∧p.length+gR p≤l.length+gR l:=fun p hp=>by
 have h1:=ux cs [] h.ok h.fin p hp;have e:cN ([]++cs.flatten)=l:=by rw [List.nil_append,h.fl,pH h.chk]
 rw [e] at h1;have a:=h1 0;have b:=h1 1;rw [PV,PV] at a;rw [PW,PW] at b;exact ⟨a,b⟩
theorem ChP.len{l:List ae}{cs:List (List ae)}(h:ChP l cs):l.length≤512:=((mN l).1 h.chk).1
theorem ChP.valid{l:List ae}{cs:List (List ae)}(h:ChP l cs):∀ p∈parts [] cs,c9 p=0:=fun p hp=>by
 obtain ⟨i,hi⟩:=List.getElem?_of_mem hp;have hlt:=(List.getElem?_eq_some_iff.1 hi).1;rw [iT] at hlt;have h1:=yp cs [] false false ⟨fun s hs=>(by cases hs),by simp⟩ h.ok h.sg h.fin i p cs[i] hi (List.getElem?_eq_getElem hlt);have h2:=(h.small p hp).1;have h3:=h.len;exact h1.1 (by omega)
theorem ChP.bf{l:List ae}{cs:List (List ae)}(h:ChP l cs):∀ c t,cs=c::t→t≠[]→bF false c=true:=fun c t e ht=>Fp (h.u c t e ht)
theorem ChP.adj{l:List ae}{cs:List (List ae)}(h:ChP l cs){ps:List (Sl ae)}(hps:ps.map (·.l)=parts [] cs):ri ps=true:=
 zS cs [] false false ps hps h.ok h.hds (.inr h.bf)
theorem ChP.glue{l:List ae}{cs:List (List ae)}(h:ChP l cs){ps:List (Sl ae)}(hps:ps.map (·.l)=parts [] cs):mj ps.length 0 [] ps=l:=by
 obtain ⟨c,t,e⟩:=List.exists_cons_of_ne_nil h.ne;have h1:=h.ok;have h2:=h.sg;have h3:=h.fl;have h4:=h.hds;rw [e] at hps h1 h2 h3 h4;rw [Hs hps h2 h1 h4 (fun ht=>h.u c t e ht),h3,pH h.chk]
theorem J9:∀ {ps:List (Sl ae)},(∀ p∈ps,c9 p.l=0)→qb ps=0
 |[],_=>rfl
 |p::ps,h=>by rw [qb,h p (by simp)];exact J9 fun q hq=>h q (by simp [hq])
theorem Ka{ps:List (Sl ae)}(h0:ps≠[])(hv:∀ p∈ps,c9 p.l=0)(ha:ri ps=true){l:List ae}(hg:mj ps.length 0 [] ps=l)(hl:l.length≤512):vU ps=0∧fF ps=l:=by
 have hn:ps.length≠0:=fun e=>h0 (List.length_eq_zero_iff.1 e)
 have hb:nL l=false:=decide_eq_false (by omega)
 have he:vU ps=0:=by
  unfold vU;rw [decide_eq_false hn,sel_false,J9 hv,show ((0:Int) == 0)=true from rfl,sel_true,ha,sel_true,hg,hb,sel_false]
 refine ⟨he, ?_⟩;unfold fF;rw [he,show ((0:Int) == 0)=true from rfl,sel_true,hg]
theorem ChP.gluEq{l:List ae}{cs:List (List ae)}(h:ChP l cs){ps:List (Sl ae)}(hps:ps.map (·.l)=parts [] cs):vU ps=0∧fF ps=l:=by
 have hn:ps≠[]:=fun e=>by
  have:=congrArg List.length hps;rw [e,iT] at this;exact h.ne (List.length_eq_zero_iff.1 this.symm)
 exact Ka hn (fun p hp=>h.valid p.l (by rw [← hps];exact List.mem_map_of_mem hp)) (h.adj hps) (h.glue hps) h.len
theorem yq:∀ (az:List (List ae)) (c d:List ae) (bs:List (List ae)),Hds (az++c::d::bs)→Hds (az++(c++d)::bs)
 |[],c,d,bs,h=>by
  cases bs with
  |nil=>exact True.intro
  |cons b bs=>exact h.2
 |[a],c,d,bs,h=>by
  refine ⟨?_,yq [] c d bs h.2⟩;have:=h.1;simpa using this
 |a::a'::az,c,d,bs,h=>by
  refine ⟨?_,yq (a'::az) c d bs h.2⟩;have h1:Hd (a'::az++c::d::bs).flatten:=h.1;have e:(a'::az++(c++d)::bs).flatten=(a'::az++c::d::bs).flatten:=by simp
  show Hd (a'::az++(c++d)::bs).flatten;rw [e];exact h1
theorem ChP.merge{l:List ae}{az bs:List (List ae)}{c d:List ae}(h:ChP l (az++c::d::bs)):ChP l (az++(c++d)::bs):=by
 have e:(az++(c++d)::bs).flatten=(az++c::d::bs).flatten:=by simp
 refine ⟨h.chk,by rw [e];exact h.fl,by simp,yq _ _ _ _ h.hds,fun x t ex ht => ?_,by rw [e];exact h.sg,by rw [e];exact h.ok,by rw [e];exact h.fin⟩;cases az with
 |nil=>
  simp only [List.nil_append,List.cons.injEq] at ex;have:=h.u c (d::bs) rfl (by simp);rw [← ex.1,nO];omega
 |cons a az=>
  simp only [List.cons_append,List.cons.injEq] at ex;exact h.u x (az++c::d::bs) (by rw [← ex.1];rfl) (by simp)
def NP(o:List Str)(bs:List (List ae)):List Str:=match bs with
 |[]=>[]
 |_=>o.reverse
theorem vX(o:List Str)(c:List ae)(bs:List (List ae)):parts o (c::bs)=(o.map ee++(cN c++(NP (c.foldl cG o) bs).map fY))::parts (c.foldl cG o) bs:=by
 cases bs<;>rfl
theorem Hy:∀ (az:List (List ae)) (c:List ae) (bs:List (List ae)) (o:List Str),∃ X,X.length=az.length∧∀ c bs,parts o (az++c::bs)=X++(((az.flatten.foldl cG o).map ee++(cN c++(NP (c.foldl cG (az.flatten.foldl cG o)) bs).map fY))::parts (c.foldl cG (az.flatten.foldl cG o)) bs)
 |[],_,_,o=>⟨[],rfl,fun c bs=>vX o c bs⟩
 |a::az,c,bs,o=>by
  obtain ⟨X,h1,h2⟩:=Hy az c bs (a.foldl cG o);refine ⟨(o.map ee++(cN a++(a.foldl cG o).reverse.map fY))::X,by simp [h1],fun c bs => ?_⟩;rw [List.cons_append,vX,h2,List.flatten_cons,List.foldl_append]
  have:NP (a.foldl cG o) (az++c::bs)=(a.foldl cG o).reverse:=by cases az<;>rfl
  rw [this];rfl
theorem Cm:∀ (X:List (Sl ae)) (p q:Sl ae) (Y:List (Sl ae)),ri (X++p::q::Y)=true→ri [p,q]=true
 |[],p,q,Y,h=>by
  rw [List.nil_append,rj,Bool.and_eq_true] at h;rw [rj,h.1];rfl
 |[x],p,q,Y,h=>by
  have h:ri (x::p::q::Y)=true:=h;rw [rj,Bool.and_eq_true] at h;exact Cm [] p q Y h.2
 |x::y::X,p,q,Y,h=>by
  have h:ri (x::y::(X++p::q::Y))=true:=h;rw [rj,Bool.and_eq_true] at h;exact Cm (y::X) p q Y h.2
theorem Lx{α:Type}:∀ {X Y:List α}{x:α}{X' Y':List α}{x':α},X.length=X'.length→X++x::Y=X'++x'::Y'→X=X'∧x=x'∧Y=Y':=fun h e=>by
 obtain ⟨e1,e2⟩:=List.append_inj e h;injection e2 with e2 e3;exact ⟨e1,e2,e3⟩
theorem ChP.pair{l:List ae}{cs:List (List ae)}(h:ChP l cs){X Y:List (Sl ae)}{p q:Sl ae}(hps:(X++p::q::Y).map (·.l)=parts [] cs) :
  ∃ cs',ChP l cs'∧vU [p,q]=0∧∀ t,(X++⟨t,fF [p,q]⟩::Y).map (·.l)=parts [] cs':=by
 have hlen:=congrArg List.length hps;rw [iT,List.length_map,List.length_append,List.length_cons,List.length_cons] at hlen
 obtain ⟨az,c,d,bs,hcs,hal⟩:∃ az c d bs,cs=az++c::d::bs∧az.length=X.length:=by
  have h1:cs[X.length]?=some cs[X.length]:=List.getElem?_eq_getElem (by omega);have e1:=uw cs X.length _ h1
  obtain ⟨d,bs,e2⟩:∃ d bs,cs.drop (X.length+1)=d::bs:=by
   cases hh:cs.drop (X.length+1) with
   |nil=>have:=congrArg List.length hh;rw [List.length_drop] at this;simp at this;omega
   |cons d bs=>exact ⟨d,bs,rfl⟩
  exact ⟨cs.take X.length,cs[X.length],d,bs,by rw [← e2];exact e1,by rw [List.length_take];omega⟩
 subst hcs;obtain ⟨Z,z1,z2⟩:=Hy az c (d::bs) [];have hp2:=hps;rw [z2 c (d::bs),vX,List.map_append,List.map_cons,List.map_cons] at hp2;obtain ⟨e1,e2,e3⟩:=Lx (by rw [List.length_map,z1,hal]) hp2;injection e3 with e3 e4;have hm:=h.merge;generalize ho:az.flatten.foldl cG []=o at *
 have hw:=h.ok;have efl:(az++c::d::bs).flatten=az.flatten++(c++(d++bs.flatten)):=by simp
 rw [efl] at hw;have hsg:=h.sg;rw [efl] at hsg;have tc:∀ y∈c,Tx y:=fun y hy=>(hsg y (by simp [hy])).tx
 have td:∀ y∈d,Tx y:=fun y hy=>(hsg y (by simp [hy])).tx
 obtain ⟨w1,w2⟩:=gE.1 hw
 have hd:Hd (d::bs).flatten:=by
  have key:∀ (az:List (List ae)),Hds (az++c::d::bs)→Hd (d::bs).flatten:=by
   intro az;induction az with
   |nil=>intro hh;exact hh.1
   |cons a az ih=>
    intro hh;cases az with
    |nil=>exact ih hh.2
    |cons b az=>exact ih hh.2
  exact key az h.hds
 rw [List.flatten_cons] at hd;obtain ⟨y,t,hyt,hy⟩:=hd
 have hcl:∀ x∈c,bJ x=false:=by
  rw [hyt] at w2;exact qe w2 hy
 obtain ⟨_,w3⟩:=gE.1 w2
 have hbt:bF (bF false az.flatten) c=true:=by
  rw [← uv];cases az with
  |nil=>exact h.bf c (d::bs) rfl (by simp)
  |cons a az=>
   have:=h.bf a (az++c::d::bs) rfl (by simp);rw [List.flatten_cons,List.append_assoc,uv,this];simp [bF]
 rw [hbt] at w3;have hop:∀ x∈d,cM x=false:=fun x hx=>pG w3 x (by simp [hx])
 have g1:glue1 2 0 [] p.l=o.map ee++cN c:=by
  rw [iB,e2,List.filter_append,List.filter_append,oJ (fun h=>by omega) (fun _=>hcl)];rw [List.filter_eq_self.2 (fun x hx=>by obtain ⟨s,_,rfl⟩:=List.mem_map.1 hx;rfl),List.filter_eq_nil_iff.2 (fun x hx=>by obtain ⟨s,_,rfl⟩:=List.mem_map.1 hx;rw [Ch (by omega)];simp)];rw [List.append_nil,List.foldl_append,xy _ _ fun y hy=>mO hy,List.nil_append,mM (fun y hy=>mO hy) (cN c) (lY tc)]
  have:cN (cN c)=cN c:=oH (fun y hy=>by cases hy) c tc
  rw [this]
 have g2:glue1 2 1 (o.map ee++cN c) q.l=o.map ee++(cN (c++d)++(NP (d.foldl cG (c.foldl cG o)) bs).map fY):=by
  rw [iB,e3,List.filter_append,List.filter_append,oJ (fun _=>hop) (fun h=>by omega)];rw [List.filter_eq_nil_iff.2 (fun x hx=>by obtain ⟨s,_,rfl⟩:=List.mem_map.1 hx;rw [Cg (by omega)];simp),List.filter_eq_self.2 (fun x hx=>by obtain ⟨s,_,rfl⟩:=List.mem_map.1 hx;rfl)];rw [List.nil_append,List.foldl_append,xy _ _ fun y hy=>Cc hy]
  have e5:(cN d).foldl cf (o.map ee++cN c)=o.map ee++cN (c++d):=by
   have a1:=mM (c:=o.map ee) (fun y hy=>mO hy) c tc
   have a2:=mM (c:=o.map ee) (fun y hy=>mO hy) (c++d) (fun y hy=>by
    rcases List.mem_append.1 hy with hy | hy
    ·exact tc y hy
    ·exact td y hy)
   rw [List.foldl_append,a1] at a2
   rw [oH (fun y hy=>by
    rcases List.mem_append.1 hy with hy | hy
    ·exact .inl (mO hy)
    ·exact lY tc y hy) d td,a2]
  rw [e5,List.append_assoc]
 have hg:mj [p,q].length 0 [] [p,q]=o.map ee++(cN (c++d)++(NP ((c++d).foldl cG o) bs).map fY):=by
  show glue1 2 1 (glue1 2 0 [] p.l) q.l=_;rw [g1,g2,List.foldl_append]
 have hpm:=z2 (c++d) bs
 have hv:∀ x∈[p,q],c9 x.l=0:=fun x hx=>h.valid x.l (by
  rw [← hps];refine List.mem_map_of_mem ?_;simp at hx ⊢;rcases hx with rfl | rfl<;>simp)
 have hsm:=(hm.small _ (by rw [hpm];simp;exact .inr (.inl rfl))).1;have hl5:=h.len;obtain ⟨r1,r2⟩:=Ka (by simp) hv (Cm X p q Y (h.adj hps)) hg (by rw [List.foldl_append];omega);refine ⟨_,hm,r1,fun t => ?_⟩;rw [List.map_append,List.map_cons,r2,hpm,e1,e4,List.foldl_append]
theorem kP(k:Int)(a b:List bk):bq k (a++b)=bq k a++bq k b:=by simp [bq]
def PX(p:List ae):Sl ae:=⟨lV p,p⟩
theorem RA(i:Nat)(p:List ae):prt (mkS i p)=PX p:=by
 unfold prt mkS PX;cases p<;>rfl
theorem vY(k i:Nat)(c:List (List ae)):bq (k:Int) (c.map (mkS i))=if k=i then c.map PX else []:=by
 induction c with
 |nil=>simp [bq]
 |cons p c ih=>
  rw [List.map_cons,gD,ih,RA]
  by_cases h:k=i
  ·subst h
   rw [if_pos rfl,if_pos rfl,show ((mkS k p).block == (k:Int))=true from beq_self_eq_true _,sel_true];rfl
  ·rw [if_neg h,if_neg h,show ((mkS i p).block == (k:Int))=false from beq_eq_false_iff_ne.2 (by show ((i:Nat):Int)≠_;omega),sel_false];rfl
theorem yV(rs:List Brk):∀ (l:List aw) (i k:Nat) (b:aw),i≤k→l[k-i]?=some b→(b.kind == 6)=false→bq (k:Int) (mJ rs i l)=(kf rs b).map PX
 |[],i,k,b,_,h,_=>by simp at h
 |x::t,i,k,b,hk,h,hb=>by
  rw [mJ,kP]
  have no:∀ (t:List aw) (j:Nat),k<j→bq (k:Int) (mJ rs j t)=[]:=by
   intro t;induction t with
   |nil=>intro j _;rfl
   |cons y t ih=>
    intro j hj;rw [mJ,kP,ih (j+1) (by omega),List.append_nil];cases y.kind == 6 with
    |true=>rfl
    |false=>rw [sel_false,vY,if_neg (by omega)]
  by_cases hki:k=i
  ·subst hki
   rw [Nat.sub_self] at h;simp only [List.getElem?_cons_zero,Option.some.injEq] at h;subst h;rw [no t (k+1) (by omega),List.append_nil,hb,sel_false,vY,if_pos rfl]
  ·obtain ⟨m,hm⟩:∃ m,k-i=m+1:=⟨k-i-1,by omega⟩
   rw [hm,List.getElem?_cons_succ] at h;have ih:=yV rs t (i+1) k b (by omega) (by rw [show k-(i+1)=m by omega];exact h) hb;rw [ih];cases x.kind == 6 with
   |true=>rfl
   |false=>rw [sel_false,vY,if_neg hki];rfl
theorem Kb{bl:List aw}{i:Nat}(hi:i<bl.length)(hk:Hf bl i=false){rest:List bk}(hr:∀ p:Option Int,(∀ q,p=some q→q≤(i:Int))→qA bl p rest=false):∀ (c:List (List ae)) (p:Option Int),(∀ q,p=some q→q≤(i:Int))→qA bl p (c.map (mkS i)++rest)=false
 |[],p,h=>hr p h
 |x::c,p,h=>by
  rw [List.map_cons,List.cons_append,qA,Kb hi hk hr c (some (mkS i x).block) (fun q hq=>by cases hq;exact Int.le_refl _),Bool.or_false];refine B8 ?_ (decide_eq_false (by show ¬ ((i:Nat):Int)<0;omega)) (decide_eq_false (by show ¬ (_≤((i:Nat):Int));omega)) hk;cases p with
  |none=>rfl
  |some q=>
   have:=h q rfl;exact decide_eq_false (by show ¬ ((i:Nat):Int)<q;omega)
theorem Hz(rs:List Brk)(bl:List aw):∀ (l:List aw) (i:Nat) (p:Option Int),bl.drop i=l→(∀ q,p=some q→q≤(i:Int))→qA bl p (mJ rs i l)=false
 |[],_,_,_,_=>rfl
 |b::t,i,p,h,hp=>by
  have hlen:i<bl.length:=by
   have:=congrArg List.length h;simp at this;omega
  have hb:bl[i]?=some b:=by
   have:=congrArg (fun l:List aw=>l[0]?) h;simpa using this
  have ht:bl.drop (i+1)=t:=by rw [← List.drop_drop,h];rfl
  have hr:∀ p:Option Int,(∀ q,p=some q→q≤(i:Int))→qA bl p (mJ rs (i+1) t)=false:=fun p hp=>Hz rs bl t (i+1) p ht fun q hq=>by have:=hp q hq;omega
  rw [mJ];cases c:b.kind == 6 with
  |true=>rw [sel_true,List.nil_append];exact hr p hp
  |false=>
   rw [sel_false];exact Kb hlen (by unfold Hf;rw [Int.toNat_natCast,hb];exact c) hr _ p hp
theorem D1{l:List aw}(h:(gZ l == 0)=true):∀ b∈l,c9 b.pieces.l=0∧uq b.pieces.l=true:=by
 have h0:gZ l=0:=by simpa using h
 have h1:sA l=0:=by
  unfold gZ at h0;cases c:decide ((256:Int)<(l.length:Int)) with
  |true=>rw [c,sel_true] at h0;cases h0
  |false=>rwa [c,sel_false] at h0
 clear h h0;induction l with
 |nil=>intro b hb;cases hb
 |cons x l ih=>
  rw [sA] at h1;cases c:xr x == 0 with
  |false=>rw [c,sel_false] at h1;rw [h1] at c;cases c
  |true=>
   rw [c,sel_true] at h1;intro b hb;rcases List.mem_cons.1 hb with rfl | hb
   ·have hc:xr b=0:=by simpa using c
    unfold xr at hc;cases c1:decide (b.kind<1)||decide (6<b.kind) with
    |true=>rw [c1,sel_true] at hc;cases hc
    |false=>
    rw [c1,sel_false] at hc;cases c2:c9 b.pieces.l == 0 with
    |false=>rw [c2,sel_false] at hc;rw [hc] at c2;cases c2
    |true=>
    rw [c2,sel_true] at hc;cases c3:uq b.pieces.l with
    |false=>rw [c3,sel_false] at hc;cases hc
    |true=>exact ⟨by simpa using c2,rfl⟩
   ·exact ih h1 b hb
theorem HA{sl:List bk}{bl:List aw}(h0:(gZ bl == 0)=true)(hA:qA bl none sl=false)(hB:∀ (k:Nat) (b:aw),bl[k]?=some b→(b.kind == 6)=false→∃ cs,ChP b.pieces.l cs∧(bq (k:Int) sl).map (·.l)=parts [] cs) :
  IL sl bl=0∧∀ g,DV (qB g sl bl) bl:=by
 have hw:=D1 h0
 have lk:∀ (t:List aw) (i:Nat),bl.drop i=t→B7 sl i t=false:=by
  intro t;induction t with
  |nil=>intro i _;rfl
  |cons b t ih=>
   intro i h
   have hb:bl[i]?=some b:=by
    have:=congrArg (fun l:List aw=>l[0]?) h;simpa using this
   have ht:bl.drop (i+1)=t:=by rw [← List.drop_drop,h];rfl
   rw [B7,ih (i+1) ht,Bool.or_false];cases c:b.kind == 6 with
   |true=>rfl
   |false=>
    obtain ⟨cs,h1,h2⟩:=hB i b hb c
    have hne:bq (i:Int) sl≠[]:=fun e=>by
     rw [e] at h2;have:=congrArg List.length h2;rw [iT] at this;exact h1.ne (List.length_eq_zero_iff.1 this.symm)
    have ho:ofB (i:Int) sl=true:=by
     cases ho:ofB (i:Int) sl with
     |true=>rfl
     |false=>
      refine absurd ?_ hne;unfold bq;rw [List.filter_eq_nil_iff.2 fun x hx=>List.any_eq_false.1 ho x hx];rfl
    rw [ho];rfl
 have re:∀ (t:List aw) (i:Nat),bl.drop i=t→vV (fun k=>bq (k:Int) sl) i t=0∧∀ g,DV (oC g (fun k=>bq (k:Int) sl) i t) t:=by
  intro t;induction t with
  |nil=>intro i _;exact ⟨rfl,fun g=>⟨rfl,fun i x y h=>by simp [oC] at h⟩⟩
  |cons b t ih=>
   intro i h
   have hb:bl[i]?=some b:=by
    have:=congrArg (fun l:List aw=>l[0]?) h;simpa using this
   have ht:bl.drop (i+1)=t:=by rw [← List.drop_drop,h];rfl
   obtain ⟨i1,i2⟩:=ih (i+1) ht;obtain ⟨hck,hwh⟩:=hw b (List.mem_of_getElem? hb);have hlen:b.pieces.l.length≤512:=((mN _).1 hck).1
   have cons:∀ (g:List ae→Tag) (y:aw),y.kind=b.kind→y.pieces.l=b.pieces.l→DV (y::oC g (fun k=>bq (k:Int) sl) (i+1) t) (b::t):=fun g y h1 h2=>by
    refine ⟨by rw [List.length_cons,(i2 g).1];rfl,fun j u v hu hv => ?_⟩;cases j with
    |zero=>
     simp only [List.getElem?_cons_zero,Option.some.injEq] at hu hv;subst hu hv;exact ⟨h1,h2,by rw [h2];simp only [bH];omega⟩
    |succ j=>exact (i2 g).2 j u v hu hv
   rw [vV];cases c:b.kind == 6 with
   |true=>
    rw [sel_true];refine ⟨i1,fun g => ?_⟩;rw [oC,c,sel_true];exact cons g _ rfl rfl
   |false=>
    obtain ⟨cs,h1,h2⟩:=hB i b hb c;obtain ⟨e1,e2⟩:=h1.gluEq h2;rw [sel_false,e1,e2,hwh,show ((0:Int) == 0)=true from rfl,sel_true,sel_true];refine ⟨i1,fun g => ?_⟩;rw [oC,c,sel_false];exact cons g _ rfl e2
 obtain ⟨r1,r2⟩:=re bl 0 rfl
 have hE:IL sl bl=0:=by
  unfold IL;rw [h0,sel_true,hA,sel_false,lk bl 0 rfl,sel_false,r1]
 refine ⟨hE,fun g => ?_⟩;unfold qB;rw [hE,show ((0:Int) == 0)=true from rfl,sel_true];exact r2 g
theorem HB{rs:List Brk}{bl:List aw}(h0:(gZ bl == 0)=true)(k:Nat)(b:aw)(hb:bl[k]?=some b)(hk:(b.kind == 6)=false):∃ cs,ChP b.pieces.l cs∧(bq (k:Int) (mJ rs 0 bl)).map (·.l)=parts [] cs:=by
 obtain ⟨hck,_⟩:=D1 h0 b (List.mem_of_getElem? hb);obtain ⟨cs,hc⟩:=zT hck (Hc rs b.pieces.l);refine ⟨cs,hc.ch, ?_⟩;rw [yV rs bl 0 k b (Nat.zero_le _) (by simpa using hb) hk,List.map_map];unfold kf;rw [hc.cut];exact List.map_id _
theorem Cn{bl:List aw}{s t u:bk}(h1:s.block=t.block)(h2:u.block=s.block){B:List bk}:∀ (A:List bk) (p:Option Int),qA bl p (A++s::t::B)=false→qA bl p (A++u::B)=false
 |[],p,h=>by
  simp only [List.nil_append,qA,Bool.or_eq_false_iff] at h ⊢;refine ⟨?_,by rw [h2,h1];exact h.2.2⟩;have:=h.1;unfold u7 at this ⊢;rw [h2];exact this
 |x::A,p,h=>by
  simp only [List.cons_append,qA,Bool.or_eq_false_iff] at h ⊢;exact ⟨h.1,Cn h1 h2 A _ h.2⟩
theorem HC{sl:List bk}{bl:List aw}(hA:qA bl none sl=false)(hB:∀ (k:Nat) (b:aw),bl[k]?=some b→(b.kind == 6)=false→∃ cs,ChP b.pieces.l cs∧(bq (k:Int) sl).map (·.l)=parts [] cs)
  {A B:List bk}{s t:bk} (hs:sl=A++s::t::B) (hb:s.block=t.block) (hr:∀ x∈sl,∃ (k:Nat) (b:aw),x.block=(k:Int)∧bl[k]?=some b∧(b.kind == 6)=false) :
  vU [prt s,prt t]=0∧∀ (tg:Tag),qA bl none (A++⟨s.block,⟨tg,fF [prt s,prt t]⟩⟩::B)=false∧∀ (k:Nat) (b:aw),bl[k]?=some b→(b.kind == 6)=false→∃ cs,ChP b.pieces.l cs∧(bq (k:Int) (A++⟨s.block,⟨tg,fF [prt s,prt t]⟩⟩::B)).map (·.l)=parts [] cs:=by
 obtain ⟨n,b,e1,e2,e3⟩:=hr s (by rw [hs];simp);obtain ⟨cs,c1,c2⟩:=hB n b e2 e3
 have hpn:bq (n:Int) sl=bq (n:Int) A++prt s::prt t::bq (n:Int) B:=by
  rw [hs,kP,gD,gD,← hb,e1,beq_self_eq_true,sel_true,sel_true];rfl
 rw [hpn] at c2;obtain ⟨cs',d1,d2,d3⟩:=c1.pair c2;refine ⟨d2,fun tg=>⟨?_,fun k b' hb' hk' => ?_⟩⟩
 ·rw [hs] at hA
  exact Cn (u:=⟨s.block,⟨tg,fF [prt s,prt t]⟩⟩) hb rfl A none hA
 ·by_cases hkn:k=n
  ·subst hkn
   rw [e2] at hb';cases hb';refine ⟨cs',d1, ?_⟩;rw [kP,gD,show ((s.block == (k:Int))=true) by rw [e1];exact beq_self_eq_true _,sel_true];exact d3 tg.strip
  ·obtain ⟨cs2,f1,f2⟩:=hB k b' hb' hk'
   refine ⟨cs2,f1, ?_⟩;have q:((n:Int) == (k:Int))=false:=beq_eq_false_iff_ne.2 (by omega);rw [← f2,hs,kP,kP,gD,gD,gD,← hb,e1,q,sel_false,sel_false,sel_false];rfl
theorem yr(rs:List Brk)(bl:List aw):∀ (l:List aw) (i:Nat),bl.drop i=l→∀ x∈mJ rs i l,∃ (k:Nat) (b:aw),x.block=(k:Int)∧bl[k]?=some b∧(b.kind == 6)=false
 |[],_,_,x,hx=>by cases hx
 |b::t,i,h,x,hx=>by
  have hb:bl[i]?=some b:=by
   have:=congrArg (fun l:List aw=>l[0]?) h;simpa using this
  have ht:bl.drop (i+1)=t:=by rw [← List.drop_drop,h];rfl
  rw [mJ] at hx;rcases List.mem_append.1 hx with hx | hx
  ·cases c:b.kind == 6 with
   |true=>rw [c,sel_true] at hx;cases hx
   |false=>
    rw [c,sel_false] at hx;obtain ⟨p,_,rfl⟩:=List.mem_map.1 hx;exact ⟨i,b,rfl,hb,c⟩
  ·exact yr rs bl t (i+1) ht x hx
theorem PY{rs:List Brk}{bl:List aw}(h0:(gZ bl == 0)=true){k:Nat}{b:aw}(hb:bl[k]?=some b):ofB (k:Int) (mJ rs 0 bl) = !(b.kind == 6):=by
 cases c:b.kind == 6 with
 |true=>
  unfold ofB;rw [Bool.not_true,List.any_eq_false];intro x hx hk;obtain ⟨n,b',e1,e2,e3⟩:=yr rs bl bl 0 rfl x hx
  have:x.block=(k:Int):=by simpa using hk
  have hn:n=k:=by omega
  subst hn;rw [hb] at e2;cases e2;rw [c] at e3;cases e3
 |false=>
  obtain ⟨cs,h1,h2⟩:=HB (rs:=rs) h0 k b hb c;cases ho:ofB (k:Int) (mJ rs 0 bl) with
  |true=>rfl
  |false=>
   exfalso
   have:bq (k:Int) (mJ rs 0 bl)=[]:=by
    unfold bq;rw [List.filter_eq_nil_iff.2 fun x hx=>List.any_eq_false.1 ho x hx];rfl
   rw [this] at h2;have:=congrArg List.length h2;rw [iT] at this;exact h1.ne (List.length_eq_zero_iff.1 this.symm)
section
attribute [local congr] aA bo aM aC aL aG aD aq au aH aI
variable{E:bb}(M:bO bU E)
theorem RB(x:ae):(unP x).length≤1+(sel (x.kind == 1) x.text []).length:=by
 unfold unP;cases k5:x.kind == 5 with
 |true=>rw [sel_true];simp
 |false=>
  rw [sel_false];cases k1:x.kind == 1 with
  |true=>rw [sel_true,sel_true,List.length_map];have:=px x.text;omega
  |false=>rw [sel_false];simp
theorem NQ:∀ l:List ae,(unL l).length≤l.length+(b8 l).length
 |[]=>Nat.le_refl _
 |x::l=>by
  have h1:=NQ l;have h2:=RB x;show (unP x++unL l).length≤(x::l).length+(sel (x.kind == 1) x.text []++b8 l).length;rw [List.length_append,List.length_append,List.length_cons];omega
theorem Kc{N:Nat}:∀ (P:List Int) (n:Nat),C7 N n P→P.length+n≤N∨P=[]
 |[],_,_=>.inr rfl
 |p::P,n,h=>by
  have a1:=h.1;have a2:=h.2.1;rcases Kc P p.toNat h.2.2 with h | h
  ·exact .inl (by simp only [List.length_cons];omega)
  ·subst h;exact .inl (by simp;omega)
theorem NR{rs:List Brk}{b:aw}(h:c9 b.pieces.l=0):(kf rs b).length≤1+(b.pieces.l.length+(b8 b.pieces.l).length):=by
 obtain ⟨cs,hc⟩:=zT h (Hc rs b.pieces.l);unfold kf;rw [hc.cut,iT,xx hc.ck];have:=NQ b.pieces.l;rcases Kc _ 0 hc.inc with h | h
 ·omega
 ·rw [h];simp
theorem NS:∀ (l:List aw) (m:Nat),vsN m l=m+(l.map fun b=>b.pieces.l.length+(b8 b.pieces.l).length).sum
 |[],m=>rfl
 |b::t,m=>by
  show vsN (m+b.pieces.l.length+(b8 b.pieces.l).length) t=_;rw [NS t,List.map_cons,List.sum_cons];omega
theorem Kd{rs:List Brk}:∀ (l:List aw) (i:Nat),(∀ b∈l,c9 b.pieces.l=0)→(mJ rs i l).length≤l.length+(l.map fun b=>b.pieces.l.length+(b8 b.pieces.l).length).sum
 |[],_,_=>Nat.zero_le _
 |b::t,i,h=>by
  have h1:=Kd (rs:=rs) t (i+1) fun x hx=>h x (by simp [hx])
  have h2:=NR (rs:=rs) (h b (by simp));rw [mJ,List.length_append,List.length_cons,List.map_cons,List.sum_cons];cases b.kind == 6 with
  |true=>rw [sel_true];simp only [List.length_nil];omega
  |false=>rw [sel_false,List.length_map];omega
theorem NT{l:List aw}(h:B5 l=false)(hl:l.length≤256):l.length+(l.map fun b=>b.pieces.l.length+(b8 b.pieces.l).length).sum≤3500:=by
 unfold B5 at h;rw [List.take_of_length_le (by omega)] at h;cases c:vsB l with
 |true=>rw [c,sel_true] at h;cases h
 |false=>
  rw [c,sel_false] at h;have:=of_decide_eq_false h;rw [NS] at this;omega
def PZ(n:Nat)(G:List AObj)(v:AV)(l:List bk):Prop:=(l=[]∧v = .slice .full 2 [])∨∃ t,n≤t∧v = .slice (.own t) 2 (l.map bk.row)∧G[t]?=some (.tok (l.length*2) aN)
theorem PZ.tag{n:Nat}{G:List AObj}{v:AV}{l:List bk}(h:PZ n G v l):∃ tg,v = .slice tg 2 (l.map bk.row):=by
 rcases h with ⟨rfl,rfl⟩ | ⟨t,_,rfl,_⟩
 ·exact ⟨.full,rfl⟩
 ·exact ⟨_,rfl⟩
theorem Fx{n:Nat}{G:List AObj}{v:AV}{l m:List bk}{tg:Tag}(h:PZ n G v l)(hn:n≤G.length)(hs:∀ x∈m,x.pieces.tag.strip=x.pieces.tag)(hb:l.length+m.length≤1000000) :
  ∃ w G',rap false G aN 2 32 false v (.slice tg 2 (m.map bk.row))=some (w,G')∧PZ n G' w (l++m)∧G.length≤G'.length∧(∀ (i:Nat) (y:AObj),G[i]?=some y→(∀ n e,y≠AObj.tok n e)→G'[i]?=some y)∧∀ i:Nat,i<n→G'[i]?=G[i]? := by
 have hr:=Fj (row:=bk.row) (sz:=2) m fun _ _=>⟨rfl,rfl⟩
 have h3:=vT (row:=bk.row) m fun x hx=>by
  show [AV.strip (.int .i64 x.block),AV.strip (.slice x.pieces.tag 3 _)]=_;rw [eS,hs x hx];rfl
 have e1:(l.length+m.length)*32≤140737488355328:=by omega
 have e2:l.length+m.length≤4611686018427387904:=by omega
 cases m with
 |nil=>
  refine ⟨v,G, ?_,by rw [List.append_nil];exact h,Nat.le_refl _,fun i y hi _=>hi,fun _ _=>rfl⟩;rcases h with ⟨rfl,rfl⟩ | ⟨t,_,rfl,hg⟩
  ·simp [rap,qL,kQ,mq]
  ·simp only [List.length_nil,Nat.add_zero] at e1 e2
   simp [rap,qL,kQ,mq,e1,e2]
 |cons x m=>
  rcases h with ⟨rfl,rfl⟩ | ⟨t,hnt,rfl,hg⟩
  ·refine ⟨.slice (.own G.length) 2 ((x::m).map bk.row),G++[.tok ((x::m).length*2) aN], ?_,.inr ⟨G.length,hn,rfl,by rw [aJ];rfl⟩,by simp,fun i y hi _=>bD hi,fun i hi=>List.getElem?_append_left (by omega)⟩
   generalize hm:x::m=z at *
   simp only [rap,qL,kQ,if_true,List.length_map,List.length_nil,Nat.zero_add,true_or,or_true,hr,and_true,true_and] at e1 e2 ⊢;rw [if_pos ⟨e1,e2⟩];subst hm;simp only [List.map_cons] at h3 ⊢;simp only [List.length_cons,List.length_map,h3,List.nil_append]
  ·have hlt:=bZ hg
   refine ⟨.slice (.own t) 2 ((l++x::m).map bk.row),G.set t (.tok ((l++x::m).length*2) aN), ?_,.inr ⟨t,hnt,rfl,List.getElem?_set_self hlt⟩,by simp,fun i y hi hy => ?_,fun i hi=>List.getElem?_set_ne (by omega)⟩
   ·have e3:l.length*2+(x::m).length*2=(l++x::m).length*2:=by rw [List.length_append,Nat.add_mul]
    generalize hm:x::m=z at *
    simp only [rap,qL,kQ,if_true,List.length_map,or_true,hr,and_true,true_and,e1,e2];subst hm;simp only [List.map_cons] at h3 ⊢;simp only [List.length_cons,List.length_map,h3,hg,true_and,if_true] at e3 ⊢;rw [e3,List.map_append,List.map_cons]
   ·rw [List.getElem?_set_ne (fun e=>by subst e;rw [hg] at hi;cases hi;exact hy _ _ rfl)];exact hi
theorem rs0{sl:List bk}{ts:Tag}(hsl:sl.length≤1000000){H0 H:List AObj}{v2 v3 v9:AV}{q:Int}(k:List Fra):∀ (n j:Nat) (b:Bool) (He:List AObj),j+n=sl.length →
  M.go bM H0 (.c bA :: .lp ⟨(some [2,3,7,9,11,12,13]),[],false⟩ bA He :: .blk 2 :: .c (.lv [2,3,7,9,11,12])::k) (kv [(2,v2),(3,v3),(7,.slice ts 2 (sl.map bk.row)),(9,v9),(11,.int .i64 q),(12,.bool b),(13,.int .i64 j)]) H =
   M.go bM H0 k (kv [(2,v2),(3,v3),(7,.slice ts 2 (sl.map bk.row)),(9,v9),(11,.int .i64 q),(12,.bool (b||ofB q (sl.drop j)))]) H
 |0,j,b,He,h=>by
  have e:j=sl.length:=by omega
  subst e;rw [List.drop_length,show ofB q []=false from rfl,Bool.or_false];rw [ak M bA.eq_1];simp (maxSteps:=3000000) (maxDischargeDepth:=6) +contextual -implicitDefEqProofs only [amC M,↓amD,Nat.reduceBEq,Nat.reduceAdd,env,aj,aO,Nat.lt_irrefl,List.length_map]
 |n+1,j,b,He,h=>by
  have hj:j<sl.length:=by omega
  have hx:sl[j]?=some sl[j]:=List.getElem?_eq_getElem hj;have hd:(sl.drop j)=sl[j]::sl.drop (j+1):=List.drop_eq_getElem_cons hj;have hwj:=cV (n:=sl.length) hj (by simp only [bH];omega);have hir:=a8 (row:=bk.row) (tag:=ts) (sz:=2) (k:=.i64) hj;have ih:=fun b He=>rs0 hsl (ts:=ts) (H0:=H0) (H:=H) (v2:=v2) (v3:=v3) (v9:=v9) (q:=q) k n (j+1) b He (by omega)
  simp only [kv_cons,kv_nil] at ih;rw [hd,show ofB q (sl[j]::sl.drop (j+1))=((sl[j].block == q)||ofB q (sl.drop (j+1))) from rfl];cases b with
  |true=>
   rw [Bool.true_or];have ih1:=ih true;simp only [Bool.true_or] at ih1;rw [ak M bA.eq_1];simp (maxSteps:=3000000) (maxDischargeDepth:=6) +contextual -implicitDefEqProofs only [amC M,↓amD,Nat.reduceBEq,Nat.reduceAdd,env,aj,aO,hj,hwj,List.length_map,ih1]
  |false=>
   rw [Bool.false_or];cases c:sl[j].block == q with
   |true=>
    have ih1:=ih true;simp only [Bool.true_or] at ih1;rw [Bool.true_or];rw [ak M bA.eq_1];simp (maxSteps:=3000000) (maxDischargeDepth:=6) +contextual -implicitDefEqProofs only [amC M,↓amD,Nat.reduceBEq,Nat.reduceAdd,env,aj,aO,hj,hx,hir,oV,c,hwj,List.length_map,ih1]
   |false=>
    have ih1:=ih false;simp only [Bool.false_or] at ih1;rw [Bool.false_or];rw [ak M bA.eq_1];simp (maxSteps:=3000000) (maxDischargeDepth:=6) +contextual -implicitDefEqProofs only [amC M,↓amD,Nat.reduceBEq,Nat.reduceAdd,env,aj,aO,hj,hx,hir,oV,c,hwj,List.length_map,ih1]
theorem rs1{sl:List bk}{ts tg:Tag}(hsl:sl.length≤1000000){bl:List aw}(hbl:bl.length≤1000000)(hhas:∀ (k:Nat) (b:aw),bl[k]?=some b→ofB (k:Int) sl = !(b.kind == 6)){H0 H:List AObj}{p:Nat}{v2 v9:AV}(hp:H[p]?=some (.cells [.slice tg 2 (bl.map aw.row)] ag))(k:List Fra):∀ (n i:Nat) (He:List AObj),i+n=bl.length →
  M.go bM H0 (.c bQ :: .lp ⟨(some [2,3,7,9,11]),[],false⟩ bQ He :: .blk 0 :: .c (.lv [2,3,7,9])::k) (kv [(2,v2),(3,.ptr p 0),(7,.slice ts 2 (sl.map bk.row)),(9,v9),(11,.int .i64 i)]) H =
   M.go bM H0 k (kv [(2,v2),(3,.ptr p 0),(7,.slice ts 2 (sl.map bk.row)),(9,v9)]) H
 |0,i,He,h=>by
  have e:i=bl.length:=by omega
  have l1:∀ x:AV,bh none [x] 0=some x:=fun _=>rfl
  subst e;rw [ak M bQ.eq_1];simp (maxSteps:=3000000) (maxDischargeDepth:=6) +contextual -implicitDefEqProofs only [amC M,↓amD,Nat.reduceBEq,Nat.reduceAdd,env,aj,aO,hp,l1,Nat.lt_irrefl,List.length_map]
 |n+1,i,He,h=>by
  have hi:i<bl.length:=by omega
  have hx:bl[i]?=some bl[i]:=List.getElem?_eq_getElem hi;have hwi:=cV (n:=bl.length) hi (by simp only [bH];omega);have hir:=a8 (row:=aw.row) (tag:=tg) (sz:=2) (k:=.i64) hi;have l1:∀ x:AV,bh none [x] 0=some x:=fun _=>rfl
  have ih:=fun He=>rs1 hsl hbl hhas hp (ts:=ts) (v2:=v2) (v9:=v9) (H0:=H0) k n (i+1) He (by omega)
  have h1:=fun k He=>rs0 M hsl (ts:=ts) (H0:=H0) (H:=H) (v2:=v2) (v3:=.ptr p 0) (v9:=v9) (q:=(i:Int)) k sl.length 0 false He (by omega)
  simp only [kv_cons,kv_nil,Int.ofNat_zero,List.drop_zero,Bool.false_or,hhas i _ hx] at ih h1;have rq:∀ b:Bool,req .bool (.bool (!b)) (.bool b)=some false:=fun b=>by cases b<;>rfl
  have rqt:req .bool (.bool true) (.bool false)=some false:=rfl;have rqf:req .bool (.bool false) (.bool true)=some false:=rfl;cases c:bl[i].kind == 6 with
  |true=>
   simp only [c,Bool.not_true] at h1;rw [ak M bQ.eq_1];simp (maxSteps:=3000000) (maxDischargeDepth:=6) +contextual -implicitDefEqProofs only [amC M,↓amD,Nat.reduceBEq,Nat.reduceAdd,env,aj,aO,hi,hx,hir,dD,hp,l1,h1,c,rqf,hwi,ih,List.length_map]
  |false=>
   simp only [c,Bool.not_false] at h1;rw [ak M bQ.eq_1];simp (maxSteps:=3000000) (maxDischargeDepth:=6) +contextual -implicitDefEqProofs only [amC M,↓amD,Nat.reduceBEq,Nat.reduceAdd,env,aj,aO,hi,hx,hir,dD,hp,l1,h1,c,rqt,hwi,ih,List.length_map]
theorem HD{l:List bk}{a:Nat}(ha:a≤l.length):xI 2 (.slice .any 2 (l.map bk.row)) none (some (.int .i64 (a:Int))) none=some (.slice .any 2 ((l.take a).map bk.row)) ∧
  xI 2 (.slice .any 2 (l.map bk.row)) (some (.int .i64 (a:Int))) none none=some (.slice .any 2 ((l.drop a).map bk.row)):=by
 constructor
 ·simp [xI,dg,ha]
 ·simp [xI,dg,ha]
  exact List.take_of_length_le (by simp)
theorem yt(hB:kY E)(hX:sR M)(hU:jf E)(hN:IA E)(hC:mI E)(hS:u6 E){d:Docu}(hd:d.ok 0∧d.kt){rs:Sl Brk}(hrs:rs.ok 0 (Brk.ok 0)){w:Int}(hw:I64 w){H:List AObj}
  (hL:∀ H,M.run bK [] H=some (.ret (.bool true),H)):M.run ff [.agg d.row,.slice rs.tag 3 (rs.l.map Brk.row),.int .i64 w] H=some (.ret (.bool true),H):=by
 have s1:=fun H=>Nm M hB hU hS hd.1 H
 have s2:=fun H=>ID M hU hrs H
 have g0:∀ X,(H++AObj.cells d.row ag::X)[H.length]?=some (.cells d.row ag):=fun X=>by rw [aJ];rfl
 have g1:∀ y z X,(H++y::z::X)[H.length+1]?=some z:=fun y z X=>by rw [hp_getk];rfl
 have st1:∀ (y z u:AObj) (X:List AObj),(H++y::z::X).set (H.length+1) u=H++y::u::X:=fun y z u X=>by rw [hp_setk];rfl
 rw [bI M hS.truchmanlaw01_DocsRestored rfl (c:=fh) rfl,fh];cases c1:B5 d.blocks.l with
 |true=>simp (maxSteps:=3000000) (maxDischargeDepth:=6) +contextual -implicitDefEqProofs only [amC M,↓amD,Nat.reduceBEq,Nat.reduceAdd,env,aj,aO,amG,AV.cell,Nat.reduceMul,Nat.reduceLeDiff,g0,kp,s1,c1,hL,hp_take,cut_app]
 |false=>
 cases c2:uD rs.l with
 |true=>simp (maxSteps:=3000000) (maxDischargeDepth:=6) +contextual -implicitDefEqProofs only [amC M,↓amD,Nat.reduceBEq,Nat.reduceAdd,env,aj,aO,amG,AV.cell,Nat.reduceMul,Nat.reduceLeDiff,g0,kp,s1,s2,c1,c2,hL,hp_take,cut_app]
 |false=>
 have hv:=PM c1;have hr:=IE c2;have hr0:=(vm c2).1;have v1:=fun H=>C5 M hB hX hU hN hC hS hrs (by omega) hr hd.1 (fun h b hb=>by have:=hv h b hb;omega) H
 by_cases hgood:(gZ d.blocks.l == 0)=true∧(nK rs.l == 0)=true∧ur rs.l d.blocks.l=false
 ·obtain ⟨h0,h1,h2⟩:=hgood
  have hln:=(xt h0).1;have hck:=(xt h0).2;unfold No at v1;simp only [h0,h1,h2,sel_true,sel_false] at v1;have hsl:=Kd (rs:=rs.l) d.blocks.l 0 hck;have hvl:=NT c1 hln;have og:=HB (rs:=rs.l) h0;have sg:=Hz rs.l d.blocks.l d.blocks.l 0 none rfl (fun q hq=>by cases hq);have rg:=yr rs.l d.blocks.l d.blocks.l 0 rfl;have sh:=fun (k:Nat) (b:aw) (hb:d.blocks.l[k]?=some b)=>PY (rs:=rs.l) h0 hb
  have hmk:=Fi rs.l d.blocks.l 0;obtain ⟨e1,e2⟩:=HA h0 sg og
  have hsm:∀ s∈mJ rs.l 0 d.blocks.l,s.pieces.l.length+gR s.pieces.l≤2500:=fun s hs=>by
   obtain ⟨k,b,f1,f2,f3⟩:=rg s hs;obtain ⟨cs,k1,k2⟩:=og k b f2 f3
   have hm:s.pieces.l∈parts [] cs:=by
    rw [← k2,List.mem_map];refine ⟨prt s, ?_,rfl⟩;unfold bq;exact List.mem_map_of_mem (List.mem_filter.2 ⟨hs,by rw [f1];exact beq_self_eq_true _⟩)
   have a1:=(k1.small _ hm).2;have a2:=hv hln b (List.mem_of_getElem? f2);omega
  generalize mJ rs.l 0 d.blocks.l=sl at *
  have v4:=fun ts H=>xu M hB hX hC hS (sl:=sl) (ts:=ts) (by omega) (fun s hs=>by have:=hsm s hs;omega) hd.1 hd.2 (fun h b hb=>by have:=hv h b hb;omega) H
  have same:∀ (sl:List bk),(∀ g,DV (qB g sl d.blocks.l) d.blocks.l)→∀ H,M.run eT [.agg [.slice (sq (qB (fun _=>.any) sl d.blocks.l)) 2 ((qB (fun _=>.any) sl d.blocks.l).map aw.row)],.agg d.row] H=some (.ret (.bool true),H):=fun sl hs H=>
   Np M hB hS (a:=⟨⟨sq (qB (fun _=>.any) sl d.blocks.l),qB (fun _=>.any) sl d.blocks.l⟩⟩) (b:=d) (hs _) (Nat.le_trans (Nu _ _ _) hd.1.blocks.len) H
  have v6:=same sl e2;unfold PI at v4;rw [e1] at v4;have l1:=fun X k He=>rs1 M (sl:=sl) (ts:=.any) (tg:=d.blocks.tag) (by omega) (bl:=d.blocks.l) (by omega) sh (H0:=H) (H:=H++AObj.cells d.row ag::X) (p:=H.length) (v2:=.int .i64 w) (v9:=.ptr (H.length+1) 0) (g0 X) k d.blocks.l.length 0 He (by omega)
  simp only [kv_cons,kv_nil,Int.ofNat_zero] at l1;have z0:((0:Int) == 0)=true:=rfl;have l2':∀ x:AV,bh (some 1) [x] 0=some (.agg [x]):=fun _=>rfl
  by_cases hs2:sl.length<2
  ·have d2:decide ((sl.length:Int)<2)=true:=decide_eq_true (by omega)
   simp (maxSteps:=3000000) (maxDischargeDepth:=6) +contextual -implicitDefEqProofs only [amC M,↓amD,Nat.reduceBEq,Nat.reduceAdd,env,aj,aO,amG,AV.cell,Nat.reduceMul,Nat.reduceLeDiff,g0,g1,st1,kp,s1,s2,c1,c2,v1,v4,v6,hL,cX,List.getElem?_cons_zero,List.getElem?_cons_succ,z0,l1,l2',List.length_map,d2,Bool.not_true,hp_take,cut_app]
  have hd2:decide ((sl.length:Int)<2)=false:=decide_eq_false (by omega);obtain ⟨n1,hn1⟩:∃ n1,sl.length=n1+1:=⟨sl.length-1,by omega⟩
  obtain ⟨kk,kl,kv1,kv2⟩:=NO w (n:=n1) (by omega) (by omega);have x1:IntKind.i64.wrap ((sl.length:Int)-1)=(n1:Int):=by rw [bV (by omega) (by omega)];omega
  have r1:=QB (a:=w) (b:=(n1:Int)) (by omega);have r2:=QB (a:=w.tmod (n1:Int)+(n1:Int)) (b:=(n1:Int)) (by omega);rw [kv1] at r2;have b1:w.tmod (n1:Int)<(n1:Int):=Int.tmod_lt_of_pos w (by omega);have b2 : -(n1:Int)<w.tmod (n1:Int):=Int.lt_tmod_of_pos w (by omega);have x2:IntKind.i64.wrap (w.tmod (n1:Int)+(sl.length:Int))=w.tmod (n1:Int)+(sl.length:Int):=bV (by omega) (by omega);have x3:IntKind.i64.wrap (w.tmod (n1:Int)+(sl.length:Int)-1)=w.tmod (n1:Int)+(n1:Int):=by rw [bV (by omega) (by omega)];omega
  have x4:IntKind.i64.wrap ((kk:Int)+1)=((kk+1:Nat):Int):=by rw [bV (by omega) (by omega)];rfl
  have x5:IntKind.i64.wrap ((kk:Int)+2)=((kk+2:Nat):Int):=by rw [bV (by omega) (by omega)];rfl
  have hk0:kk<sl.length:=by omega
  have hk1:kk+1<sl.length:=by omega
  have hx0:sl[kk]?=some sl[kk]:=List.getElem?_eq_getElem hk0;have hx1:sl[kk+1]?=some sl[kk+1]:=List.getElem?_eq_getElem hk1;have ir0:=a8 (row:=bk.row) (tag:=.any) (sz:=2) (k:=.i64) hk0;have ir1:=a8 (row:=bk.row) (tag:=.any) (sz:=2) (k:=.i64) hk1
  have hsp:sl=sl.take kk++sl[kk]::sl[kk+1]::sl.drop (kk+2):=by
   have a1:=uw sl kk _ hx0;have a2:sl.drop (kk+1)=sl[kk+1]::sl.drop (kk+2):=List.drop_eq_getElem_cons hk1;rw [← a2];exact a1
  have hm0:=List.getElem_mem hk0;have hm1:=List.getElem_mem hk1;generalize sl[kk]=s at *
  generalize sl[kk+1]=t at *
  cases hbk:s.block == t.block with
  |false=>
   have hbk2:((s.block == t.block)=true)=False:=by rw [hbk];simp
   simp (maxSteps:=3000000) (maxDischargeDepth:=6) +contextual -implicitDefEqProofs only [amC M,↓amD,Nat.reduceBEq,Nat.reduceAdd,env,aj,aO,amG,AV.cell,Nat.reduceMul,Nat.reduceLeDiff,g0,g1,st1,kp,s1,s2,c1,c2,v1,v4,v6,hL,cX,List.getElem?_cons_zero,List.getElem?_cons_succ,z0,l1,l2',List.length_map,hd2,Bool.not_true,Bool.not_false,x1,r1,r2,x2,x3,x4,hx0,hx1,ir0,ir1,oV,hbk,hp_take,cut_app]
  |true=>
  have hbe:s.block=t.block:=by simpa using hbk
  obtain ⟨m1,m2⟩:=HC sg og hsp hbe rg
  have hg2:=fun H=>DS M hB hX hC (ps:=[prt s,prt t]) (tg:=.full) (by simp) (fun p hp=>by
   have q0:=hsm s hm0;have q1:=hsm t hm1;simp only [List.mem_cons,List.not_mem_nil,or_false] at hp;rcases hp with rfl | rfl
   ·exact ⟨by show s.pieces.l.length≤_;omega,fun x hx=>by have h9:x.text.length≤gR s.pieces.l:=rh hx;omega⟩
   ·exact ⟨by show t.pieces.l.length≤_;omega,fun x hx=>by have h9:x.text.length≤gR t.pieces.l:=rh hx;omega⟩) (by
   have q0:=hsm s hm0;have q1:=hsm t hm1
   have:=IM [prt s,prt t] (fun p hp=>by
    simp only [List.mem_cons,List.not_mem_nil,or_false] at hp;rcases hp with rfl | rfl
    ·show s.pieces.l.length+gR s.pieces.l≤2600;omega
    ·show t.pieces.l.length+gR t.pieces.l≤2600;omega)
   simp only [List.length_cons,List.length_nil] at this;omega) H
  simp only [JW,m1] at hg2;obtain ⟨u1,u2⟩:=m2 (lV (fF [prt s,prt t]));obtain ⟨f1,f2⟩:=HA h0 u1 u2
  have hgsm:(fF [prt s,prt t]).length+gR (fF [prt s,prt t])≤2500:=by
   obtain ⟨k,b,y1,y2,y3⟩:=rg s hm0;obtain ⟨cs,k1,k2⟩:=u2 k b y2 y3
   have hm:fF [prt s,prt t]∈parts [] cs:=by
    rw [← k2,List.mem_map];refine ⟨prt ⟨s.block,⟨lV (fF [prt s,prt t]),fF [prt s,prt t]⟩⟩, ?_,rfl⟩;unfold bq;exact List.mem_map_of_mem (List.mem_filter.2 ⟨by simp,by show (s.block == _)=true;rw [y1];exact beq_self_eq_true _⟩)
   have a1:=(k1.small _ hm).2;have a2:=hv hln b (List.mem_of_getElem? y2);omega
  have hstr:∀ x∈sl,x.pieces.tag.strip=x.pieces.tag:=fun x hx=>by
   obtain ⟨k,p,rfl⟩:=hmk x hx;show (lV p).strip=lV p;cases p<;>rfl
  have pst:(lV (fF [prt s,prt t])).strip=lV (fF [prt s,prt t]):=by cases fF [prt s,prt t]<;>rfl
  obtain ⟨sa,_⟩:=HD (l:=sl) (a:=kk) (by omega);obtain ⟨_,sb⟩:=HD (l:=sl) (a:=kk+2) (by omega);obtain ⟨G0,hG0⟩:∃ G,G=H++[AObj.cells d.row ag,AObj.cells [.slice (sq (qB (fun _=>.any) sl d.blocks.l)) 2 ((qB (fun _=>.any) sl d.blocks.l).map aw.row)] ag]:=⟨_,rfl⟩
  have q0:G0[H.length]?=some (.cells d.row ag):=by rw [hG0];exact g0 _
  have q1:G0[H.length+1]?=some (.cells [.slice (sq (qB (fun _=>.any) sl d.blocks.l)) 2 ((qB (fun _=>.any) sl d.blocks.l).map aw.row)] ag):=by rw [hG0];exact g1 _ _ _
  have hG0l:H.length≤G0.length:=by rw [hG0];simp
  obtain ⟨w1,G1,a1,a2,a3,a4,a5⟩:=Fx (n:=H.length) (G:=G0) (v:=.slice .full 2 []) (l:=[]) (m:=sl.take kk) (tg:=.any) (.inl ⟨rfl,rfl⟩) hG0l (fun x hx=>hstr x (List.mem_of_mem_take hx)) (by rw [List.length_nil,List.length_take];omega);obtain ⟨w2,G2,b1',b2',b3',b4',b5'⟩:=Fx (m:=[⟨s.block,⟨lV (fF [prt s,prt t]),fF [prt s,prt t]⟩⟩]) (tg:=.full) a2 (by omega) (fun x hx=>by simp at hx;subst hx;exact pst) (by simp;omega)
  obtain ⟨w3,G3,d1,d2,d3,d4,d5⟩:=Fx (m:=sl.drop (kk+2)) (tg:=.any) b2' (by omega) (fun x hx=>hstr x (List.mem_of_mem_drop hx)) (by simp;omega);have hL3:[]++sl.take kk++[⟨s.block,⟨lV (fF [prt s,prt t]),fF [prt s,prt t]⟩⟩]++sl.drop (kk+2)=sl.take kk++(⟨s.block,⟨lV (fF [prt s,prt t]),fF [prt s,prt t]⟩⟩:bk)::sl.drop (kk+2):=by simp
  rw [hL3] at d2;obtain ⟨tg3,ht3⟩:=d2.tag;have p0:G3[H.length]?=some (.cells d.row ag):=d4 _ _ (b4' _ _ (a4 _ _ q0 (fun _ _ e=>by cases e)) (fun _ _ e=>by cases e)) (fun _ _ e=>by cases e);have p1:G3[H.length+1]?=some (.cells [.slice (sq (qB (fun _=>.any) sl d.blocks.l)) 2 ((qB (fun _=>.any) sl d.blocks.l).map aw.row)] ag):=d4 _ _ (b4' _ _ (a4 _ _ q1 (fun _ _ e=>by cases e)) (fun _ _ e=>by cases e)) (fun _ _ e=>by cases e)
  have v7:=fun H=>xu M hB hX hC hS (sl:=sl.take kk++(⟨s.block,⟨lV (fF [prt s,prt t]),fF [prt s,prt t]⟩⟩:bk)::sl.drop (kk+2)) (ts:=tg3) (by
   rw [List.length_append,List.length_cons,List.length_take,List.length_drop];omega) (fun x hx=>by
   rcases List.mem_append.1 hx with hx | hx
   ·have:=hsm x (List.mem_of_mem_take hx);omega
   ·rcases List.mem_cons.1 hx with rfl | hx
    ·show (fF [prt s,prt t]).length+gR (fF [prt s,prt t])≤2600;omega
    ·have:=hsm x (List.mem_of_mem_drop hx);omega) hd.1 hd.2 (fun h b hb=>by have:=hv h b hb;omega) H
  have v8:=same _ f2;unfold PI at v7;rw [f1,← ht3] at v7;generalize qB (fun _=>.any) (sl.take kk++(⟨s.block,⟨lV (fF [prt s,prt t]),fF [prt s,prt t]⟩⟩:bk)::sl.drop (kk+2)) d.blocks.l=R2 at v7 v8
  have st9:stO 1 G3 (H.length+1) 0 [.slice (sq R2) 2 (R2.map aw.row)] (some (.cells [.slice (sq (qB (fun _=>.any) sl d.blocks.l)) 2 ((qB (fun _=>.any) sl d.blocks.l).map aw.row)] ag))=some (G3.set (H.length+1) (.cells [.slice (sq R2) 2 (R2.map aw.row)] ag)):=by
   rw [stO_cells (sz:=1) rfl (by simp) (by cases R2<;>rfl)];rfl
  have p0':(G3.set (H.length+1) (.cells [.slice (sq R2) 2 (R2.map aw.row)] ag))[H.length]?=some (.cells d.row ag):=by rw [List.getElem?_set_ne (by omega)];exact p0
  have p1':(G3.set (H.length+1) (.cells [.slice (sq R2) 2 (R2.map aw.row)] ag))[H.length+1]?=some (.cells [.slice (sq R2) 2 (R2.map aw.row)] ag):=List.getElem?_set_self (bZ p1)
  obtain ⟨hct,htk⟩:=qc (H0:=H) (G:=G3.set (H.length+1) (.cells [.slice (sq R2) 2 (R2.map aw.row)] ag)) (by simp;omega) (fun m hm=>by
   rw [List.getElem?_set_ne (by omega),d5 m hm,b5' m hm,a5 m hm,hG0,List.getElem?_append_left hm])
  have hrow:bk.row ⟨s.block,⟨lV (fF [prt s,prt t]),fF [prt s,prt t]⟩⟩=[.int .i64 s.block,.slice (lV (fF [prt s,prt t])) 3 ((fF [prt s,prt t]).map ae.row)]:=rfl;simp only [List.map_cons,List.map_nil,hrow] at b1';have sl0:bh none (bk.row s) 0=some (.int .i64 s.block):=rfl;have hpr:∀ s:bk,fq (prt s)=[.slice s.pieces.tag.strip 3 (s.pieces.l.map ae.row)]:=fun _=>rfl
  simp only [List.map_cons,List.map_nil,hpr] at hg2;simp only [hG0] at a1;simp (maxSteps:=3000000) (maxDischargeDepth:=6) +contextual -implicitDefEqProofs only [amC M,↓amD,Nat.reduceBEq,Nat.reduceAdd,env,aj,aO,amG,AV.cell,Nat.reduceMul,Nat.reduceLeDiff,g0,g1,st1,kp,s1,s2,c1,c2,v1,v4,v6,hL,cX,List.getElem?_cons_zero,List.getElem?_cons_succ,z0,l1,l2',List.length_map,hd2,Bool.not_true,Bool.not_false,x1,r1,r2,x2,x3,x4,x5,hx0,hx1,ir0,ir1,oV,hbk,eS,pst,hg2,sa,sb,a1,b1',d1,v7,v8,p0,p1,st9,p0',p1',hct,htk]
  done
 ·have herr:∃ e:Int,(e == 0)=false∧No rs.l d.blocks.l = .tuple [.slice .any 2 [],.int .u8 e]:=by
   unfold No;cases h0:gZ d.blocks.l == 0 with
   |false=>exact ⟨_,h0,by rw [sel_false]⟩
   |true=>
   cases h1:nK rs.l == 0 with
   |false=>exact ⟨_,h1,by rw [sel_true,sel_false]⟩
   |true=>
   cases h2:ur rs.l d.blocks.l with
   |true=>exact ⟨3,rfl,by rw [sel_true,sel_true,sel_true]⟩
   |false=>exact absurd ⟨h0,h1,h2⟩ hgood
  obtain ⟨e,e1,e2⟩:=herr;rw [e2] at v1;simp (maxSteps:=3000000) (maxDischargeDepth:=6) +contextual -implicitDefEqProofs only [amC M,↓amD,Nat.reduceBEq,Nat.reduceAdd,env,aj,aO,amG,AV.cell,Nat.reduceMul,Nat.reduceLeDiff,g0,kp,s1,s2,c1,c2,v1,hL,cX,List.getElem?_cons_zero,List.getElem?_cons_succ,e1,List.length_nil,Bool.not_false,(show (((0:Nat):Int) == 0)=true from rfl),hp_take,cut_app]
end
section
open Go.ChangeShapes Go.WideShapes
structure qg (P:Program):Prop where
 u_api_PieceKind:P.underlying nz=some (.int .u8)
 c_api_PieceKind:P.cellsOf nz=1
 u_string:P.underlying aP=some .string
 c_string:P.cellsOf aP=1
 u_bool:P.underlying Bd=some .bool
 c_bool:P.cellsOf Bd=1
 f_Piece:fieldsOf P ah=some [(0,nz),(1,aP),(2,Bd)]
 c_Piece:P.cellsOf ah=3
 u_sl_Piece:P.underlying al=some (.slice ah)
 c_sl_Piece:P.cellsOf al=1
 y_Piece:Nat.blt 0 (P.bytesOf ah)=true
 u_api_BlockKind:P.underlying ny=some (.int .u8)
 c_api_BlockKind:P.cellsOf ny=1
 f_Block:fieldsOf P aU=some [(0,ny),(1,al)]
 c_Block:P.cellsOf aU=2
 u_sl_Block:P.underlying lF=some (.slice aU)
 c_sl_Block:P.cellsOf lF=1
 y_Block:Nat.blt 0 (P.bytesOf aU)=true
 f_Docu:fieldsOf P ag=some [(0,lF)]
 c_Docu:P.cellsOf ag=1
 f_Brk:fieldsOf P gv=some [(0,aP),(1,aP),(2,Bd)]
 c_Brk:P.cellsOf gv=3
 u_int:P.underlying mh=some (.int .i64)
 c_int:P.cellsOf mh=1
 f_Segm:fieldsOf P aN=some [(0,mh),(1,al)]
 c_Segm:P.cellsOf aN=2
 u_sl_Brk:P.underlying jz=some (.slice gv)
 c_sl_Brk:P.cellsOf jz=1
 y_Brk:Nat.blt 0 (P.bytesOf gv)=true
 u_sl_Segm:P.underlying qV=some (.slice aN)
 c_sl_Segm:P.cellsOf qV=1
 y_Segm:Nat.blt 0 (P.bytesOf aN)=true
section
variable{P:Program}{W:World}{G:Nat→Option (List AV)}
theorem I1(h:qg P):jZ P W G ah ae.row (ae.ok 0):=
 nY h.f_Piece h.c_Piece (gn (Jm h.u_api_PieceKind) h.c_api_PieceKind (gn (xP h.u_string) h.c_string (gn (A7 h.u_bool) h.c_bool (rL _)))) (fun a=>⟨a.1,a.2.1,a.2.2.1⟩) (fun a=>rfl) (fun a ha=>⟨ha.2.1⟩)
theorem NU(h:qg P):jZ P W G gv Brk.row (Brk.ok 0):=
 nY h.f_Brk h.c_Brk (gn (xP h.u_string) h.c_string (gn (xP h.u_string) h.c_string (gn (A7 h.u_bool) h.c_bool (rL _)))) (fun a=>⟨a.1,a.2.1,a.2.2.1⟩) (fun a=>rfl) (fun a ha=>⟨ha.1,ha.2.1⟩)
theorem HE(h:qg P):jZ P W G jz (fun s:Sl Brk=>[.slice s.tag 3 (s.l.map Brk.row)]) (fun s=>s.ok 0 (Brk.ok 0)):=
 yM h.u_sl_Brk h.c_Brk (by decide) (EE h.y_Brk) (fun _=>by simp only [Q7]) (NU h)
end
end
section
open Go.ChangeShapes Go.WideShapes
section
variable{P:Program}{W:World}{G:Nat→Option (List AV)}
theorem NV{t e:TypeId}{α:Type}{row:α→List AV}{ok:α→Prop}{sz:Nat}(ht:P.underlying t=some (.slice e))(hsz:P.cellsOf e=sz)(hpos:0<sz)(hby:0<P.bytesOf e)(hrow:∀ a,(row a).length=sz)(he:jZ P W G e row ok) :
  jZ P W G t (fun s:Sl α=>[.slice s.tag sz (s.l.map row)]) (fun s=>s.ok 0 ok∧s.kn):=wR ht hsz hpos hby hrow he
theorem Co(h:qg P):jZ P W G al (fun s:Sl ae=>[.slice s.tag 3 (s.l.map ae.row)]) (fun s=>s.ok 0 (ae.ok 0)∧s.kn):=NV h.u_sl_Piece h.c_Piece (by decide) (EE h.y_Piece) (fun _=>rfl) (I1 h)
theorem HF(h:qg P):jZ P W G aU aw.row (fun a=>aw.ok 0 a∧a.pieces.kn):=
 nY h.f_Block h.c_Block (gn (Jm h.u_api_BlockKind) h.c_api_BlockKind (gn (Co h) h.c_sl_Piece (rL _))) (fun a=>⟨a.1,a.2.1⟩) (fun a=>rfl) (fun a ha=>⟨⟨ha.2.1.1⟩,ha.2.1.2⟩)
theorem Cp(h:qg P):jZ P W G lF (fun s:Sl aw=>[.slice s.tag 2 (s.l.map aw.row)]) (fun s=>s.ok 0 (aw.ok 0)∧∀ b∈s.l,b.pieces.kn):=
 A9 (yM h.u_sl_Block h.c_Block (by decide) (EE h.y_Block) (fun _=>rfl) (HF h)) fun s hs=>⟨⟨hs.tag,hs.len,fun x hx=>(hs.all x hx).1⟩,fun x hx=>(hs.all x hx).2⟩
theorem I2(h:qg P):jZ P W G ag Docu.row (fun a=>Docu.ok 0 a∧Docu.kt a):=
 nY h.f_Docu h.c_Docu (gn (Cp h) h.c_sl_Block (rL _)) (fun a=>⟨a.1⟩) (fun a=>rfl) (fun a ha=>⟨⟨ha.1.1⟩,ha.1.2⟩)
end
end
section
open Go.Shelf Go.RowKit Go.Lib Go.Proofs
def Cq:Go.Shelf.Ren:=⟨fun | 197=>94 | 260=>134 | n=>n,fun | 9=>9 | 21=>21 | 3=>3 | 4=>4 | 5=>5 | 105=>155 | 119=>220 | 0=>0 | 46=>221 | 139=>224 | 138=>223 | n=>n,fun | 3=>0 | 4=>1 | n=>n⟩
theorem NW:Go.Proofs.Lays.n197 Tryz.prog Cq where
 mixed:=by kernel_rfl
 f197:=Tryz.func94.trans (congrArg some (by kernel_rfl))
 f260:=Tryz.func134.trans (congrArg some (by kernel_rfl))
 t0:=Tryz.underlying0
 a0:=Tryz.isAgg0
 z0:=Tryz.sizeOf0
 v0:=Tryz.zeroValue0
 t3:=Tryz.underlying3
 a3:=Tryz.isAgg3
 z3:=Tryz.sizeOf3
 v3:=Tryz.zeroValue3
 t4:=Tryz.underlying4
 a4:=Tryz.isAgg4
 z4:=Tryz.sizeOf4
 v4:=Tryz.zeroValue4
 t5:=Tryz.underlying5
 a5:=Tryz.isAgg5
 z5:=Tryz.sizeOf5
 v5:=Tryz.zeroValue5
 t9:=Tryz.underlying9
 a9:=Tryz.isAgg9
 z9:=Tryz.sizeOf9
 v9:=Tryz.zeroValue9
 t21:=Tryz.underlying21
 a21:=Tryz.isAgg21
 z21:=Tryz.sizeOf21
 v21:=Tryz.zeroValue21
 t46:=Tryz.underlying221
 a46:=Tryz.isAgg221
 z46:=Tryz.sizeOf221
 v46:=Tryz.zeroValue221
 t105:=Tryz.underlying155
 a105:=Tryz.isAgg155
 z105:=Tryz.sizeOf155
 v105:=Tryz.zeroValue155
 t119:=Tryz.underlying220
 a119:=Tryz.isAgg220
 z119:=Tryz.sizeOf220
 t138:=Tryz.underlying223
 a138:=Tryz.isAgg223
 z138:=Tryz.sizeOf223
 v138:=Tryz.zeroValue223
 t139:=Tryz.underlying224
 a139:=Tryz.isAgg224
 z139:=Tryz.sizeOf224
 v139:=Tryz.zeroValue224
 g3:=by kernel_rfl
 g4:=by kernel_rfl
theorem I3:∀ args w,(callFunc 94 args).run Tryz.prog w = .ok (.enter 94 args) w:=enters_of Tryz.func94 (by kernel_rfl) rfl
theorem Ly:∀ (s:ByteArray) (w:World),Lib.Utf8Tabs 0 1 w→Calls Tryz.prog 94 #[.string s] w fun e w'=>e = .returned (.tuple #[.int .i32 (Lib.decodeGo s).1,.int .i64 (Lib.decodeGo s).2])∧Below w.heap.size w w':=fun s w hT=>Any.utf8_DecodeRuneInString NW s w hT
theorem Lz {W:World} (h3:VarReads Tryz.prog W "unicode/utf8.first" firstData) (h4:VarReads Tryz.prog W "unicode/utf8.acceptRanges" acceptData):Lib.Utf8Tabs 0 1 W:=
 utf8Tabs_of_readsT (ρ:=Cq) { NW with } ⟨by kernel_rfl,by kernel_rfl,by kernel_rfl,by kernel_rfl,by kernel_rfl,by kernel_rfl,by kernel_rfl⟩ h3 h4
end
section
open Go.Proofs
def NX:List (Nat×AFn):=[(5,bM),(6,dm),(11,dq),(12,cE),(13,eU),(14,ew),(16,fi),(19,ct),(21,eV),(31,iw),(36,eN),(37,jE)]
theorem RC:m9 (eb Tryz.prog G0) NX:=by repeat' first | (unfold eb;kernel_rfl) | exact trivial | refine ⟨?_, ?_⟩
def NY:List (Nat×AFn):=[(38,bg),(39,cQ),(40,ji),(41,eI),(42,lH),(43,dy),(44,fy),(49,dN),(50,rT),(55,iQ),(60,ot),(61,jV)]
theorem RD:m9 (eb Tryz.prog G0) NY:=by repeat' first | (unfold eb;kernel_rfl) | exact trivial | refine ⟨?_, ?_⟩
def NZ:List (Nat×AFn):=[(62,jW),(69,gA),(71,eC),(72,iy),(73,lI),(74,bT),(75,ou),(79,iR),(80,fc),(81,gN),(82,vD),(83,lJ)]
theorem RE:m9 (eb Tryz.prog G0) NZ:=by repeat' first | (unfold eb;kernel_rfl) | exact trivial | refine ⟨?_, ?_⟩
def N0:List (Nat×AFn):=[(84,jX),(91,cI),(92,pc),(101,tN),(102,iz),(103,jk),(104,jl),(116,aK),(117,du),(118,aR),(121,rY),(122,lM)]
theorem RF:m9 (eb Tryz.prog G0) N0:=by repeat' first | (unfold eb;kernel_rfl) | exact trivial | refine ⟨?_, ?_⟩
def N1:List (Nat×AFn):=[(123,lN),(124,lO),(125,lP),(126,lQ),(127,lR),(128,jY),(129,iS),(133,aT),(149,p8)]
theorem RG:m9 (eb Tryz.prog G0) N1:=by repeat' first | (unfold eb;kernel_rfl) | exact trivial | refine ⟨?_, ?_⟩
def N2:List (Nat×List (Nat×AFn)):=[(37,NX),(61,NY),(83,NZ),(122,N0),(149,N1)]
def Sm(f:FuncId):Option AFn:=Gk N2 f
theorem P3:∀ f af,Sm f=some af→eb Tryz.prog G0 f af:=fun f af h=>A3 (show EC _ N2 from ⟨RC,RD,RE,RF,RG,trivial⟩) h
def RH(f:FuncId)(args:List AV)(H:List AObj):Option Out:=
 match args with
 |[]=>bif Nat.beq f bK then some (.ret (.bool true),H) else none
 |[.str s]=>bif Nat.beq f b7 then some (.ret (.tuple [.int .i32 ((y7 s).1:Nat),.int .i64 ((y7 s).2:Nat)]),H) else none
 |_=>OX f args H
theorem P5{f:FuncId}{args:List AV}{H H':List AObj}{r:oK}(h:RH f args H=some (r,H')):de Tryz.prog G0 f args H fun r2 H2=>r2=r∧H2=H':=by
 unfold RH at h;split at h
 ·cases h1:Nat.beq f bK with
  |true=>rw [h1] at h;cases h;rw [Nat.eq_of_beq_eq_true h1];exact MV H
  |false=>rw [h1] at h;cases h
 ·rename_i s
  cases h1:Nat.beq f b7 with
  |true=>rw [h1] at h;cases h;rw [Nat.eq_of_beq_eq_true h1];exact ON rfl I3 Ly s H
  |false=>rw [h1] at h;cases h
 ·exact Jr h
noncomputable def EN:bb := { P:=Tryz.prog,G:=G0,fn:=Sm,orc:=RH,dfn:=fun _=>none,seq:=OZ,sar:=fun _=>1 }
theorem Sn:EN.Ok:=⟨Js,fun f af h=>P3 f af h,(fun _ _ _ h=>by cases h),(fun _ _ _ _ _ h=>by cases h),fun _ _ _ _ _ h=>P5 h,(fun _ _ _ h=>by cases h),Jt⟩
end
end Go.Am
