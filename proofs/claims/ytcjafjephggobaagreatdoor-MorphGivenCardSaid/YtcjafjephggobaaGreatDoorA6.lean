import Derived.Test.YtcjafjephggobaaGreatDoorA5
import Derived.Lib.Bytealg
/-
  Part 6 of the tool: an abstract machine over the model, proved sound, and what it says of the functions that the law reaches. Condition: none but those that each theorem names.
-/
set_option linter.unusedVariables false
set_option linter.unusedSimpArgs false
set_option maxRecDepth 100000
set_option maxHeartbeats 4000000
namespace Go.Am
open Go.RowKit
section
attribute [local congr] aG ct bm aH a7 aN aI aA aC aO aP
variable{E:bB}(M:cT cU E)
def We(l:Lex):Prop:=∀ c∈l.classes.l,∀ s∈c.slots.l,s.feats.l.length≤8∧zG s.feats.l=true
theorem T6{l:Lex}(h:Gb l=0):We l:=fun c hc s hs=>by
 obtain ⟨k,hk⟩:=List.getElem?_of_mem hc
 have h1:=(jW h).2 k c hk
 unfold Ga at h1
 revert h1
 cases (!KO c.name) with
 |true=>intro h;simp [sel] at h
 |false=>
  cases (List.any _ _) with
  |true=>intro h;simp [sel] at h
  |false=>
   cases (decide ((24:Int)<(c.slots.l.length:Int))) with
   |true=>intro h;simp [sel] at h
   |false=>
    cases ((c.slots.l.length:Int) == 0) with
    |true=>intro h;simp [sel] at h
    |false=>
     intro h1
     obtain ⟨j,hj⟩:=List.getElem?_of_mem hs
     have h2:=(jW h1).2 j s hj
     unfold Ja at h2
     revert h2
     cases (decide (s.cut<0)||decide (24<s.cut) || !qf nY s.pre || !qf nY s.add) with
     |true=>intro h;simp [sel] at h
     |false=>intro h;exact bundle_ok h
end
section
attribute [local congr] aG ct bm aH a7 aN aI aA aC aO aP
variable{E:bB}(M:cT cU E)
def MY(p:UInt8):Str→Bool
 |[]=>true
 |c::t => !decide ((c.toNat:Int)≤(p.toNat:Int))&&MY c t
def WS:Str→Bool
 |[]=>true
 |c::t=>MY c t
theorem SO{α:Type}{b l:List α}{i:Nat}{x:α}(hd:b.drop (i+1)=x::l):b[i+1]?=some x∧b.drop (i+1+1)=l:=by
 constructor
 ·have:=List.getElem?_drop (xs:=b) (i:=i+1) (j:=0)
  rw [hd] at this;simpa using this.symm
 ·have:(b.drop (i+1)).drop 1=l:=by rw [hd];rfl
  rwa [List.drop_drop] at this
theorem Pn(v:Str):∀ (t:Str) (i:Nat) (p:UInt8),v[i]?=some p→v.drop (i+1)=t→Cb (fun i c=>sel (SI v i c) 1 0) (i+1) t=sel (t.all nY&&MY p t) 0 1
 |[],_,_,_,_=>rfl
 |c::t,i,p,h,hd=>by
  obtain ⟨h2,hd2⟩:=SO hd
  rw [Cb,Pn v t (i+1) c h2 hd2,MU h,List.all_cons,MY]
  cases nY c<;>cases decide ((c.toNat:Int)≤(p.toNat:Int))<;>cases t.all nY<;>cases MY c t<;>rfl
theorem VF(l:Lex):T3 l=sel (ofF [] l.vowels) (sel (WS l.vowels) 0 1) 1:=by
 rw [T3,RD]
 cases hv:l.vowels with
 |nil=>rfl
 |cons c t=>
  rw [Cb,Pn (c::t) t 0 c rfl rfl,MT,List.all_cons,WS]
  cases nY c<;>cases t.all nY<;>cases MY c t<;>rfl
theorem T7(s:Str):ofF [43] s=s.all kr:=by
 unfold ofF
 congr 1;funext c
 simp only [List.any_cons,List.any_nil,Bool.or_false,kr]
 congr 1
 rw [Bool.eq_iff_iff];simp;omega
theorem T8(s:Str):ofF [43,35,86,67] s=s.all I9:=by
 unfold ofF
 congr 1;funext c
 simp only [List.any_cons,List.any_nil,Bool.or_false,I9,kr,Bool.or_assoc]
 congr 1
 rw [Bool.eq_iff_iff];simp;omega
theorem Ey(p:UInt8→Bool)(s:Str):qf p s=(!decide ((6:Int)<(s.length:Int))&&s.all p):=by
 unfold qf;congr 1;rw [Bool.eq_iff_iff];simp
theorem T9(x:bA):Ce x=sel (x.frm == []||(!ofF [43] x.frm||(!ofF [43] x.to||(!ofF [43,35,86,67] x.left || !ofF [43,35,86,67] x.right)))) 1
  (sel (decide ((6:Int)<(x.frm.length:Int))||(decide ((6:Int)<(x.to.length:Int))||(decide ((6:Int)<(x.left.length:Int))||decide ((6:Int)<(x.right.length:Int))))) 1 0):=by
 rw [Ce,T7,T7,T8,T8,Ey,Ey,Ey,Ey]
 cases x.frm == []<;>cases x.frm.all kr<;>cases x.to.all kr<;>cases x.left.all I9<;>cases x.right.all I9<;>cases decide ((6:Int)<(x.frm.length:Int))<;>cases decide ((6:Int)<(x.to.length:Int))<;>cases decide ((6:Int)<(x.left.length:Int))<;>cases decide ((6:Int)<(x.right.length:Int))<;>rfl
end
section
attribute [local congr] aG ct bm aH a7 aN aI aA aC aO aP
variable{E:bB}(M:cT cU E)
theorem Xv(e:Int)(i:Nat)(l:List Int):Cb (fun _ e=>e) i (e::l)=sel (!(e == 0)) e (Cb (fun _ e=>e) (i+1) l):=rfl
theorem Xw(i:Nat):Cb (fun _ (e:Int)=>e) i []=0:=rfl
end
section
attribute [local congr] aG ct bm aH a7 aN aI aA aC aO aP
variable{E:bB}(M:cT cU E)
abbrev w64(n:Int):Int:=IntKind.i64.wrap n
theorem Po{H L:List ae}{k k':IntKind}{a b:Int}{T T':TypeId}(L2:List ae):dG (H++(.cells [.int k a] T::L)) (H++(.cells [.int k' b] T'::(L++L2))):=
 ⟨by simp,fun i x hi hx=>by
  rcases Nat.lt_trichotomy i H.length with h | h | h
  ·left;rw [List.getElem?_append_left h] at hx ⊢;exact hx
  ·subst h;rw [dW] at hx;right
   obtain rfl:_=x:=by simpa using hx
   intro c hc
   simp only [List.mem_singleton] at hc
   subst hc;exact wk_int _ _ _
  ·left
   obtain ⟨j,rfl⟩:∃ j,i=H.length+(j+1):=⟨i-H.length-1,by omega⟩
   rw [hp_getk] at hx ⊢
   simp only [List.getElem?_cons_succ] at hx ⊢
   have:j<L.length:=by simp at hi;omega
   rwa [List.getElem?_append_left this] at hx⟩
theorem Iz{H:List ae}{k k':IntKind}{a b:Int}{T T':TypeId}(L2:List ae):dG (H++[.cells [.int k a] T]) (H++(.cells [.int k' b] T'::L2)):=Po (L:=[]) L2
theorem SP{H L:List ae}{k k':IntKind}{a b:Int}{T T':TypeId}:dG (H++(.cells [.int k a] T::L)) (H++(.cells [.int k' b] T'::L)):=by
 have:=Po (H:=H) (L:=L) (k:=k) (k':=k') (a:=a) (b:=b) (T:=T) (T':=T') []
 rwa [List.append_nil] at this
theorem WT(H L:List ae)(y:ae):(H++(y::L)).take (H.length+(L.length+1))=H++(y::L):=List.take_of_length_le (by simp)
theorem QL(H L:List ae)(y:ae):(H++(y::L)).take (H.length+1)=H++[y]:=by
 rw [List.take_append];simp
 exact List.take_of_length_le (by omega)
def Ua(m:Int)(f:aq):Int:=w64 (m+w64 (w64 (1+(f.name.length:Int))+(f.value.length:Int)))
def Lc(m:Int)(b:List aq):Int:=w64 ((b.take 100).foldl Ua m+(b.length:Int))
theorem NY{n m:Nat}(h:m=min 100 n):(decide (m<n)&&decide ((m:Int)<100))=false:=by
 rw [Bool.eq_false_iff];simp;omega
theorem QM{i m n:Nat}(h:m=min 100 n)(hi:i<m):decide ((i:Int)<100)=true:=decide_eq_true (by omega)
theorem gr1{H H0:List ae}{L:List ae}{T:TypeId}{b Lf:List aq}(hM:Lf.length=min 100 b.length)(hL:∀ k,k<Lf.length→b[k]?=Lf[k]?){tg:Tag}(k:List Fra):∀ (n i:Nat) (m:Int) (He:List ae),i+n=Lf.length →
  M.go cM H0 (.c fQ :: .lp ⟨(some [0,1,3]),[],false⟩ fQ He :: .blk 0 :: .c (.lv [0,1])::k) (kv [(0,.slice tg 2 (b.map aq.row)),(1,.ptr H.length 0),(3,.int .i64 i)]) (H++(.cells [.int .i64 m] T::L)) =
   (M.go cM H0 k (kv [(0,.slice tg 2 (b.map aq.row)),(1,.ptr H.length 0)]) (H++(.cells [.int .i64 ((Lf.drop i).foldl Ua m)] T::L)))
 |0,i,m,He,h=>by
  have e:i=Lf.length:=by omega
  subst e
  rw [aw M fQ.eq_1]
  simp (maxSteps:=3000000) (maxDischargeDepth:=6) +contextual -implicitDefEqProofs only [amA M,amB,↓aj,↓ab,↓al,↓ak,Nat.reduceBEq,Nat.reduceAdd,env,ao,lQ,Nat.lt_irrefl,List.drop_length,NY hM,List.foldl_nil]
 |n+1,i,m,He,h=>by
  have hi:i<Lf.length:=by omega
  have hx:Lf[i]?=some Lf[i]:=List.getElem?_eq_getElem hi
  have hd:(Lf.drop i)=Lf[i]::Lf.drop (i+1):=List.drop_eq_getElem_cons hi
  have hm:Lf[i]∈Lf:=List.getElem_mem hi
  have ih:=fun m He=>gr1 (H:=H) (H0:=H0) (L:=L) (T:=T) (b:=b) (Lf:=Lf) (hM:=hM) (hL:=hL) (tg:=tg) k n (i+1) m He (by omega)
  simp only [kv_cons,kv_nil] at ih
  have hib:i<b.length:=by omega
  have hxb:=(hL i hi).trans hx
  rw [aw M fQ.eq_1]
  simp (maxSteps:=3000000) (maxDischargeDepth:=6) +contextual -implicitDefEqProofs only [amA M,amB,↓aj,↓ab,↓al,↓ak,Nat.reduceBEq,Nat.reduceAdd,env,ao,lQ,hx,hd,hi,ih,amG,AV.cell,hib,hxb,QM hM hi,bz hib,yQ,cY (n:=100) (show i<100 by omega) (by simp [bH]),List.foldl_cons,Ua]
theorem Gc(hg:E.fn gF=some cM){b:List aq}{tg:Tag}(H L:List ae)(m:Int)(T:TypeId) :
  M.run gF [.slice tg 2 (b.map aq.row),.ptr H.length 0] (H++(.cells [.int .i64 m] T::L))=some (.ret (.tuple []),H++(.cells [.int .i64 (Lc m b)] T::L)):=by
 rw [aZ M hg rfl (c:=lP) rfl,lP]
 have h1:=fun k He=>gr1 M (H:=H) (H0:=H++(.cells [.int .i64 m] T::L)) (L:=L) (T:=T) (b:=b) (Lf:=b.take 100) (by simp) (Lb b 100) (tg:=tg) k (b.take 100).length 0 m He (by omega)
 simp only [kv_cons,kv_nil,Int.ofNat_zero,List.drop_zero] at h1
 simp (maxSteps:=3000000) (maxDischargeDepth:=6) +contextual -implicitDefEqProofs only [amA M,amB,↓aj,↓ab,↓al,↓ak,Nat.reduceBEq,Nat.reduceAdd,env,ao,lQ,amG,AV.cell,Nat.reduceMul,Nat.reduceLeDiff,h1,SP,WT,wk_tuple,Lc,lr_row1,List.set_cons_zero]
end
section
attribute [local congr] aG ct bm aH a7 aN aI aA aC aO aP
variable{E:bB}(M:cT cU E)
structure Gd (E:bB):Prop where
 truchmanlaw02_Great_1:E.fn gF=some cM
 truchmanlaw02_Great:E.fn iF=some aM
abbrev s7(m:Int):ae:=.cells [.int .i64 m] Aq
abbrev zH(n:Nat):AV:=.fn (.func gF) [] [.ptr n 0]
def WU(m:Int)(s:Str):Int:=w64 (m+w64 (1+(s.length:Int)))
def QN(m:Int)(t:bE):Int:=w64 ((t.values.l.take 100).foldl WU (w64 (m+w64 (1+(t.name.length:Int))))+(t.values.l.length:Int))
theorem gl0{H H0:List ae}{l:Lex}{p:Nat}{T:TypeId}(hp:H[p]?=some (.cells l.row T)){i0:Nat}{t:bE}(ht:l.traits.l[i0]?=some t){Lf:List Str}(hM:Lf.length=min 100 t.values.l.length)(hL:∀ k,k<Lf.length→t.values.l[k]?=Lf[k]?)(k:List Fra):∀ (n i:Nat) (m:Int) (He:List ae),i+n=Lf.length →
  M.go aM H0 (.c gH :: .lp ⟨(some [1,3,4,5,6]),[],false⟩ gH He :: .blk 2 :: .c (.lv [1,3,4,5])::k) (kv [(1,.ptr p 0),(3,.ptr H.length 0),(4,zH H.length),(5,.int .i64 i0),(6,.int .i64 i)]) (H++[s7 m]) =
   (M.go aM H0 k (kv [(1,.ptr p 0),(3,.ptr H.length 0),(4,zH H.length),(5,.int .i64 i0)]) (H++[s7 ((Lf.drop i).foldl WU m)]))
 |0,i,m,He,h=>by
  have e:i=Lf.length:=by omega
  subst e
  rw [aw M gH.eq_1]
  simp (maxSteps:=3000000) (maxDischargeDepth:=6) +contextual -implicitDefEqProofs only [amA M,amB,↓aj,↓ab,↓al,↓ak,Nat.reduceBEq,Nat.reduceAdd,env,ao,bk,Nat.lt_irrefl,List.drop_length,NY hM,List.foldl_nil,dg hp,cj,bz (List.getElem?_eq_some_iff.1 ht).1,ht,uT]
 |n+1,i,m,He,h=>by
  have hi:i<Lf.length:=by omega
  have hx:Lf[i]?=some Lf[i]:=List.getElem?_eq_getElem hi
  have hd:(Lf.drop i)=Lf[i]::Lf.drop (i+1):=List.drop_eq_getElem_cons hi
  have hm:Lf[i]∈Lf:=List.getElem_mem hi
  have ih:=fun m He=>gl0 (H:=H) (H0:=H0) (l:=l) (p:=p) (T:=T) (hp:=hp) (i0:=i0) (t:=t) (ht:=ht) (Lf:=Lf) (hM:=hM) (hL:=hL) k n (i+1) m He (by omega)
  simp only [kv_cons,kv_nil] at ih
  have hib:i<t.values.l.length:=by omega
  have hxb:=(hL i hi).trans hx
  rw [aw M gH.eq_1]
  simp (maxSteps:=3000000) (maxDischargeDepth:=6) +contextual -implicitDefEqProofs only [amA M,amB,↓aj,↓ab,↓al,↓ak,Nat.reduceBEq,Nat.reduceAdd,env,ao,bk,hx,hd,hi,ih,amG,AV.cell,Nat.reduceMul,Nat.reduceLeDiff,dg hp,cj,bz (List.getElem?_eq_some_iff.1 ht).1,ht,uT,OY,hib,hxb,QM hM hi,bz hib,cY (n:=100) (show i<100 by omega) (by simp [bH]),List.foldl_cons,WU]
theorem gl1{H H0:List ae}{l:Lex}{n0:Nat}(hl:l.ok n0){p:Nat}{T:TypeId}(hp:H[p]?=some (.cells l.row T))(k:List Fra):∀ (n i:Nat) (m:Int) (He:List ae),i+n=(l.traits.l).length →
  M.go aM H0 (.c gI :: .lp ⟨(some [1,3,4,5]),[],false⟩ gI He :: .blk 0 :: .c (.lv [1,3,4])::k) (kv [(1,.ptr p 0),(3,.ptr H.length 0),(4,zH H.length),(5,.int .i64 i)]) (H++[s7 m]) =
   (M.go aM H0 k (kv [(1,.ptr p 0),(3,.ptr H.length 0),(4,zH H.length)]) (H++[s7 ((l.traits.l.drop i).foldl QN m)]))
 |0,i,m,He,h=>by
  have e:i=(l.traits.l).length:=by omega
  subst e
  rw [aw M gI.eq_1]
  simp (maxSteps:=3000000) (maxDischargeDepth:=6) +contextual -implicitDefEqProofs only [amA M,amB,↓aj,↓ab,↓al,↓ak,Nat.reduceBEq,Nat.reduceAdd,env,ao,bk,Nat.lt_irrefl,List.drop_length,List.foldl_nil,dg hp,cj]
 |n+1,i,m,He,h=>by
  have hi:i<(l.traits.l).length:=by omega
  have hx:(l.traits.l)[i]?=some (l.traits.l)[i]:=List.getElem?_eq_getElem hi
  have hd:((l.traits.l).drop i)=(l.traits.l)[i]::(l.traits.l).drop (i+1):=List.drop_eq_getElem_cons hi
  have hm:(l.traits.l)[i]∈(l.traits.l):=List.getElem_mem hi
  have ih:=fun m He=>gl1 (H:=H) (H0:=H0) (l:=l) (n0:=n0) (hl:=hl) (p:=p) (T:=T) (hp:=hp) k n (i+1) m He (by omega)
  simp only [kv_cons,kv_nil] at ih
  have h0:=fun m k He=>gl0 M (H0:=H0) hp (i0:=i) hx (Lf:=l.traits.l[i].values.l.take 100) (by simp) (Lb _ 100) k (l.traits.l[i].values.l.take 100).length 0 m He (by omega)
  simp only [kv_cons,kv_nil,Int.ofNat_zero,List.drop_zero] at h0
  rw [aw M gI.eq_1]
  simp (maxSteps:=3000000) (maxDischargeDepth:=6) +contextual -implicitDefEqProofs only [amA M,amB,↓aj,↓ab,↓al,↓ak,Nat.reduceBEq,Nat.reduceAdd,env,ao,bk,hx,hd,hi,ih,amG,AV.cell,Nat.reduceMul,Nat.reduceLeDiff,dg hp,cj,bz hi,uT,h0,cY hi hl.traits.len,List.foldl_cons,QN]
def Ub(m:Int)(s:br):Int:=Lc (w64 (m+w64 (w64 (1+(s.pre.length:Int))+(s.add.length:Int)))) s.feats.l
def Uc(c:a6):Bool:=decide ((12:Int)<(c.slots.l.length:Int))&&decide ((c.slots.l.length:Int)≤24)||decide ((60:Int)<(c.slots.l.length:Int))
def QO(m:Int)(c:a6):Int:=c.slots.l.foldl Ub (w64 (m+w64 (1+(c.name.length:Int))))
theorem gl2{H H0:List ae}(hg:Gd E){l:Lex}{n0:Nat}(hl:l.ok n0){p:Nat}{T:TypeId}(hp:H[p]?=some (.cells l.row T)){i0:Nat}{c:a6}(hci:l.classes.l[i0]?=some c)(k:List Fra):∀ (n i:Nat) (m:Int),i+n=(c.slots.l).length →
  M.go aM H0 (.c gJ :: .lp ⟨(some [1,3,4,7,8]),[],true⟩ gJ (H++[s7 m]) :: .blk 6 :: .c (.lv [1,3,4,7])::k) (kv [(1,.ptr p 0),(3,.ptr H.length 0),(4,zH H.length),(7,.int .i64 i0),(8,.int .i64 i)]) (H++[s7 m]) =
   (M.go aM H0 k (kv [(1,.ptr p 0),(3,.ptr H.length 0),(4,zH H.length),(7,.int .i64 i0)]) (H++[s7 ((c.slots.l.drop i).foldl Ub m)]))
 |0,i,m,h=>by
  have e:i=(c.slots.l).length:=by omega
  subst e
  rw [aw M gJ.eq_1]
  simp (maxSteps:=3000000) (maxDischargeDepth:=6) +contextual -implicitDefEqProofs only [amA M,amB,↓aj,↓ab,↓al,↓ak,Nat.reduceBEq,Nat.reduceAdd,env,ao,bk,Nat.lt_irrefl,List.drop_length,List.foldl_nil,dg hp,cj,bz (List.getElem?_eq_some_iff.1 hci).1,hci,ku]
 |n+1,i,m,h=>by
  have hi:i<(c.slots.l).length:=by omega
  have hx:(c.slots.l)[i]?=some (c.slots.l)[i]:=List.getElem?_eq_getElem hi
  have hd:((c.slots.l).drop i)=(c.slots.l)[i]::(c.slots.l).drop (i+1):=List.drop_eq_getElem_cons hi
  have hm:(c.slots.l)[i]∈(c.slots.l):=List.getElem_mem hi
  have ih:=fun m=>gl2 (H:=H) (H0:=H0) (hg:=hg) (l:=l) (n0:=n0) (hl:=hl) (p:=p) (T:=T) (hp:=hp) (i0:=i0) (c:=c) (hci:=hci) k n (i+1) m (by omega)
  simp only [kv_cons,kv_nil] at ih
  have hco:=hl.classes.all c (List.mem_of_getElem? hci)
  have hpl:=(List.getElem?_eq_some_iff.1 hp).1
  have w1:Wk (H.length+1) (.ptr p 0) (.ptr p 0):=wk_ptr (by omega)
  have w2:Wk (H.length+1) (.ptr H.length 0) (.ptr H.length 0):=wk_ptr (by omega)
  have w3:Wk (H.length+1) (zH H.length) (zH H.length):=wk_fn trivial ⟨wk_ptr (by omega),trivial⟩
  rw [aw M gJ.eq_1]
  simp (maxSteps:=3000000) (maxDischargeDepth:=6) +contextual -implicitDefEqProofs only [amA M,amB,↓aj,↓ab,↓al,↓ak,Nat.reduceBEq,Nat.reduceAdd,env,ao,bk,hx,hd,hi,ih,amG,AV.cell,Nat.reduceMul,Nat.reduceLeDiff,dg hp,w1,w2,w3,Iz,QL,cj,bz (List.getElem?_eq_some_iff.1 hci).1,hci,ku,bz hi,iS,Gc M hg.truchmanlaw02_Great_1,cY hi hco.slots.len,List.foldl_cons,Ub]
theorem gl3{H H0:List ae}(hg:Gd E){l:Lex}{n0:Nat}(hl:l.ok n0){p:Nat}{T:TypeId}(hp:H[p]?=some (.cells l.row T))(hc:dG H0 H)(k:List Fra):∀ (n i:Nat) (m:Int),i+n=(l.classes.l).length →
  M.go aM H0 (.c gK :: .lp ⟨(some [1,3,4,7]),[],true⟩ gK (H++[s7 m]) :: .blk 4 :: .c (.lv [1,3,4])::k) (kv [(1,.ptr p 0),(3,.ptr H.length 0),(4,zH H.length),(7,.int .i64 i)]) (H++[s7 m]) =
   sel ((l.classes.l.drop i).any Uc) (some (.ret (.bool true),H.take H0.length)) (M.go aM H0 k (kv [(1,.ptr p 0),(3,.ptr H.length 0),(4,zH H.length)]) (H++[s7 ((l.classes.l.drop i).foldl QO m)]))
 |0,i,m,h=>by
  have e:i=(l.classes.l).length:=by omega
  subst e
  rw [aw M gK.eq_1]
  simp (maxSteps:=3000000) (maxDischargeDepth:=6) +contextual -implicitDefEqProofs only [amA M,amB,↓aj,↓ab,↓al,↓ak,Nat.reduceBEq,Nat.reduceAdd,env,ao,bk,Nat.lt_irrefl,List.drop_length,List.foldl_nil,List.any_nil,dg hp,cj]
 |n+1,i,m,h=>by
  have hi:i<(l.classes.l).length:=by omega
  have hx:(l.classes.l)[i]?=some (l.classes.l)[i]:=List.getElem?_eq_getElem hi
  have hd:((l.classes.l).drop i)=(l.classes.l)[i]::(l.classes.l).drop (i+1):=List.drop_eq_getElem_cons hi
  have hm:(l.classes.l)[i]∈(l.classes.l):=List.getElem_mem hi
  have ih:=fun m=>gl3 (H:=H) (H0:=H0) (hg:=hg) (l:=l) (n0:=n0) (hl:=hl) (p:=p) (T:=T) (hp:=hp) hc k n (i+1) m (by omega)
  simp only [kv_cons,kv_nil] at ih
  have hco:=hl.classes.all _ hm
  have hpl:=(List.getElem?_eq_some_iff.1 hp).1
  have w1:Wk (H.length+1) (.ptr p 0) (.ptr p 0):=wk_ptr (by omega)
  have w2:Wk (H.length+1) (.ptr H.length 0) (.ptr H.length 0):=wk_ptr (by omega)
  have w3:Wk (H.length+1) (zH H.length) (zH H.length):=wk_fn trivial ⟨wk_ptr (by omega),trivial⟩
  have h0:=fun m k=>gl2 M (H0:=H0) hg hl hp (i0:=i) hx k l.classes.l[i].slots.l.length 0 m (by omega)
  simp only [kv_cons,kv_nil,Int.ofNat_zero,List.drop_zero] at h0
  rw [aw M gK.eq_1]
  simp (maxSteps:=3000000) (maxDischargeDepth:=6) +contextual -implicitDefEqProofs only [amA M,amB,↓aj,↓ab,↓al,↓ak,Nat.reduceBEq,Nat.reduceAdd,env,ao,bk,hx,hd,hi,ih,amG,AV.cell,Nat.reduceMul,Nat.reduceLeDiff,dg hp,w1,w2,w3,Iz,QL,cj,bz hi,ku,h0,cY hi hl.classes.len,List.foldl_cons,List.any_cons,QO,Uc,hc]
  generalize (decide ((12:Int)<(l.classes.l[i].slots.l.length:Int))&&decide ((l.classes.l[i].slots.l.length:Int)≤24)||decide ((60:Int)<(l.classes.l[i].slots.l.length:Int)))=b
  cases b<;>simp only [slc,Bool.true_or,Bool.false_or]
end
section
attribute [local congr] aG ct bm aH a7 aN aI aA aC aO aP
variable{E:bB}(M:cT cU E)
def irN(m:Int)(f:bV):Int:=w64 (m+(f.word.length:Int))
def QP(m:Int)(x:aF):Int:=(x.forms.l.take 100).foldl irN (Lc (w64 (m+w64 (w64 (w64 (1+(x.lem.length:Int))+(x.cls.length:Int))+(x.forms.l.length:Int)))) x.feats.l)
theorem gl4{H H0:List ae}{x:aF}{T2:TypeId}{p i0:Nat}{Lf:List bV}(hM:Lf.length=min 100 x.forms.l.length)(hL:∀ k,k<Lf.length→x.forms.l[k]?=Lf[k]?)(k:List Fra):∀ (n i:Nat) (m:Int) (He:List ae),i+n=Lf.length →
  M.go aM H0 (.c gL :: .lp ⟨(some [1,3,4,10,11,12]),[],false⟩ gL He :: .blk 10 :: .c (.lv [1,3,4,10])::k) (kv [(1,.ptr p 0),(3,.ptr H.length 0),(4,zH H.length),(10,.int .i64 i0),(11,.ptr (H.length+1) 0),(12,.int .i64 i)]) (H++[s7 m,.cells x.row T2]) =
   (M.go aM H0 k (kv [(1,.ptr p 0),(3,.ptr H.length 0),(4,zH H.length),(10,.int .i64 i0)]) (H++[s7 ((Lf.drop i).foldl irN m),.cells x.row T2]))
 |0,i,m,He,h=>by
  have e:i=Lf.length:=by omega
  subst e
  rw [aw M gL.eq_1]
  simp (maxSteps:=3000000) (maxDischargeDepth:=6) +contextual -implicitDefEqProofs only [amA M,amB,↓aj,↓ab,↓al,↓ak,Nat.reduceBEq,Nat.reduceAdd,env,ao,bk,Nat.lt_irrefl,List.drop_length,NY hM,List.foldl_nil,eU]
 |n+1,i,m,He,h=>by
  have hi:i<Lf.length:=by omega
  have hx:Lf[i]?=some Lf[i]:=List.getElem?_eq_getElem hi
  have hd:(Lf.drop i)=Lf[i]::Lf.drop (i+1):=List.drop_eq_getElem_cons hi
  have hm:Lf[i]∈Lf:=List.getElem_mem hi
  have ih:=fun m He=>gl4 (H:=H) (H0:=H0) (x:=x) (T2:=T2) (p:=p) (i0:=i0) (Lf:=Lf) (hM:=hM) (hL:=hL) k n (i+1) m He (by omega)
  simp only [kv_cons,kv_nil] at ih
  have hib:i<x.forms.l.length:=by omega
  have hxb:=(hL i hi).trans hx
  rw [aw M gL.eq_1]
  simp (maxSteps:=3000000) (maxDischargeDepth:=6) +contextual -implicitDefEqProofs only [amA M,amB,↓aj,↓ab,↓al,↓ak,Nat.reduceBEq,Nat.reduceAdd,env,ao,bk,hx,hd,hi,ih,amG,AV.cell,Nat.reduceMul,Nat.reduceLeDiff,eU,H9,hib,hxb,QM hM hi,bz hib,cY (n:=100) (show i<100 by omega) (by simp [bH]),List.foldl_cons,irN]
theorem gl5{H H0:List ae}(hg:Gd E){l:Lex}{n0:Nat}(hl:l.ok n0){p:Nat}{T:TypeId}(hp:H[p]?=some (.cells l.row T))(k:List Fra):∀ (n i:Nat) (m:Int),i+n=(l.entries.l).length →
  M.go aM H0 (.c gM :: .lp ⟨(some [1,3,4,10]),[],true⟩ gM (H++[s7 m]) :: .blk 8 :: .c (.lv [1,3,4])::k) (kv [(1,.ptr p 0),(3,.ptr H.length 0),(4,zH H.length),(10,.int .i64 i)]) (H++[s7 m]) =
   (M.go aM H0 k (kv [(1,.ptr p 0),(3,.ptr H.length 0),(4,zH H.length)]) (H++[s7 ((l.entries.l.drop i).foldl QP m)]))
 |0,i,m,h=>by
  have e:i=(l.entries.l).length:=by omega
  subst e
  rw [aw M gM.eq_1]
  simp (maxSteps:=3000000) (maxDischargeDepth:=6) +contextual -implicitDefEqProofs only [amA M,amB,↓aj,↓ab,↓al,↓ak,Nat.reduceBEq,Nat.reduceAdd,env,ao,bk,Nat.lt_irrefl,List.drop_length,List.foldl_nil,dg hp,cj]
 |n+1,i,m,h=>by
  have hi:i<(l.entries.l).length:=by omega
  have hx:(l.entries.l)[i]?=some (l.entries.l)[i]:=List.getElem?_eq_getElem hi
  have hd:((l.entries.l).drop i)=(l.entries.l)[i]::(l.entries.l).drop (i+1):=List.drop_eq_getElem_cons hi
  have hm:(l.entries.l)[i]∈(l.entries.l):=List.getElem_mem hi
  have ih:=fun m=>gl5 (H:=H) (H0:=H0) (hg:=hg) (l:=l) (n0:=n0) (hl:=hl) (p:=p) (T:=T) (hp:=hp) k n (i+1) m (by omega)
  simp only [kv_cons,kv_nil] at ih
  have hpl:=(List.getElem?_eq_some_iff.1 hp).1
  have w1:Wk (H.length+1) (.ptr p 0) (.ptr p 0):=wk_ptr (by omega)
  have w2:Wk (H.length+1) (.ptr H.length 0) (.ptr H.length 0):=wk_ptr (by omega)
  have w3:Wk (H.length+1) (zH H.length) (zH H.length):=wk_fn trivial ⟨wk_ptr (by omega),trivial⟩
  have h0:=fun m k He=>gl4 M (H:=H) (H0:=H0) (x:=l.entries.l[i]) (T2:=dI) (p:=p) (i0:=i) (Lf:=l.entries.l[i].forms.l.take 100) (by simp) (Lb _ 100) k (l.entries.l[i].forms.l.take 100).length 0 m He (by omega)
  simp only [kv_cons,kv_nil,Int.ofNat_zero,List.drop_zero] at h0
  rw [aw M gM.eq_1]
  simp (maxSteps:=3000000) (maxDischargeDepth:=6) +contextual -implicitDefEqProofs only [amA M,amB,↓aj,↓ab,↓al,↓ak,Nat.reduceBEq,Nat.reduceAdd,env,ao,bk,hx,hd,hi,ih,amG,AV.cell,Nat.reduceMul,Nat.reduceLeDiff,dg hp,w1,w2,w3,Iz,QL,cj,bz hi,eU,h0,Gc M hg.truchmanlaw02_Great_1,cY hi hl.entries.len,List.foldl_cons,QP]
def QQ(m:Int)(x:bA):Int:=w64 (m+w64 (w64 (w64 ((x.frm.length:Int)+(x.to.length:Int))+(x.left.length:Int))+(x.right.length:Int)))
def Ud(m:Int)(x:dK):Int:=Lc (w64 (m+w64 ((x.cls.length:Int)+(x.glue.length:Int)))) x.feats.l
theorem gl6{H H0:List ae}{l:Lex}{n0:Nat}(hl:l.ok n0){p:Nat}{T:TypeId}(hp:H[p]?=some (.cells l.row T))(k:List Fra):∀ (n i:Nat) (m:Int) (He:List ae),i+n=(l.spells.l).length →
  M.go aM H0 (.c gN :: .lp ⟨(some [1,3,4,13]),[],false⟩ gN He :: .blk 12 :: .c (.lv [1,3,4])::k) (kv [(1,.ptr p 0),(3,.ptr H.length 0),(4,zH H.length),(13,.int .i64 i)]) (H++[s7 m]) =
   (M.go aM H0 k (kv [(1,.ptr p 0),(3,.ptr H.length 0),(4,zH H.length)]) (H++[s7 ((l.spells.l.drop i).foldl QQ m)]))
 |0,i,m,He,h=>by
  have e:i=(l.spells.l).length:=by omega
  subst e
  rw [aw M gN.eq_1]
  simp (maxSteps:=3000000) (maxDischargeDepth:=6) +contextual -implicitDefEqProofs only [amA M,amB,↓aj,↓ab,↓al,↓ak,Nat.reduceBEq,Nat.reduceAdd,env,ao,bk,Nat.lt_irrefl,List.drop_length,List.foldl_nil,dg hp,cj]
 |n+1,i,m,He,h=>by
  have hi:i<(l.spells.l).length:=by omega
  have hx:(l.spells.l)[i]?=some (l.spells.l)[i]:=List.getElem?_eq_getElem hi
  have hd:((l.spells.l).drop i)=(l.spells.l)[i]::(l.spells.l).drop (i+1):=List.drop_eq_getElem_cons hi
  have hm:(l.spells.l)[i]∈(l.spells.l):=List.getElem_mem hi
  have ih:=fun m He=>gl6 (H:=H) (H0:=H0) (l:=l) (n0:=n0) (hl:=hl) (p:=p) (T:=T) (hp:=hp) k n (i+1) m He (by omega)
  simp only [kv_cons,kv_nil] at ih
  rw [aw M gN.eq_1]
  simp (maxSteps:=3000000) (maxDischargeDepth:=6) +contextual -implicitDefEqProofs only [amA M,amB,↓aj,↓ab,↓al,↓ak,Nat.reduceBEq,Nat.reduceAdd,env,ao,bk,hx,hd,hi,ih,amG,AV.cell,Nat.reduceMul,Nat.reduceLeDiff,dg hp,cj,bz hi,yZ,cY hi hl.spells.len,List.foldl_cons,QQ]
theorem gl7{H H0:List ae}(hg:Gd E){l:Lex}{n0:Nat}(hl:l.ok n0){p:Nat}{T:TypeId}(hp:H[p]?=some (.cells l.row T))(k:List Fra):∀ (n i:Nat) (m:Int) (He:List ae),i+n=(l.links.l).length →
  M.go aM H0 (.c gO :: .lp ⟨(some [1,3,4,14]),[],false⟩ gO He :: .blk 14 :: .c (.lv [3])::k) (kv [(1,.ptr p 0),(3,.ptr H.length 0),(4,zH H.length),(14,.int .i64 i)]) (H++[s7 m]) =
   (M.go aM H0 k (kv [(3,.ptr H.length 0)]) (H++[s7 ((l.links.l.drop i).foldl Ud m)]))
 |0,i,m,He,h=>by
  have e:i=(l.links.l).length:=by omega
  subst e
  rw [aw M gO.eq_1]
  simp (maxSteps:=3000000) (maxDischargeDepth:=6) +contextual -implicitDefEqProofs only [amA M,amB,↓aj,↓ab,↓al,↓ak,Nat.reduceBEq,Nat.reduceAdd,env,ao,bk,Nat.lt_irrefl,List.drop_length,List.foldl_nil,dg hp,cj]
 |n+1,i,m,He,h=>by
  have hi:i<(l.links.l).length:=by omega
  have hx:(l.links.l)[i]?=some (l.links.l)[i]:=List.getElem?_eq_getElem hi
  have hd:((l.links.l).drop i)=(l.links.l)[i]::(l.links.l).drop (i+1):=List.drop_eq_getElem_cons hi
  have hm:(l.links.l)[i]∈(l.links.l):=List.getElem_mem hi
  have ih:=fun m He=>gl7 (H:=H) (H0:=H0) (hg:=hg) (l:=l) (n0:=n0) (hl:=hl) (p:=p) (T:=T) (hp:=hp) k n (i+1) m He (by omega)
  simp only [kv_cons,kv_nil] at ih
  rw [aw M gO.eq_1]
  simp (maxSteps:=3000000) (maxDischargeDepth:=6) +contextual -implicitDefEqProofs only [amA M,amB,↓aj,↓ab,↓al,↓ak,Nat.reduceBEq,Nat.reduceAdd,env,ao,bk,hx,hd,hi,ih,amG,AV.cell,Nat.reduceMul,Nat.reduceLeDiff,dg hp,cj,bz hi,FA,Gc M hg.truchmanlaw02_Great_1,cY hi hl.links.len,List.foldl_cons,Ud]
def Ue(l:Lex):Bool:=
 decide ((60:Int)<(l.entries.l.length:Int))&&decide ((l.entries.l.length:Int)≤128)||decide ((200:Int)<(l.entries.l.length:Int))||decide ((40:Int)<(l.traits.l.length:Int))||decide ((40:Int)<(l.classes.l.length:Int))||decide ((40:Int)<(l.spells.l.length:Int))||decide ((40:Int)<(l.links.l.length:Int)) ||
  (l.classes.l.any Uc||decide (6000<l.links.l.foldl Ud (l.spells.l.foldl QQ (l.entries.l.foldl QP (l.classes.l.foldl QO (l.traits.l.foldl QN (l.vowels.length:Int)))))))
theorem tV(hg:Gd E){l:Lex}{n:Nat}(hl:l.ok n)(H:List ae):M.run iF [.agg l.row] H=some (.ret (.bool (Ue l)),H):=by
 rw [aZ M hg.truchmanlaw02_Great rfl (c:=ov) rfl,ov]
 have hp:(H++[ae.cells l.row az])[H.length]?=some (.cells l.row az):=by rw [dW];rfl
 have h1:=fun m k He=>gl1 M (H0:=H) hl hp k l.traits.l.length 0 m He (by omega)
 have h3:=fun m k=>gl3 M (H0:=H) hg hl hp (cut_app H _) k l.classes.l.length 0 m (by omega)
 have h5:=fun m k=>gl5 M (H0:=H) hg hl hp k l.entries.l.length 0 m (by omega)
 have h6:=fun m k He=>gl6 M (H0:=H) hl hp k l.spells.l.length 0 m He (by omega)
 have h7:=fun m k He=>gl7 M (H0:=H) hg hl hp k l.links.l.length 0 m He (by omega)
 simp only [kv_cons,kv_nil,Int.ofNat_zero,List.drop_zero,lo_app3,NS,lo_app0,lo_len,lo_len1,lo_len0,Nat.zero_add,hp_take] at h1 h3 h5 h6 h7
 simp (maxSteps:=3000000) (maxDischargeDepth:=6) +contextual -implicitDefEqProofs only [amA M,amB,↓aj,↓ab,↓al,↓ak,Nat.reduceBEq,Nat.reduceAdd,env,ao,bk,amG,AV.cell,Nat.reduceMul,Nat.reduceLeDiff,h1,h3,h5,h6,h7,cj,Ue,Bool.or_assoc]
end
section
attribute [local congr] aG ct bm aH a7 aN aI aA aC aO aP
variable{E:bB}(M:cT cU E)
structure oZ (M:cT cU E):Prop where
 index:∀ (s:Str) (c:UInt8) (H:List ae),M.run dn [.str s,.int .u8 c.toNat] H=some (.ret (.int .i64 (Lib.indexByte s c)),H)
 same:∀ (i o:Nat) (H:List ae),M.run gG [.ptr i o] H=some (.ret (.ptr i o),H)
structure pb (E:bB):Prop where
 strings_Builder_WriteString:E.fn aQ=some cK
 strings_Builder_WriteByte:E.fn ff=some da
 strings_Builder_String:E.fn dc=some dQ
 strings_Builder_Len:E.fn ot=some fb
 strings_Builder_copyCheck:E.fn cq=some db
abbrev gu(s:Str):List (List AV):=s.map fun b=>[.int .u8 (b.toNat:Int)]
abbrev bTok(w:Str):ae:=.tok w.length dF
abbrev j8(a:AV)(n:Nat)(w:Str)(T:TypeId):ae:=.cells [a,.slice (.own n) 1 (gu w)] T
theorem QR(s:Str):oe 1 (gu s)=true:=by simp [oe,gu,AV.cell]
theorem Hv:∀ s:Str,qV (gu s)=some s
 |[]=>rfl
 |c::s=>by
  have:=Hv s
  simp only [gu] at this ⊢
  simp only [List.map_cons,qV,this,Option.map_some]
  congr 2
  simp
theorem Pp:∀ s:Str,Eu (gu s)=true
 |[]=>rfl
 |c::s=>by
  have:=Pp s
  simp only [gu] at this ⊢
  simp only [List.map_cons,Eu,this,Bool.and_true,Bool.and_eq_true,decide_eq_true_eq]
  have:=c.toNat_lt
  omega
theorem MZ(w s:Str):gu (w++s)=gu w++(gu s).map (·.map AV.strip):=by
 simp only [gu,List.map_append,List.map_map]
 congr 1
theorem Uf(H L:List ae){w s:Str}(h:w.length+s.length≤140737488355328)(x:AV)(hx:∀ H,CE H 1 true x=some (gu s)) :
  rap false (H++(bTok w::L)) dF 1 1 true (.slice (.own H.length) 1 (gu w)) x=some (.slice (.own H.length) 1 (gu (w++s)),H++(bTok (w++s)::L)):=by
 have h1:(gu w).length=w.length:=by simp [gu]
 have h2:(gu s).length=s.length:=by simp [gu]
 have hc:(w.length+s.length)*1≤140737488355328∧w.length+s.length≤4611686018427387904∧oe 1 (gu s)=true:=⟨by omega,by omega,QR s⟩
 rw [MZ]
 cases s with
 |nil=>simp [rap,Dv,hx,h1,gu,oe];simp at h;omega
 |cons c s=>
  simp only [rap,Dv,hx,h1,h2,or_true,true_and,hc,if_true,and_self]
  simp only [gu,List.map_cons,dW,List.getElem?_cons_zero,hp_set0,List.set_cons_zero,Nat.mul_one,List.length_cons,List.length_map,and_self,if_true,List.length_append,bTok]
theorem VG(s:Str)(H:List ae):CE H 1 true (.str s)=some (gu s):=by simp [CE]
theorem QS(H L:List ae){w s:Str}(h:w.length+s.length≤140737488355328) :
  rap false (H++(bTok w::L)) dF 1 1 true (.slice (.own H.length) 1 (gu w)) (.str s)=some (.slice (.own H.length) 1 (gu (w++s)),H++(bTok (w++s)::L)):=Uf H L h _ (VG s)
theorem RG(H L:List ae){w:Str}{c:UInt8}(h:w.length+1≤140737488355328) :
  rap false (H++(bTok w::L)) dF 1 1 false (.slice (.own H.length) 1 (gu w)) (.slice .full 1 [[.int .u8 (c.toNat:Int)]])=some (.slice (.own H.length) 1 (gu (w++[c])),H++(bTok (w++[c])::L)):=by
 have h1:(gu w).length=w.length:=by simp [gu]
 have hc:(w.length+1)*1≤140737488355328∧w.length+1≤4611686018427387904:=⟨by omega,by omega⟩
 simp only [rap,Dv,CE,h1,or_true,if_true,List.length_cons,List.length_nil,Nat.zero_add,true_and,hc,and_self]
 simp [oe,AV.cell,dW,hp_set0,MZ,gu,AV.strip,h1,List.map_append]
theorem Wf(H L:List ae)(w:Str)(hw:w.length≤9223372036854775807):Nz (H++(bTok w::L)) dF (.sdp H.length (gu w)) (.int .i64 (w.length:Int))=some (.str w):=by
 cases w with
 |nil=>simp [gu,Nz]
 |cons c w=>
  have h1:=Hv (c::w)
  have h2:=Pp (c::w)
  simp only [gu,List.map_cons] at h1 h2 ⊢
  simp only [Nz,dW,List.getElem?_cons_zero,h1,h2]
  rw [if_pos]
  exact ⟨trivial,trivial,Nat.le_refl _,hw,trivial⟩
theorem Wg(n:Nat)(w:Str):R9 (.slice (.own n) 1 (gu w))=some (.sdp n (gu w)):=by cases w<;>rfl
theorem Hw{H L:List ae}{n n':Nat}{T T' T1 T2:TypeId}{cs cs':List AV}(h:WkL (H.length+(L.length+1+1)) cs' cs'):dG (H++(.tok n T :: .cells cs T1::L)) (H++(.tok n' T' :: .cells cs' T2::L)):=
 ⟨by simp,fun i x hi hx=>by
  rcases Nat.lt_trichotomy i H.length with hl | hl | hl
  ·left;rw [List.getElem?_append_left hl] at hx ⊢;exact hx
  ·subst hl;rw [dW] at hx;right
   obtain rfl:_=x:=by simpa using hx
   trivial
  ·obtain ⟨j,rfl⟩:∃ j,i=H.length+(j+1):=⟨i-H.length-1,by omega⟩
   rw [hp_getk] at hx ⊢
   cases j with
   |zero=>
    right
    obtain rfl:_=x:=by simpa using hx
    intro c hc
    obtain ⟨k,hk⟩:=List.getElem?_of_mem hc
    obtain ⟨y,h1,h2⟩:=h.get k c hk
    rw [hk] at h1;cases h1
    simpa [Nat.add_assoc] using h2
   |succ j=>left;simpa using hx⟩
theorem uL(H L:List ae)(x y:ae):(H++(x::y::L)).take (H.length+(L.length+1+1))=H++(x::y::L):=List.take_of_length_le (by simp)
theorem Pq(n:Nat)(w:Str):mI n (gu w):=by
 rw [rowsWk_map];exact fun _ _=>⟨wk_int _ _ _,trivial⟩
theorem Ug(H L:List ae)(w:Str):WkL (H.length+(L.length+1+1)) [.ptr (H.length+1) 0,.slice (.own H.length) 1 (gu w)] [.ptr (H.length+1) 0,.slice (.own H.length) 1 (gu w)]:=
 ⟨wk_ptr (by omega),wk_slice (show H.length<_ by omega) (Pq _ _),trivial⟩
theorem qU:(∀ (a:Env) (H:List ae) (x:RX),rop a H (.usl x)=cD H (R9 (rx a x)))∧(∀ (a:Env) (H:List ae) (e:TypeId) (x n:RX),rop a H (.ust e x n)=cD H (Nz H e (rx a x) (rx a n)))∧(∀ (a:Env) (H:List ae) (x:RX),rop a H (.cvu x)=cD H (Qe H (rx a x)))∧(∀ (a:Env) (H:List ae) (u:TypeId) (sz:Nat) (x:RX),rop a H (.cvf u sz x)=cD H (Qf H u sz (rx a x))) ∧
 (∀ (a:Env) (H:List ae) (cs:List AV) (e:TypeId) (j:Nat) (T:TypeId),rop a H (.nwb cs e j T)=some (.ptr (H.length+1) 0,H++[.tok 0 T,.cells (cs.set j (.slice (.own H.length) 1 [])) e])):=
 ⟨fun _ _ _=>rfl,fun _ _ _ _ _=>rfl,fun _ _ _=>rfl,fun _ _ _ _ _=>rfl,fun _ _ _ _ _ _=>rfl⟩
theorem Ps:req .ptr .nilp .nilp=some true:=rfl
theorem Ld(i o:Nat):req .ptr (.ptr i o) .nilp=some false:=rfl
theorem Pt(i o:Nat):req .ptr (.ptr i o) (.ptr i o)=some true:=by simp [req]
theorem Xx(H L:List ae)(x:ae)(a b:AV)(T:TypeId):Qe (H++(x :: .cells [a,b] T::L)) (.ptr (H.length+1) 0)=some (.ptr (H.length+1) 0):=by
 simp [Qe,hp_getk]
theorem Xy(H L:List ae)(x:ae)(a b:AV)(T:TypeId):Qf (H++(x :: .cells [a,b] T::L)) T 2 (.ptr (H.length+1) 0)=some (.ptr (H.length+1) 0):=by
 simp [Qf,hp_getk]
theorem Ee(hB:pb E)(hX:oZ M)(H L:List ae)(w:Str) :
  M.run cq [.ptr (H.length+1) 0] (H++(bTok w::j8 .nilp H.length w bu::L))=some (.ret (.tuple []),H++(bTok w::j8 (.ptr (H.length+1) 0) H.length w bu::L)):=by
 rw [aZ M hB.strings_Builder_copyCheck rfl (c:=bS) rfl,bS]
 have h1:=hX.same (H.length+1) 0
 have hw:=Ug H L w
 simp (maxSteps:=3000000) (maxDischargeDepth:=6) +contextual -implicitDefEqProofs only [amA M,amB,↓aj,↓ab,↓al,↓ak,Nat.reduceBEq,Nat.reduceAdd,env,ao,gX,amG,AV.cell,Nat.reduceMul,Nat.reduceLeDiff,h1,qU,Ps,rnc,Xx,Xy,Hw hw,uL,wk_tuple]
theorem Ef(hB:pb E)(H L:List ae)(w:Str)(T:TypeId) :
  M.run cq [.ptr (H.length+1) 0] (H++(bTok w::j8 (.ptr (H.length+1) 0) H.length w T::L))=some (.ret (.tuple []),H++(bTok w::j8 (.ptr (H.length+1) 0) H.length w T::L)):=by
 rw [aZ M hB.strings_Builder_copyCheck rfl (c:=bS) rfl,bS]
 simp (maxSteps:=3000000) (maxDischargeDepth:=6) +contextual -implicitDefEqProofs only [amA M,amB,↓aj,↓ab,↓al,↓ak,Nat.reduceBEq,Nat.reduceAdd,env,ao,gX,Ld,Pt,rnc,uL,wk_tuple]
theorem IA(hB:pb E)(hX:oZ M)(H L:List ae){w s:Str}{T:TypeId}(h:w.length+s.length≤140737488355328) :
  M.run aQ [.ptr (H.length+1) 0,.str s] (H++(bTok w::j8 .nilp H.length w bu::L))=some (.ret (.tuple [.int .i64 s.length,.nilif]),H++(bTok (w++s)::j8 (.ptr (H.length+1) 0) H.length (w++s) bu::L)):=by
 rw [aZ M hB.strings_Builder_WriteString rfl (c:=cJ) rfl,cJ]
 have hw:=Ug H L (w++s)
 simp (maxSteps:=3000000) (maxDischargeDepth:=6) +contextual -implicitDefEqProofs only [amA M,amB,↓aj,↓ab,↓al,↓ak,Nat.reduceBEq,Nat.reduceAdd,env,ao,ek,amG,AV.cell,Nat.reduceMul,Nat.reduceLeDiff,(Ee M hB hX),rnc,QS _ _ h,Hw hw,uL,wk_tuple]
theorem Lg(hB:pb E)(hX:oZ M)(H L:List ae){w:Str}{c:UInt8}{T:TypeId}(h:w.length+1≤140737488355328) :
  M.run ff [.ptr (H.length+1) 0,.int .u8 c.toNat] (H++(bTok w::j8 .nilp H.length w bu::L))=some (.ret .nilif,H++(bTok (w++[c])::j8 (.ptr (H.length+1) 0) H.length (w++[c]) bu::L)):=by
 rw [aZ M hB.strings_Builder_WriteByte rfl (c:=fj) rfl,fj]
 have hw:=Ug H L (w++[c])
 simp (maxSteps:=3000000) (maxDischargeDepth:=6) +contextual -implicitDefEqProofs only [amA M,amB,↓aj,↓ab,↓al,↓ak,Nat.reduceBEq,Nat.reduceAdd,env,ao,o5,amG,AV.cell,Nat.reduceMul,Nat.reduceLeDiff,(Ee M hB hX),rnc,RG _ _ h,Hw hw,uL,wk_tuple]
theorem IB(hB:pb E)(hX:oZ M)(H L:List ae){w s:Str}{T:TypeId}(h:w.length+s.length≤140737488355328) :
  M.run aQ [.ptr (H.length+1) 0,.str s] (H++(bTok w::j8 (.ptr (H.length+1) 0) H.length w T::L))=some (.ret (.tuple [.int .i64 s.length,.nilif]),H++(bTok (w++s)::j8 (.ptr (H.length+1) 0) H.length (w++s) T::L)):=by
 rw [aZ M hB.strings_Builder_WriteString rfl (c:=cJ) rfl,cJ]
 have hw:=Ug H L (w++s)
 simp (maxSteps:=3000000) (maxDischargeDepth:=6) +contextual -implicitDefEqProofs only [amA M,amB,↓aj,↓ab,↓al,↓ak,Nat.reduceBEq,Nat.reduceAdd,env,ao,ek,amG,AV.cell,Nat.reduceMul,Nat.reduceLeDiff,(Ef M hB),rnc,QS _ _ h,Hw hw,uL,wk_tuple]
theorem Lh(hB:pb E)(hX:oZ M)(H L:List ae){w:Str}{c:UInt8}{T:TypeId}(h:w.length+1≤140737488355328) :
  M.run ff [.ptr (H.length+1) 0,.int .u8 c.toNat] (H++(bTok w::j8 (.ptr (H.length+1) 0) H.length w T::L))=some (.ret .nilif,H++(bTok (w++[c])::j8 (.ptr (H.length+1) 0) H.length (w++[c]) T::L)):=by
 rw [aZ M hB.strings_Builder_WriteByte rfl (c:=fj) rfl,fj]
 have hw:=Ug H L (w++[c])
 simp (maxSteps:=3000000) (maxDischargeDepth:=6) +contextual -implicitDefEqProofs only [amA M,amB,↓aj,↓ab,↓al,↓ak,Nat.reduceBEq,Nat.reduceAdd,env,ao,o5,amG,AV.cell,Nat.reduceMul,Nat.reduceLeDiff,(Ef M hB),rnc,RG _ _ h,Hw hw,uL,wk_tuple]
theorem Pu(hB:pb E)(H L:List ae){w:Str}{a:AV}{T:TypeId}(hw:w.length≤9223372036854775807) :
  M.run dc [.ptr (H.length+1) 0] (H++(bTok w::j8 a H.length w T::L))=some (.ret (.str w),H++(bTok w::j8 a H.length w T::L)):=by
 rw [aZ M hB.strings_Builder_String rfl (c:=gr) rfl,gr]
 simp (maxSteps:=3000000) (maxDischargeDepth:=6) +contextual -implicitDefEqProofs only [amA M,amB,↓aj,↓ab,↓al,↓ak,Nat.reduceBEq,Nat.reduceAdd,env,ao,lr,qU,rnc,Wg,Wf H _ w hw,uL]
theorem Uh(hB:pb E)(H L:List ae){w:Str}{a:AV}{T:TypeId} :
  M.run ot [.ptr (H.length+1) 0] (H++(bTok w::j8 a H.length w T::L))=some (.ret (.int .i64 w.length),H++(bTok w::j8 a H.length w T::L)):=by
 rw [aZ M hB.strings_Builder_Len rfl (c:=oU) rfl,oU]
 simp (maxSteps:=3000000) (maxDischargeDepth:=6) +contextual -implicitDefEqProofs only [amA M,amB,↓aj,↓ab,↓al,↓ak,Nat.reduceBEq,Nat.reduceAdd,env,ao,CX,rnc,uL]
end
section
attribute [local congr] aG ct bm aH a7 aN aI aA aC aO aP
variable{E:bB}(M:cT cU E)
structure SpE (E:bB):Prop where
 internal_stringslite_HasPrefix:E.fn fg=some bW
 internal_stringslite_IndexByte:E.fn cL=some bX
 morph_language_left:E.fn oq=some dy
 morph_language_match:E.fn jP=some ez
 morph_language_right:E.fn mM=some c9
 morph_language_spell:E.fn mL=some c8
 strings_HasPrefix:E.fn p6=some fX
 strings_IndexByte:E.fn p7=some fY
theorem xx{s:Str}{k:IntKind}{i:Nat}(h:i≤s.length):Ny (.str s) (some (.int k (i:Int))) none=some (.str (s.drop i)):=by
 simp [Ny,fH,h]
 exact List.take_of_length_le (by simp)
theorem Ui{s:Str}{k:IntKind}{i:Nat}(h:i≤s.length):Ny (.str s) none (some (.int k (i:Int)))=some (.str (s.take i)):=by
 simp [Ny,fH,h]
theorem Uj{s:Str}{k k':IntKind}{i j:Nat}(h:i≤j)(hj:j≤s.length):Ny (.str s) (some (.int k (i:Int))) (some (.int k' (j:Int)))=some (.str ((s.drop i).take (j-i))):=by
 simp [Ny,fH,h,hj]
def lB(s p:Str):Bool:=decide (p.length≤s.length)&&(s.take p.length == p)
theorem Eg(hS:SpE E)(s p:Str)(H:List ae):M.run fg [.str s,.str p] H=some (.ret (.bool (lB s p)),H):=by
 rw [aZ M hS.internal_stringslite_HasPrefix rfl (c:=ir) rfl,ir]
 cases hd:decide (p.length≤s.length) with
 |true=>
  have hle:p.length≤s.length:=of_decide_eq_true hd
  simp (maxSteps:=3000000) (maxDischargeDepth:=6) +contextual -implicitDefEqProofs only [amA M,amB,↓aj,↓ab,↓al,↓ak,Nat.reduceBEq,Nat.reduceAdd,env,ao,kO,lB,hd,Ui hle]
 |false=>
  simp (maxSteps:=3000000) (maxDischargeDepth:=6) +contextual -implicitDefEqProofs only [amA M,amB,↓aj,↓ab,↓al,↓ak,Nat.reduceBEq,Nat.reduceAdd,env,ao,kO,lB,hd]
theorem uh(hS:SpE E)(s p:Str)(H:List ae):M.run p6 [.str s,.str p] H=some (.ret (.bool (lB s p)),H):=by
 have h1:=Eg M hS s p H
 rw [aZ M hS.strings_HasPrefix rfl (c:=p9) rfl,p9]
 simp (maxSteps:=3000000) (maxDischargeDepth:=6) +contextual -implicitDefEqProofs only [amA M,amB,↓aj,↓ab,↓al,↓ak,Nat.reduceBEq,Nat.reduceAdd,env,ao,ET,h1]
theorem M0:∀ (s:Str) (c:UInt8),decide ((0:Int)≤Lib.indexByte s c)=s.any fun d=>d == c
 |[],c=>rfl
 |d::s,c=>by
  rw [Lib.indexByte,List.any_cons,← M0 s c]
  cases h:d == c with
  |true=>simp
  |false=>
   have hg:=Lib.indexByte_ge s c
   simp only [Bool.false_or]
   by_cases h2:Lib.indexByte s c = -1
   ·simp [h2]
   ·have:(Lib.indexByte s c == -1)=false:=by simpa using h2
    simp only [this]
    rw [Bool.eq_iff_iff];simp;omega
theorem Mh(hS:SpE E)(hX:oZ M)(s:Str)(c:UInt8)(H:List ae):M.run p7 [.str s,.int .u8 c.toNat] H=some (.ret (.int .i64 (Lib.indexByte s c)),H):=by
 have h1:M.run cL [.str s,.int .u8 c.toNat] H=some (.ret (.int .i64 (Lib.indexByte s c)),H):=by
  rw [aZ M hS.internal_stringslite_IndexByte rfl (c:=dJ) rfl,dJ]
  simp (maxSteps:=3000000) (maxDischargeDepth:=6) +contextual -implicitDefEqProofs only [amA M,amB,↓aj,↓ab,↓al,↓ak,Nat.reduceBEq,Nat.reduceAdd,env,ao,kP,hX.index]
 rw [aZ M hS.strings_IndexByte rfl (c:=qa) rfl,qa]
 simp (maxSteps:=3000000) (maxDischargeDepth:=6) +contextual -implicitDefEqProofs only [amA M,amB,↓aj,↓ab,↓al,↓ak,Nat.reduceBEq,Nat.reduceAdd,env,ao,EU,h1]
def RH(s:Str)(at_:Int):Option UInt8:=if at_<0 then none else s[at_.toNat]?
def isV(v:Str)(c:UInt8):Bool:=v.any fun d=>d == c
def Eh(v:Str)(p:UInt8)(s:Str)(at_:Int):Bool:=
 match RH s at_ with
 |none=>((p.toNat:Int) == 35)&&((at_ == -1)||(at_ == (s.length:Int)))
 |some c=>sel ((p.toNat:Int) == 67) (nY c && !isV v c) (sel ((p.toNat:Int) == 86) (nY c&&isV v c) (p.toNat == c.toNat))
theorem M1(hN:cS E)(hS:SpE E)(hX:oZ M){l:Lex}(p:UInt8)(s:Str)(at_:Int)(H:List ae) :
  M.run jP [.agg l.row,.int .u8 p.toNat,.str s,.int .i64 at_] H=some (.ret (.bool (Eh l.vowels p s at_)),H):=by
 rw [aZ M hS.morph_language_match rfl (c:=ns) rfl,ns]
 by_cases h:at_<0
 ·have e:RH s at_=none:=if_pos h
  have hd:decide (at_<0)=true:=decide_eq_true h
  simp (maxSteps:=3000000) (maxDischargeDepth:=6) +contextual -implicitDefEqProofs only [amA M,amB,↓aj,↓ab,↓al,↓ak,Nat.reduceBEq,Nat.reduceAdd,env,ao,nu,hd,Eh,e,cut_app]
 ·obtain ⟨j,rfl⟩:∃ j:Nat,at_=(j:Int):=⟨at_.toNat,by omega⟩
  have e:RH s (j:Int)=s[j]? := by simp [RH,h]
  by_cases hj:j<s.length
  ·have hx:s[j]?=some s[j]:=List.getElem?_eq_getElem hj
   have hd:decide (s.length≤j)=false:=decide_eq_false (by omega)
   simp (maxSteps:=3000000) (maxDischargeDepth:=6) +contextual -implicitDefEqProofs only [amA M,amB,↓aj,↓ab,↓al,↓ak,Nat.reduceBEq,Nat.reduceAdd,env,ao,nu,T4,hd,hx,Eh,e,cj,cut_app,Mh M hS hX,M0,nD M hN.letter,isV]
  ·have hx:s[j]?=none:=List.getElem?_eq_none (by omega)
   have hd:decide (s.length≤j)=true:=decide_eq_true (by omega)
   simp (maxSteps:=3000000) (maxDischargeDepth:=6) +contextual -implicitDefEqProofs only [amA M,amB,↓aj,↓ab,↓al,↓ak,Nat.reduceBEq,Nat.reduceAdd,env,ao,nu,T4,hd,hx,Eh,e,cut_app]
def Uk{α:Type}(f:Nat→α→Bool):Nat→List α→Bool
 |_,[]=>true
 |i,x::l=>f i x&&Uk f (i+1) l
def SQ{α:Type}(f:Nat→α→Bool):Nat→α→Option AV:=fun i x=>sel (f i x) none (some (.bool false))
theorem Ge{α:Type}(f:Nat→α→Bool)(H:List ae)(x:Option Out):∀ (l:List α) (i:Nat),orE (fI (SQ f) i l) H x=sel (Uk f i l) x (some (.ret (.bool false),H))
 |[],_=>rfl
 |y::l,i=>by
  rw [uv,Rx,Ge f H x l,Uk]
  unfold SQ
  cases f i y<;>rfl
theorem spl{H H0:List ae}(hN:cS E)(hS:SpE E)(hX:oZ M){l:Lex}{q:Str}{s:Str}{a:Nat}(ha:a≤bH){L:Str}(hLl:L.length=q.length)(hqs:q.length≤bH)(hL:∀ k,k<L.length→q[q.length-1-k]?=L[k]?){p:Nat}{T:TypeId}(hp:H[p]?=some (.cells l.row T))(hc:dG H0 H)(k:List Fra):∀ (n i:Nat) (He:List ae),i+n=L.length →
  M.go dy H0 (.c gW :: .lp ⟨(some [1,2,3,4,11,12]),[],false⟩ gW He :: .blk 0 :: .c (.lv [])::k) (kv [(1,.str q),(2,.str s),(3,.int .i64 a),(4,.ptr p 0),(11,.int .i64 L.length),(12,.int .i64 i)]) H =
   orE (fI (SQ fun k c=>Eh l.vowels c s ((a:Int)-1-(k:Int))) i (L.drop i)) (H.take H0.length) (M.go dy H0 k .leaf H)
 |0,i,He,h=>by
  have e:i=L.length:=by omega
  subst e
  rw [aw M gW.eq_1]
  simp (maxSteps:=3000000) (maxDischargeDepth:=6) +contextual -implicitDefEqProofs only [amA M,amB,↓aj,↓ab,↓al,↓ak,Nat.reduceBEq,Nat.reduceAdd,env,ao,oT,Nat.lt_irrefl,List.drop_length]
 |n+1,i,He,h=>by
  have hi:i<L.length:=by omega
  have hx:L[i]?=some L[i]:=List.getElem?_eq_getElem hi
  have hd:(L.drop i)=L[i]::L.drop (i+1):=List.drop_eq_getElem_cons hi
  have hm:L[i]∈L:=List.getElem_mem hi
  have ih:=fun He=>spl (H:=H) (H0:=H0) (hN:=hN) (hS:=hS) (hX:=hX) (l:=l) (q:=q) (s:=s) (a:=a) (ha:=ha) (L:=L) (hLl:=hLl) (hqs:=hqs) (hL:=hL) (p:=p) (T:=T) (hp:=hp) hc k n (i+1)  He (by omega)
  simp only [kv_cons,kv_nil] at ih
  have hq:=(hL i hi).trans hx
  have e1:IntKind.i64.wrap ((q.length:Int)-1)=((q.length-1:Nat):Int):=Vz (by omega) hqs
  have e2:IntKind.i64.wrap (((q.length-1:Nat):Int)-(i:Int))=((q.length-1-i:Nat):Int):=by
   simp only [bH] at hqs;rw [eC (by omega) (by omega)];omega
  have e3:IntKind.i64.wrap ((a:Int)-1)=(a:Int)-1:=by simp only [bH] at ha;exact eC (by omega) (by omega)
  have e4:IntKind.i64.wrap ((a:Int)-1-(i:Int))=(a:Int)-1-(i:Int):=by simp only [bH] at ha hqs;exact eC (by omega) (by omega)
  rw [aw M gW.eq_1]
  simp (maxSteps:=3000000) (maxDischargeDepth:=6) +contextual -implicitDefEqProofs only [amA M,amB,↓aj,↓ab,↓al,↓ak,Nat.reduceBEq,Nat.reduceAdd,env,ao,oT,hx,hd,hi,ih,hq,e1,e2,e3,e4,hp,cj,M1 M hN hS hX,cY hi (show L.length≤bH by omega),SQ,hc]
def Pv(v p s:Str)(a:Nat):Bool:=Uk (fun k c=>Eh v c s ((a:Int)-1-(k:Int))) 0 p.reverse
theorem VH(q:Str):∀ k,k<q.reverse.length→q[q.length-1-k]?=q.reverse[k]? := fun k hk=>by
 rw [List.getElem?_reverse (by simpa using hk)]
theorem Ul(hN:cS E)(hS:SpE E)(hX:oZ M){l:Lex}{q:Str}(hq:q.length≤bH)(s:Str){a:Nat}(ha:a≤bH)(H:List ae) :
  M.run oq [.agg l.row,.str q,.str s,.int .i64 a] H=some (.ret (.bool (Pv l.vowels q s a)),H):=by
 rw [aZ M hS.morph_language_left rfl (c:=oS) rfl,oS]
 have h1:=fun k He=>spl M hN hS hX (H:=H++[.cells l.row aD]) (H0:=H) (l:=l) (q:=q) (s:=s) ha (L:=q.reverse) (by simp) hq (VH q) (p:=H.length) (T:=aD) (by rw [dW];rfl) (cut_app H _) k q.reverse.length 0 He (by omega)
 simp only [kv_cons,kv_nil,Int.ofNat_zero,List.drop_zero,Ge,List.length_reverse] at h1
 simp (maxSteps:=3000000) (maxDischargeDepth:=6) +contextual -implicitDefEqProofs only [amA M,amB,↓aj,↓ab,↓al,↓ak,Nat.reduceBEq,Nat.reduceAdd,env,ao,oT,h1,Pv,cut_app]
theorem spr{H H0:List ae}(hN:cS E)(hS:SpE E)(hX:oZ M){l:Lex}{q:Str}{s:Str}{a:Nat}(ha:a+q.length≤bH){p:Nat}{T:TypeId}(hp:H[p]?=some (.cells l.row T))(hc:dG H0 H)(k:List Fra):∀ (n i:Nat) (He:List ae),i+n=q.length →
  M.go c9 H0 (.c gq :: .lp ⟨(some [1,2,3,4,11,12]),[],false⟩ gq He :: .blk 0 :: .c (.lv [])::k) (kv [(1,.str q),(2,.str s),(3,.int .i64 a),(4,.ptr p 0),(11,.int .i64 q.length),(12,.int .i64 i)]) H =
   orE (fI (SQ fun k c=>Eh l.vowels c s ((a+k:Nat):Int)) i (q.drop i)) (H.take H0.length) (M.go c9 H0 k .leaf H)
 |0,i,He,h=>by
  have e:i=q.length:=by omega
  subst e
  rw [aw M gq.eq_1]
  simp (maxSteps:=3000000) (maxDischargeDepth:=6) +contextual -implicitDefEqProofs only [amA M,amB,↓aj,↓ab,↓al,↓ak,Nat.reduceBEq,Nat.reduceAdd,env,ao,nr,Nat.lt_irrefl,List.drop_length]
 |n+1,i,He,h=>by
  have hi:i<q.length:=by omega
  have hx:q[i]?=some q[i]:=List.getElem?_eq_getElem hi
  have hd:(q.drop i)=q[i]::q.drop (i+1):=List.drop_eq_getElem_cons hi
  have hm:q[i]∈q:=List.getElem_mem hi
  have ih:=fun He=>spr (H:=H) (H0:=H0) (hN:=hN) (hS:=hS) (hX:=hX) (l:=l) (q:=q) (s:=s) (a:=a) (ha:=ha) (p:=p) (T:=T) (hp:=hp) hc k n (i+1)  He (by omega)
  simp only [kv_cons,kv_nil] at ih
  have e1:IntKind.i64.wrap ((a:Int)+(i:Int))=((a+i:Nat):Int):=by simp only [bH] at ha;rw [eC (by omega) (by omega)];omega
  rw [aw M gq.eq_1]
  simp (maxSteps:=3000000) (maxDischargeDepth:=6) +contextual -implicitDefEqProofs only [amA M,amB,↓aj,↓ab,↓al,↓ak,Nat.reduceBEq,Nat.reduceAdd,env,ao,nr,hx,hd,hi,ih,e1,hp,cj,M1 M hN hS hX,cY hi (show q.length≤bH by omega),SQ,hc]
def NZ(v p s:Str)(a:Nat):Bool:=Uk (fun k c=>Eh v c s ((a+k:Nat):Int)) 0 p
theorem SR(hN:cS E)(hS:SpE E)(hX:oZ M){l:Lex}{q:Str}(s:Str){a:Nat}(ha:a+q.length≤bH)(H:List ae) :
  M.run mM [.agg l.row,.str q,.str s,.int .i64 a] H=some (.ret (.bool (NZ l.vowels q s a)),H):=by
 rw [aZ M hS.morph_language_right rfl (c:=nq) rfl,nq]
 have h1:=fun k He=>spr M hN hS hX (H:=H++[.cells l.row aD]) (H0:=H) (l:=l) (q:=q) (s:=s) ha (p:=H.length) (T:=aD) (by rw [dW];rfl) (cut_app H _) k q.length 0 He (by omega)
 simp only [kv_cons,kv_nil,Int.ofNat_zero,List.drop_zero,Ge] at h1
 simp (maxSteps:=3000000) (maxDischargeDepth:=6) +contextual -implicitDefEqProofs only [amA M,amB,↓aj,↓ab,↓al,↓ak,Nat.reduceBEq,Nat.reduceAdd,env,ao,nr,h1,NZ,cut_app]
end
section
attribute [local congr] aG ct bm aH a7 aN aI aA aC aO aP
variable{E:bB}(M:cT cU E)
def Um(v:Str)(x:bA)(s:Str)(i:Nat):Bool:=lB (s.drop i) x.frm&&(Pv v x.left s i&&NZ v x.right s (i+x.frm.length))
def Gf(v:Str)(x:bA)(s:Str):Nat→Nat→Str→Str
 |0,_,w=>w
 |n+1,i,w=>match s[i]? with
  |none=>w
  |some c=>match Um v x s i with
   |true=>Gf v x s n (i+x.frm.length) (w++x.to)
   |false=>Gf v x s n (i+1) (w++[c])
def uM(v:Str)(x:bA)(s:Str):Str:=Gf v x s (s.length+1) 0 []
theorem Li(v:Str)(x:bA)(s:Str)(ht:x.to.length≤6):∀ (n i:Nat) (w:Str),(Gf v x s n i w).length≤w.length+6*n
 |0,i,w=>by simp only [Gf];omega
 |n+1,i,w=>by
  unfold Gf
  split
  ·omega
  ·split
   ·have:=Li v x s ht n (i+x.frm.length) (w++x.to)
    simp only [List.length_append] at this
    omega
   ·rename_i c _ _ _
    have:=Li v x s ht n (i+1) (w++[c])
    simp only [List.length_append,List.length_singleton] at this
    omega
theorem SS(v:Str)(x:bA)(s:Str)(ht:x.to.length≤6):(uM v x s).length≤6*(s.length+1):=by
 have:=Li v x s ht (s.length+1) 0 []
 simpa [uM] using this
theorem IC(hB:pb E)(hX:oZ M)(H L:List ae){w s:Str}{a:AV}(ha:a = .nilp∨a = .ptr (H.length+1) 0)(h:w.length+s.length≤140737488355328) :
  M.run aQ [.ptr (H.length+1) 0,.str s] (H++(bTok w::j8 a H.length w bu::L))=some (.ret (.tuple [.int .i64 s.length,.nilif]),H++(bTok (w++s)::j8 (.ptr (H.length+1) 0) H.length (w++s) bu::L)):=by
 rcases ha with rfl | rfl
 ·exact IA M (T:=0) hB hX H L h
 ·exact IB M hB hX H L h
theorem Lj(hB:pb E)(hX:oZ M)(H L:List ae){w:Str}{c:UInt8}{a:AV}(ha:a = .nilp∨a = .ptr (H.length+1) 0)(h:w.length+1≤140737488355328) :
  M.run ff [.ptr (H.length+1) 0,.int .u8 c.toNat] (H++(bTok w::j8 a H.length w bu::L))=some (.ret .nilif,H++(bTok (w++[c])::j8 (.ptr (H.length+1) 0) H.length (w++[c]) bu::L)):=by
 rcases ha with rfl | rfl
 ·exact Lg M (T:=0) hB hX H L h
 ·exact Lh M hB hX H L h
theorem spw(hN:cS E)(hS:SpE E)(hX:oZ M)(hB:pb E){l:Lex}{x:bA}{n0:Nat}(hx0:x.ok n0)(h0:x.frm≠[])(ht:x.to.length≤6)(hfr:x.frm.length≤6)(hri:x.right.length≤6){s:Str}(hs:s.length≤1000000)
  {H H0:List ae}{p q:Nat}{T T2:TypeId} (hp:H[p]?=some (.cells l.row T)) (hq:H[q]?=some (.cells x.row T2)):∀ (n i:Nat) (w:Str) (a:AV),(a = .nilp∨a = .ptr (H.length+1) 0)→s.length<i+n→i≤s.length+6→w.length≤6*i →
  ∃ a',∀ (k:List Fra) (He:List ae),M.go c8 H0 (.c dN :: .lp ⟨(some [2,3,4,8,9]),[],false⟩ dN He :: .blk 0 :: .c (.lv [8])::k) (kv [(2,.str s),(3,.ptr p 0),(4,.ptr q 0),(8,.ptr (H.length+1) 0),(9,.int .i64 i)]) (H++[bTok w,j8 a H.length w bu]) =
   M.go c8 H0 k (kv [(8,.ptr (H.length+1) 0)]) (H++[bTok (Gf l.vowels x s n i w),j8 a' H.length (Gf l.vowels x s n i w) bu])
 |0,i,w,a,ha,hn,hi,hw=>by
  refine ⟨a,fun k He => ?_⟩
  have e:¬ i<s.length:=by omega
  rw [Gf]
  rw [aw M dN.eq_1]
  simp (maxSteps:=3000000) (maxDischargeDepth:=6) +contextual -implicitDefEqProofs only [amA M,amB,↓aj,↓ab,↓al,↓ak,Nat.reduceBEq,Nat.reduceAdd,env,ao,ew,e]
 |n+1,i,w,a,ha,hn,hi,hw=>by
  have hp':=fun L=>dg (L:=L) hp
  have hq':=fun L=>dg (L:=L) hq
  by_cases h:i<s.length
  ·have hx:s[i]?=some s[i]:=List.getElem?_eq_getElem h
   have hf:0<x.frm.length:=by cases hxf:x.frm with
    |nil=>exact absurd hxf h0
    |cons a b=>simp
   have l1:=fun H=>Ul M hN hS hX (l:=l) hx0.left s (show i≤bH by simp only [bH];omega) H
   have r1:=fun H=>SR M hN hS hX (l:=l) (q:=x.right) s (show (i+x.frm.length)+x.right.length≤bH by simp only [bH];omega) H
   have e1:IntKind.i64.wrap ((i:Int)+(x.frm.length:Int))=((i+x.frm.length:Nat):Int):=by rw [eC (by omega) (by omega)];omega
   cases hA:Um l.vowels x s i with
   |true=>
    obtain ⟨a',ih⟩:=spw hN hS hX hB hx0 h0 ht hfr hri hs hp hq n (i+x.frm.length) (w++x.to) (.ptr (H.length+1) 0) (.inr rfl) (by omega) (by omega) (by simp;omega)
    refine ⟨a',fun k He => ?_⟩
    simp only [kv_cons,kv_nil] at ih
    rw [Gf,hx,hA]
    simp only [Um,Bool.and_eq_true] at hA
    have w1:=IC M hB hX H [] (w:=w) (s:=x.to) ha (by omega)
    rw [aw M dN.eq_1]
    simp (maxSteps:=3000000) (maxDischargeDepth:=6) +contextual -implicitDefEqProofs only [amA M,amB,↓aj,↓ab,↓al,↓ak,Nat.reduceBEq,Nat.reduceAdd,env,ao,ew,h,hx,ih,hp',hq',cj,yZ,xx (Nat.le_of_lt h),uh M hS,l1,r1,e1,hA.1,hA.2.1,hA.2.2,w1]
    all_goals exact ih _ _
   |false=>
    obtain ⟨a',ih⟩:=spw hN hS hX hB hx0 h0 ht hfr hri hs hp hq n (i+1) (w++[s[i]]) (.ptr (H.length+1) 0) (.inr rfl) (by omega) (by omega) (by simp;omega)
    refine ⟨a',fun k He => ?_⟩
    simp only [kv_cons,kv_nil] at ih
    rw [Gf,hx,hA]
    have w1:=Lj M hB hX H [] (w:=w) (c:=s[i]) ha (by omega)
    have hA2:(lB (s.drop i) x.frm&&Pv l.vowels x.left s i&&NZ l.vowels x.right s (i+x.frm.length))=false:=by rw [← hA,Um,Bool.and_assoc]
    rw [aw M dN.eq_1]
    cases c1:lB (s.drop i) x.frm with
    |false=>
     simp (maxSteps:=3000000) (maxDischargeDepth:=6) +contextual -implicitDefEqProofs only [amA M,amB,↓aj,↓ab,↓al,↓ak,Nat.reduceBEq,Nat.reduceAdd,env,ao,ew,h,hx,ih,hp',hq',cj,yZ,xx (Nat.le_of_lt h),uh M hS,c1,w1,cY h (show s.length≤bH by simp only [bH];omega)]
     all_goals exact ih _ _
    |true=>
     cases c2:Pv l.vowels x.left s i with
     |false=>
      simp (maxSteps:=3000000) (maxDischargeDepth:=6) +contextual -implicitDefEqProofs only [amA M,amB,↓aj,↓ab,↓al,↓ak,Nat.reduceBEq,Nat.reduceAdd,env,ao,ew,h,hx,ih,hp',hq',cj,yZ,xx (Nat.le_of_lt h),uh M hS,l1,c1,c2,w1,cY h (show s.length≤bH by simp only [bH];omega)]
      all_goals exact ih _ _
     |true=>
      rw [c1,c2] at hA2
      simp only [Bool.true_and] at hA2
      simp (maxSteps:=3000000) (maxDischargeDepth:=6) +contextual -implicitDefEqProofs only [amA M,amB,↓aj,↓ab,↓al,↓ak,Nat.reduceBEq,Nat.reduceAdd,env,ao,ew,h,hx,ih,hp',hq',cj,yZ,xx (Nat.le_of_lt h),uh M hS,l1,r1,e1,c1,c2,hA2,w1,cY h (show s.length≤bH by simp only [bH];omega)]
      all_goals exact ih _ _
  ·refine ⟨a,fun k He => ?_⟩
   have hx:s[i]?=none:=List.getElem?_eq_none (by omega)
   rw [Gf,hx]
   rw [aw M dN.eq_1]
   simp (maxSteps:=3000000) (maxDischargeDepth:=6) +contextual -implicitDefEqProofs only [amA M,amB,↓aj,↓ab,↓al,↓ak,Nat.reduceBEq,Nat.reduceAdd,env,ao,ew,h]
theorem SU(hN:cS E)(hS:SpE E)(hX:oZ M)(hB:pb E){l:Lex}{x:bA}{n0:Nat}(hx0:x.ok n0)(h0:x.frm≠[])(ht:x.to.length≤6)(hfr:x.frm.length≤6)(hri:x.right.length≤6){s:Str}(hs:s.length≤1000000)(H:List ae) :
  M.run mL [.agg l.row,.agg x.row,.str s] H=some (.ret (.tuple [.str (uM l.vowels x s),.bool (decide (((uM l.vowels x s).length:Int)≤512))]),H):=by
 rw [aZ M hS.morph_language_spell rfl (c:=nn) rfl,nn]
 have hlen:(uM l.vowels x s).length≤9223372036854775807:=by have:=SS l.vowels x s ht;omega
 obtain ⟨a',h1⟩:=spw M hN hS hX hB hx0 h0 ht hfr hri hs (l:=l) (H:=H++[.cells l.row aD,.cells x.row eR]) (H0:=H) (p:=H.length) (q:=H.length+1) (T:=aD) (T2:=eR) (by rw [dW];rfl) (by rw [hp_getk];rfl) (s.length+1) 0 [] .nilp (.inl rfl) (by omega) (by omega) (by simp)
 have h2:=Pu M hB (H++[.cells l.row aD,.cells x.row eR]) [] (a:=a') (T:=bu) hlen
 have h3:=Uh M hB (H++[.cells l.row aD,.cells x.row eR]) [] (w:=uM l.vowels x s) (a:=a') (T:=bu)
 rw [← uM] at h1
 simp only [kv_cons,kv_nil,Int.ofNat_zero,lo_app3,NS,lo_app0,lo_len,lo_len1,lo_len0,Nat.zero_add,Nat.reduceAdd,Nat.add_assoc,(show bTok [] = .tok 0 dF from rfl),(show ∀ a n T,j8 a n [] T = .cells [a,.slice (.own n) 1 []] T from fun _ _ _=>rfl)] at h1 h2 h3
 simp (maxSteps:=3000000) (maxDischargeDepth:=6) +contextual -implicitDefEqProofs only [amA M,amB,↓aj,↓ab,↓al,↓ak,Nat.reduceBEq,Nat.reduceAdd,env,ao,ew,amG,AV.cell,Nat.reduceMul,Nat.reduceLeDiff,qU,Nat.add_assoc,h1,h2,h3,wk_tuple]
end
section
attribute [local congr] aG ct bm aH a7 aN aI aA aC aO aP
variable{E:bB}(M:cT cU E)
structure RSpE (E:bB):Prop where
 truchmanref02_matches:E.fn lO=some l7
 truchmanref02_applies:E.fn rB=some l6
 truchmanref02_rewrite:E.fn rA=some l5
end
section
attribute [local congr] aG ct bm aH a7 aN aI aA aC aO aP
variable{E:bB}(M:cT cU E)
theorem vV{s t:Str}(h:s.length+t.length<9223372036854775808):r4 .add s t=some (.str (s++t)):=WE h
structure Un (l:Lex):Prop where
 vowels:l.vowels.all nY=true
 spells:∀ x∈l.spells.l,Ce x=0
 short:We l
theorem Uo{l:Lex}(h:bG l=0):Un l:=by
 unfold bG at h
 simp only [Xv,Xw] at h
 rw [VF,RD] at h
 cases hv:l.vowels.all nY with
 |false=>rw [hv] at h;simp [sel] at h
 |true=>
  rw [hv] at h
  cases hi:WS l.vowels with
  |false=>rw [hi] at h;simp [sel] at h
  |true=>
   rw [hi] at h
   simp only [sel,beq_self_eq_true,Bool.not_true] at h
   cases h1:K7 l == 0 with
   |false=>rw [h1] at h;simp only [Bool.not_false] at h;rw [h] at h1;simp at h1
   |true=>
    rw [h1] at h;simp only [Bool.not_true] at h
    cases h2:Gb l == 0 with
    |false=>rw [h2] at h;simp only [Bool.not_false] at h;rw [h] at h2;simp at h2
    |true=>
     rw [h2] at h;simp only [Bool.not_true] at h
     cases h3:Ix l == 0 with
     |false=>rw [h3] at h;simp only [Bool.not_false] at h;rw [h] at h3;simp at h3
     |true=>
      rw [h3] at h;simp only [Bool.not_true] at h
      cases h4:Iy l == 0 with
      |false=>rw [h4] at h;simp only [Bool.not_false] at h;rw [h] at h4;simp at h4
      |true=>
       refine ⟨hv,fun x hx => ?_,T6 (eq_of_beq h2)⟩
       obtain ⟨k,hk⟩:=List.getElem?_of_mem hx
       exact (jW (eq_of_beq h4)).2 k x hk
theorem Up{x:bA}(h:Ce x=0):x.frm≠[]∧x.to.length≤6∧x.frm.length≤6∧x.right.length≤6∧x.left.length≤6:=by
 rw [T9] at h
 cases c1:(x.frm == []||(!ofF [43] x.frm||(!ofF [43] x.to||(!ofF [43,35,86,67] x.left || !ofF [43,35,86,67] x.right)))) with
 |true=>rw [c1] at h;simp [sel] at h
 |false=>
  rw [c1] at h
  cases c2:(decide ((6:Int)<(x.frm.length:Int))||(decide ((6:Int)<(x.to.length:Int))||(decide ((6:Int)<(x.left.length:Int))||decide ((6:Int)<(x.right.length:Int))))) with
  |true=>rw [c2] at h;simp [sel] at h
  |false=>
   simp at c1 c2
   exact ⟨c1.1,by omega,by omega,by omega,by omega⟩
theorem gz{α:Type}{row:α→List AV}{l:List α}{tag:Tag}{sz:Nat}{k:IntKind}{r:Int}(h0:0≤r)(h:r.toNat<l.length):Bx sz (.slice tag sz (l.map row)) (.int k r)=some (.vptr sz (l.map row) r.toNat 0):=by
 have:=bz (row:=row) (tag:=tag) (sz:=sz) (k:=k) h
 rwa [Int.toNat_of_nonneg h0] at this
end
section
attribute [local congr] aG ct bm aH a7 aN aI aA aC aO aP
variable{E:bB}(M:cT cU E)
structure uN (E:bB):Prop where
 slices_Grow_api_Feat_api_Feat:E.fn fp=some cX
 slices_Concat_api_Feat_api_Feat:E.fn eJ=some cE
 slices_Compact_api_Feat_api_Feat:E.fn er=some aV
 morph_union:E.fn y8=some od
 slices_Index_api_Feat_api_Feat:E.fn hT=some bJ
 slices_Contains_api_Feat_api_Feat:E.fn gf=some b9
 morph_Subsumes_1:E.fn mJ=some iJ
 morph_Subsumes:E.fn jU=some jV
 truchmanref02_Subsumes:E.fn qq=some lu
def bU(l:List aq):List AV:=(l.map aq.row).flatten
def nE(n:Nat):List AV:=(List.replicate n [AV.str [],AV.str []]).flatten
theorem pP(l:List aq):(bU l).length=l.length*2:=by
 unfold bU
 induction l with
 |nil=>rfl
 |cons x l ih=>simp only [List.map_cons,List.flatten_cons,List.length_append,ih,List.length_cons];simp [aq.row];omega
theorem Ez(a b:List aq):bU (a++b)=bU a++bU b:=by simp [bU]
theorem QT(n:Nat):(nE n).length=n*2:=by
 unfold nE;rw [List.length_flatten];simp
theorem Jc(n:Nat):nE n=bU (List.replicate n ⟨[],[]⟩):=by simp [nE,bU,aq.row]
theorem SV(hU:uN E)(H:List ae):M.run fp [.slice .nil 2 [],.int .i64 0] H=some (.ret (.slice .nil 2 []),H):=by
 rw [aZ M hU.slices_Grow_api_Feat_api_Feat rfl (c:=dU) rfl,dU]
 have w0:IntKind.i64.wrap 0=0:=by decide
 simp (maxSteps:=3000000) (maxDischargeDepth:=6) +contextual -implicitDefEqProofs only [amA M,amB,↓aj,↓ab,↓al,↓ak,Nat.reduceBEq,Nat.reduceAdd,env,ao,lD,Ow,List.length_nil,Int.ofNat_zero,Int.sub_self,w0,(show decide ((0:Int)<0)=false from rfl)]
theorem Uq(hU:uN E){n:Nat}(h0:0<n)(hn:n≤4000000000)(H:List ae) :
  M.run fp [.slice .nil 2 [],.int .i64 n] H=some (.ret (.rslice H.length 0 0 2 true),H++[.cells (nE n) ba]):=by
 rw [aZ M hU.slices_Grow_api_Feat_api_Feat rfl (c:=dU) rfl,dU]
 have w0:IntKind.i64.wrap 0=0:=by decide
 have w1:IntKind.i64.wrap ((n:Int)-0)=(n:Int):=by rw [eC (by omega) (by omega)];omega
 have h1:decide ((n:Int)<0)=false:=decide_eq_false (by omega)
 have h2:decide ((n:Int) > 0)=true:=decide_eq_true (by omega)
 have e1:EH 2 (.slice .nil 2 []) none (some (.int .i64 0)) none=some (.slice .nil 2 []):=rfl
 have e2:Qg H ba 2 32 [.str [],.str []] (.slice .nil 2 []) (.int .i64 n)=some (.rslice H.length 0 n 2 true,H++[.cells (nE n) ba]):=by
  have a1:¬ (n:Int)=0:=by omega
  have a2:(0:Int)<n∧(n:Int).toNat*32≤140737488355328∧(n:Int)≤4611686018427387904:=by refine ⟨by omega, ?_,by omega⟩;simp;omega
  unfold Qg;dsimp only;rw [if_neg a1,if_pos a2];rfl
 have e3:EH 2 (.rslice H.length 0 n 2 true) none (some (.int .i64 0)) none=some (.rslice H.length 0 0 2 true):=by simp [EH,fH]
 simp (maxSteps:=3000000) (maxDischargeDepth:=6) +contextual -implicitDefEqProofs only [amA M,amB,↓aj,↓ab,↓al,↓ak,Nat.reduceBEq,Nat.reduceAdd,env,ao,lD,amZ,Ow,List.length_nil,Int.ofNat_zero,Int.sub_self,w0,w1,h1,h2,e1,e2,e3]
theorem SX{H:List ae}{n:Nat}{t:Tag}{a:List aq}(h:a.length≤4000000000) :
  rap true (H++[.cells (nE n) ba]) ba 2 32 false (.rslice H.length 0 0 2 true) (.slice t 2 (a.map aq.row))=some (.rslice (H.length+1) 0 a.length 2 true,H++[.dead,.cells (bU a) ba]):=by
 have hr:oe 2 (a.map aq.row)=true:=by simp [oe,aq.row,AV.cell]
 simp only [rap,GR,CE,or_true,if_true,hr,dW,List.length_map,Nat.zero_add,Nat.zero_mul,Nat.zero_le,true_and,List.take_zero,List.nil_append,hp_set0,List.length_append,List.length_cons,List.length_nil,List.getElem?_cons_zero,List.set_cons_zero]
 rw [if_pos ⟨by omega,by omega⟩]
 simp [bU]
theorem Ur{H:List ae}{a b:List aq}{t:Tag}(h:a.length+b.length≤4000000000) :
  rap true (H++[.dead,.cells (bU a) ba]) ba 2 32 false (.rslice (H.length+1) 0 a.length 2 true) (.slice t 2 (b.map aq.row))=some (.rslice (H.length+2) 0 (a++b).length 2 true,H++[.dead,.dead,.cells (bU (a++b)) ba]):=by
 have hr:oe 2 (b.map aq.row)=true:=by simp [oe,aq.row,AV.cell]
 have hg:(H++[ae.dead,.cells (bU a) ba])[H.length+1]?=some (.cells (bU a) ba):=by rw [hp_getk];rfl
 have hs:(H++[ae.dead,.cells (bU a) ba]).set (H.length+1) .dead=H++[.dead,.dead]:=by
  rw [List.set_append_right _ _ (by omega)];simp
 simp only [rap,GR,CE,or_true,if_true,hr,hg,hs,List.length_map,true_and,List.length_append,List.length_cons,List.length_nil]
 rw [if_pos ⟨by rw [pP];exact Nat.le_refl _,by omega,by omega⟩]
 have e:(bU a).take (a.length*2)=bU a:=List.take_of_length_le (by rw [pP];exact Nat.le_refl _)
 rw [e,Ez]
 simp [bU]
theorem M3{H:List ae}{t:Tag}(ht:t = .nil∨t = .full){t2:Tag}:rap true H ba 2 32 false (.slice t 2 []) (.slice t2 2 [])=some (.slice .full 2 [],H):=by
 rcases ht with rfl | rfl<;>rfl
theorem QU(hU:uN E){a b:List aq}{ta tb:Tag}(h0:0<a.length+b.length)(h:a.length+b.length≤4000000000)(H:List ae) :
  M.run eJ [.slice .full 1 [[.slice ta 2 (a.map aq.row)],[.slice tb 2 (b.map aq.row)]]] H=some (.ret (.rslice (H.length+2) 0 (a++b).length 2 true),H++[.dead,.dead,.cells (bU (a++b)) ba]):=by
 rw [aZ M hU.slices_Concat_api_Feat_api_Feat rfl (c:=dD) rfl,dD]
 have w1:IntKind.i64.wrap (0+(a.length:Int))=(a.length:Int):=by rw [eC (by omega) (by omega)];omega
 have w2:IntKind.i64.wrap ((a.length:Int)+(b.length:Int))=((a.length+b.length:Nat):Int):=by rw [eC (by omega) (by omega)];omega
 have w3:IntKind.i64.wrap (0+1)=1:=by decide
 have w4:IntKind.i64.wrap (1+1)=2:=by decide
 have d1:decide ((a.length:Int)<0)=false:=decide_eq_false (by omega)
 have d2:decide (((a.length+b.length:Nat):Int)<0)=false:=decide_eq_false (by omega)
 have i0:Bx 1 (.slice .full 1 [[.slice ta 2 (a.map aq.row)],[.slice tb 2 (b.map aq.row)]]) (.int .i64 0)=some (.vptr 1 [[.slice ta 2 (a.map aq.row)],[.slice tb 2 (b.map aq.row)]] 0 0):=rfl
 have i1:Bx 1 (.slice .full 1 [[.slice ta 2 (a.map aq.row)],[.slice tb 2 (b.map aq.row)]]) (.int .i64 1)=some (.vptr 1 [[.slice ta 2 (a.map aq.row)],[.slice tb 2 (b.map aq.row)]] 1 0):=rfl
 have n0:(([[.slice ta 2 (a.map aq.row)],[.slice tb 2 (b.map aq.row)]]:List (List AV)).length:Int)=2:=rfl
 have n1:decide ((0:Int)<2)=true:=rfl
 have n2:decide ((1:Int)<2)=true:=rfl
 have n3:decide ((2:Int)<2)=false:=rfl
 have g0:([[.slice ta 2 (a.map aq.row)],[.slice tb 2 (b.map aq.row)]]:List (List AV))[0]?=some [.slice ta 2 (a.map aq.row)]:=rfl
 have g1:([[.slice ta 2 (a.map aq.row)],[.slice tb 2 (b.map aq.row)]]:List (List AV))[1]?=some [.slice tb 2 (b.map aq.row)]:=rfl
 have l0:∀ x:AV,b8 none [x] 0=some x:=fun _=>rfl
 simp (maxSteps:=3000000) (maxDischargeDepth:=6) +contextual -implicitDefEqProofs only [amA M,amB,↓aj,↓ab,↓al,↓ak,Nat.reduceBEq,Nat.reduceAdd,env,ao,kn,n0,n1,n2,n3,g0,g1,l0,aw M gn.eq_1,aw M gp.eq_1,w1,w2,w3,w4,d1,d2,i0,i1,Uq M hU h0 h,SX (show a.length≤4000000000 by omega),Ur h]
end
section
attribute [local congr] aG ct bm aH a7 aN aI aA aC aO aP
variable{E:bB}(M:cT cU E)
def ddF:aq→List aq→List aq
 |_,[]=>[]
 |p,q::t=>if (q.name == p.name&&q.value == p.value)=true then ddF q t else q::ddF q t
def jkF:List aq→aq→List aq→List aq
 |mid,p,[]=>mid++[p]
 |mid,p,q::t=>if (q.name == p.name&&q.value == p.value)=true then jkF (mid++[p]) q t else jkF ((mid++[p]).tail) q t
def yU:List aq→List aq
 |[]=>[]
 |x::l=>x::ddF x l
theorem QV:∀ (t mid:List aq) (p:aq),(jkF mid p t).length+(ddF p t).length=mid.length+1+t.length
 |[],mid,p=>by simp [jkF,ddF]
 |q::t,mid,p=>by
  rw [jkF,ddF]
  split
  ·rw [QV t (mid++[p]) q];simp;omega
  ·rw [List.length_cons,← Nat.add_assoc,QV t ((mid++[p]).tail) q];simp;omega
theorem EA(A B:List aq)(q:aq)(rest:List AV){n:Nat}(h:n=A.length*2):b8 (some 2) (bU (A++q::B)++rest) n=some (.agg q.row):=by
 subst h
 have hl:=pP A
 have e:bU (A++q::B)++rest=bU A++(q.row++(bU B++rest)):=by rw [Ez];simp [bU]
 have hq:q.row.length=2:=rfl
 simp only [b8]
 rw [e,if_pos (by simp only [List.length_append,hl,hq];omega),← hl,List.drop_left,List.take_left' hq]
theorem Gg:∀ (A x y rest:List AV),x.length=y.length→aJ (A++(x++rest)) A.length y=A++(y++rest)
 |A,[],[],rest,_=>by simp [setRow_nil]
 |A,[],_::_,rest,h=>by cases h
 |A,_::_,[],rest,h=>by cases h
 |A,b::x,a::y,rest,h=>by
  rw [setRow_cons]
  have h2:(A++(b::x++rest)).set A.length a=(A++[a])++(x++rest):=by simp
  have:=Gg (A++[a]) x y rest (by simpa using h)
  rw [List.length_append,List.length_cons,List.length_nil,Nat.zero_add] at this
  rw [h2,this];simp
theorem QW(A B:List aq)(m q:aq)(rest:List AV){n:Nat}(h:n=A.length*2):aJ (bU (A++m::B)++rest) n q.row=bU (A++q::B)++rest:=by
 subst h
 have e:∀ m:aq,bU (A++m::B)++rest=bU A++(m.row++(bU B++rest)):=fun m=>by rw [Ez];simp [bU]
 rw [e,e,← pP A,Gg (bU A) m.row q.row (bU B++rest) rfl]
theorem Lk{id off len n:Nat}{room:Bool}(h:n<len):Bx 2 (.rslice id off len 2 room) (.int .i64 (n:Int))=some (.ptr id (off+n*2)):=by simp [Bx,h]
theorem EB{g:Option Nat}{H:List ae}{id n:Nat}{cs:List AV}{T:TypeId}(h:H[id]?=some (.cells cs T)):pI g H (.ptr id n)=b8 g cs n:=by simp [pI,h]
theorem RI{H:List ae}{id:Nat}(h:id<H.length)(o:ae):(H.set id o)[id]?=some o:=by simp [h]
theorem Hx(n:Nat)(L:List aq)(rest:List AV)(hr:∀ c∈rest,Wk n c c)(T:TypeId):Rp n (.cells (bU L++rest) T):=fun c hc=>by
 rcases List.mem_append.1 hc with h | h
 ·unfold bU at h
  obtain ⟨r,hr1,hr2⟩:=List.mem_flatten.1 h
  obtain ⟨f,_,rfl⟩:=List.mem_map.1 hr1
  simp only [aq.row,List.mem_cons,List.not_mem_nil,or_false] at hr2
  rcases hr2 with rfl | rfl<;>exact wk_str _ _
 ·exact hr c h
theorem cpi(hU:uN E){H H0:List ae}{id:Nat}(hid:id<H.length){T:TypeId}{rest:List AV}(k:List Fra){n off:Nat}(hn:n≤4000000000) :
  ∀ (t out mid:List aq) (p:aq) (k2:Nat) (He:List ae),out.length+mid.length+1=off+k2→out.length+mid.length+1+t.length=n→1≤k2 →
  M.go aV H0 (.c bY :: .lp ⟨(some [0,3,4,5]),[],false⟩ bY He :: .blk 2 :: .c (.lv [0,3])::k) (kv [(0,.rslice id 0 n 2 true),(3,.int .i64 out.length),(4,.rslice id (off*2) (n-off) 2 true),(5,.int .i64 k2)]) (H.set id (.cells (bU (out++(mid++p::t))++rest) T)) =
   M.go aV H0 k (kv [(0,.rslice id 0 n 2 true),(3,.int .i64 (out++ddF p t).length)]) (H.set id (.cells (bU ((out++ddF p t)++jkF mid p t)++rest) T))
 |[],out,mid,p,k2,He,h1,h2,h3=>by
  have d:decide (k2<n-off)=false:=decide_eq_false (by simp at h2;omega)
  have e:bU ((out++ddF p [])++jkF mid p [])=bU (out++(mid++[p])):=by simp [ddF,jkF]
  rw [e,show out++ddF p []=out by simp [ddF]]
  rw [aw M bY.eq_1]
  simp (maxSteps:=3000000) (maxDischargeDepth:=6) +contextual -implicitDefEqProofs only [amA M,amB,↓aj,↓ab,↓al,↓ak,Nat.reduceBEq,Nat.reduceAdd,env,ao,bb,d,By]
 |q::t,out,mid,p,k2,He,h1,h2,h3=>by
  simp only [List.length_cons] at h2
  have d:decide (k2<n-off)=true:=decide_eq_true (by omega)
  have b1:IntKind.i64.wrap ((k2:Int)-1)=((k2-1:Nat):Int):=by rw [eC (by omega) (by omega)];omega
  have b2:IntKind.i64.wrap ((k2:Int)+1)=((k2+1:Nat):Int):=by rw [eC (by omega) (by omega)];omega
  have b3:IntKind.i64.wrap ((out.length:Int)+1)=((out.length+1:Nat):Int):=by rw [eC (by omega) (by omega)];omega
  have i1:Bx 2 (.rslice id (off*2) (n-off) 2 true) (.int .i64 (k2:Int))=some (.ptr id (off*2+k2*2)):=Lk (by omega)
  have i2:Bx 2 (.rslice id (off*2) (n-off) 2 true) (.int .i64 ((k2-1:Nat):Int))=some (.ptr id (off*2+(k2-1)*2)):=Lk (by omega)
  have i3:Bx 2 (.rslice id 0 n 2 true) (.int .i64 (out.length:Int))=some (.ptr id (0+out.length*2)):=Lk (by omega)
  have hg:∀ c,(H.set id c)[id]?=some c:=fun c=>RI hid c
  have l1:b8 (some 2) (bU (out++(mid++p::q::t))++rest) (off*2+k2*2)=some (.agg q.row):=by
   have:=EA (out++(mid++[p])) t q rest (n:=off*2+k2*2) (by simp;omega)
   simpa [List.append_assoc] using this
  have l2:b8 (some 2) (bU (out++(mid++p::q::t))++rest) (off*2+(k2-1)*2)=some (.agg p.row):=by
   have:=EA (out++mid) (q::t) p rest (n:=off*2+(k2-1)*2) (by simp;omega)
   simpa [List.append_assoc] using this
  cases hqp:(q.name == p.name&&q.value == p.value) with
  |true=>
   have ih:=fun He=>cpi hU (H:=H) (H0:=H0) hid (T:=T) (rest:=rest) k (off:=off) hn t out (mid++[p]) q (k2+1) He (by simp;omega) (by simp;omega) (by omega)
   simp only [kv_cons,kv_nil,List.append_assoc,List.cons_append,List.nil_append] at ih
   rw [ddF,if_pos hqp,jkF,if_pos hqp,List.append_assoc out (ddF q t)]
   rw [aw M bY.eq_1]
   simp (maxSteps:=3000000) (maxDischargeDepth:=6) +contextual -implicitDefEqProofs only [amA M,amB,↓aj,↓ab,↓al,↓ak,Nat.reduceBEq,Nat.reduceAdd,env,ao,bb,d,By,b1,b2,i1,i2,hg,l1,l2,EB (hg _),Ea,hqp,ih]
  |false=>
   have hne:¬ ((q.name == p.name&&q.value == p.value)=true):=by rw [hqp];simp
   obtain ⟨m0,mid',hm⟩:∃ m0 mid',mid++[p]=m0::mid':=by cases mid with
    |nil=>exact ⟨p,[],rfl⟩
    |cons a b=>exact ⟨a,b++[p],rfl⟩
   have hml:mid'.length=mid.length:=by have:=congrArg List.length hm;simp at this;omega
   have ih:=fun He=>cpi hU (H:=H) (H0:=H0) hid (T:=T) (rest:=rest) k (off:=off) hn t (out++[q]) mid' q (k2+1) He (by simp;omega) (by simp;omega) (by omega)
   have hst:aJ (bU (out++(mid++p::q::t))++rest) (0+out.length*2) q.row=bU ((out++[q])++(mid'++q::t))++rest:=by
    have e1:out++(mid++p::q::t)=out++m0::(mid'++q::t):=by
     have:mid++p::q::t=(mid++[p])++q::t:=by simp
     rw [this,hm];rfl
    rw [e1,QW out (mid'++q::t) m0 q rest (by omega)];simp
   have hlen:0+out.length*2+2≤(bU (out++(mid++p::q::t))++rest).length:=by
    rw [List.length_append,pP];simp;omega
   rw [ddF,if_neg hne,jkF,if_neg hne,hm,List.tail_cons]
   simp only [kv_cons,kv_nil,List.length_append,List.length_cons,List.length_nil,Nat.zero_add] at ih
   rw [show out++q::ddF q t=(out++[q])++ddF q t by simp,show ((out++[q])++ddF q t).length=out.length+1+(ddF q t).length by simp;omega]
   have hss:∀ a b,(H.set id a).set id b=H.set id b:=fun a b=>by rw [List.set_set]
   rw [aw M bY.eq_1]
   have hsto:stO 2 (H.set id (.cells (bU (out++(mid++p::q::t))++rest) T)) id (0+out.length*2) q.row (some (.cells (bU (out++(mid++p::q::t))++rest) T))=some (H.set id (.cells (bU ((out++[q])++(mid'++q::t))++rest) T)):=by
    simp only [stO]
    rw [if_pos ⟨rfl,hlen,rfl⟩,hst,hss]
   simp (maxSteps:=3000000) (maxDischargeDepth:=6) +contextual -implicitDefEqProofs only [amA M,amB,↓aj,↓ab,↓al,↓ak,Nat.reduceBEq,Nat.reduceAdd,env,ao,bb,d,By,b1,b2,b3,i1,i2,i3,hg,l1,l2,EB (hg _),Ea,hqp,hsto,(show ∀ H,Fv (some H)=some (jh,H) from fun _=>rfl),ih]
theorem VI{H0 H:List ae}(h:dG H0 H)(id:Nat){o:ae}(hw:Rp H0.length o):dG H0 (H.set id o):=by
 refine ⟨by simpa using h.1,fun i x hi hx => ?_⟩
 rw [List.getElem?_set] at hx
 split at hx
 ·split at hx
  ·cases hx;exact .inr hw
  ·cases hx
 ·exact h.2 i x hi hx
def cpR(M:cT cU E)(H0:List ae)(k:List Fra)(id:Nat)(T:TypeId)(rest:List AV)(H:List ae)(n:Nat):List aq→aq→List aq→Option Out
 |_,_,[]=>M.go aV H0 k (kv [(0,.rslice id 0 n 2 true)]) H
 |out,p,q::t=>if (q.name == p.name&&q.value == p.value)=true then
   some (.ret (.rslice id 0 (out++p::ddF q t).length 2 true),(H.set id (.cells (bU (out++p::ddF q t)++(nE (n-(out++p::ddF q t).length)++rest)) T)).take H0.length)
  else cpR M H0 k id T rest H n (out++[p]) q t
theorem cpo(hU:uN E){H H0:List ae}{id:Nat}(hid:id<H.length)(hi0:id<H0.length)(hc:dG H0 H){T:TypeId}{rest:List AV}(hr:∀ c∈rest,Wk H0.length c c)(k:List Fra){l:List aq}(hn:l.length≤4000000000)(hx:H[id]?=some (.cells (bU l++rest) T)) :
  ∀ (t out:List aq) (p:aq) (He:List ae),l=out++p::t →
  M.go aV H0 (.c bZ :: .lp ⟨(some [0,3]),[],false⟩ bZ He :: .blk 0 :: .c (.lv [0])::k) (kv [(0,.rslice id 0 l.length 2 true),(3,.int .i64 (out.length+1:Nat))]) H=cpR M H0 k id T rest H l.length out p t
 |[],out,p,He,hl=>by
  have d:decide (out.length+1<l.length)=false:=decide_eq_false (by rw [hl];simp)
  rw [cpR]
  rw [aw M bZ.eq_1]
  simp (maxSteps:=3000000) (maxDischargeDepth:=6) +contextual -implicitDefEqProofs only [amA M,amB,↓aj,↓ab,↓al,↓ak,Nat.reduceBEq,Nat.reduceAdd,env,ao,bb,d,By]
 |q::t,out,p,He,hl=>by
  have hll:l.length=out.length+1+(t.length+1):=by rw [hl];simp;omega
  have d:decide (out.length+1<l.length)=true:=decide_eq_true (by omega)
  have b1:IntKind.i64.wrap (((out.length+1:Nat):Int)-1)=((out.length:Nat):Int):=by rw [eC (by omega) (by omega)];omega
  have b2:IntKind.i64.wrap (((out.length+1:Nat):Int)+1)=((out.length+1+1:Nat):Int):=by rw [eC (by omega) (by omega)];omega
  have i1:Bx 2 (.rslice id 0 l.length 2 true) (.int .i64 ((out.length+1:Nat):Int))=some (.ptr id (0+(out.length+1)*2)):=Lk (by omega)
  have i2:Bx 2 (.rslice id 0 l.length 2 true) (.int .i64 ((out.length:Nat):Int))=some (.ptr id (0+out.length*2)):=Lk (by omega)
  have l1:b8 (some 2) (bU l++rest) (0+(out.length+1)*2)=some (.agg q.row):=by
   have:=EA (out++[p]) t q rest (n:=0+(out.length+1)*2) (by simp)
   rw [hl];simpa [List.append_assoc] using this
  have l2:b8 (some 2) (bU l++rest) (0+out.length*2)=some (.agg p.row):=by
   rw [hl];exact EA out (q::t) p rest (by omega)
  cases hqp:(q.name == p.name&&q.value == p.value) with
  |true=>
   rw [cpR,if_pos hqp]
   have hin:=fun k He=>cpi M hU (H:=H) (H0:=H0) hid (T:=T) (rest:=rest) k (n:=l.length) (off:=out.length+1) hn t (out++[p]) [] q 1 He (by simp) (by simp;omega) (by omega)
   have hl2:l=(out++[p])++([]++q::t):=by rw [hl];simp
   have hs:H.set id (.cells (bU ((out++[p])++([]++q::t))++rest) T)=H:=by rw [← hl2];exact Aa hx
   have ho:(out++[p]).length=out.length+1:=by simp
   simp only [hs,ho,(show ((1:Nat):Int)=1 from rfl)] at hin
   simp only [kv_cons,kv_nil] at hin
   generalize hK:(out++[p])++ddF q t=K at hin
   have hjk:=QV t [] q
   have hKl:K.length+(jkF [] q t).length=l.length:=by rw [← hK,hll];simp;simp at hjk;omega
   have hjp:0<(jkF [] q t).length:=by
    have:(ddF q t).length≤t.length:=by
     have key:∀ (t:List aq) (q:aq),(ddF q t).length≤t.length:=fun t=>by
      induction t with
      |nil=>intro q;simp [ddF]
      |cons a t ih=>
       intro q;rw [ddF];have:=ih a;split<;>simp<;>omega
     exact key t q
    simp at hjk;omega
   have hKp:0<K.length:=by rw [← hK];simp;omega
   have s1:EH 2 (.rslice id 0 l.length 2 true) (some (.int .i64 ((out.length+1:Nat):Int))) none none=some (.rslice id ((out.length+1)*2) (l.length-(out.length+1)) 2 true):=by
    simp only [EH,fH]
    rw [if_pos (by omega),Int.toNat_natCast]
    simp only []
    rw [if_pos ⟨trivial,.inl (by omega),Nat.le_refl _⟩,Nat.zero_add]
   have s2:EH 2 (.rslice id 0 l.length 2 true) (some (.int .i64 (K.length:Int))) none none=some (.rslice id (K.length*2) (l.length-K.length) 2 true):=by
    simp only [EH,fH]
    rw [if_pos (by omega),Int.toNat_natCast]
    simp only []
    rw [if_pos ⟨trivial,.inl (by omega),Nat.le_refl _⟩,Nat.zero_add]
   have s3:EH 2 (.rslice id 0 l.length 2 true) none (some (.int .i64 (K.length:Int))) none=some (.rslice id 0 K.length 2 true):=by
    simp only [EH,fH]
    rw [if_pos (by omega),Int.toNat_natCast]
    simp only []
    rw [if_pos ⟨trivial,.inl (by omega),by omega⟩];simp
   have hcl:rcl (H.set id (.cells (bU (K++jkF [] q t)++rest) T)) 2 [.str [],.str []] (.rslice id (K.length*2) (l.length-K.length) 2 true)=some (H.set id (.cells (bU K++(nE (l.length-K.length)++rest)) T)):=by
    simp only [rcl,RI hid]
    rw [if_pos ⟨trivial,by rw [List.length_append,pP,List.length_append];omega⟩,List.set_set]
    have e:bU (K++jkF [] q t)++rest=bU K++(bU (jkF [] q t)++rest):=by rw [Ez];simp
    have:=Gg (bU K) (bU (jkF [] q t)) (nE (l.length-K.length)) rest (by rw [pP,QT];omega)
    rw [pP] at this
    rw [e]
    show some (H.set id (.cells (aJ _ _ (nE (l.length-K.length))) T))=_
    rw [this]
   have hcut:dG H0 (H.set id (.cells (bU K++(nE (l.length-K.length)++rest)) T)):=VI hc id (Hx _ K _ (fun c hcm=>by
    rcases List.mem_append.1 hcm with h | h
    ·rw [Jc] at h
     exact Hx _ _ [] (fun _ h=>by cases h) T c (by simpa using h)
    ·exact hr c h) T)
   have hfin:vq cU .drop H0 (H.set id (.cells (bU K++(nE (l.length-K.length)++rest)) T)) (.rslice id 0 K.length 2 true)=some (.rslice id 0 K.length 2 true,(H.set id (.cells (bU K++(nE (l.length-K.length)++rest)) T)).take H0.length):=handV_drop hcut (wk_rslice hi0)
   have hK2:out++p::ddF q t=K:=by rw [← hK];simp
   rw [hK2]
   rw [aw M bZ.eq_1]
   simp (maxSteps:=3000000) (maxDischargeDepth:=6) +contextual -implicitDefEqProofs only [amA M,amB,↓aj,↓ab,↓al,↓ak,Nat.reduceBEq,Nat.reduceAdd,env,ao,bb,amZ,d,By,b1,i1,i2,hx,l1,l2,EB hx,Ea,hqp,s1,s2,s3,hin,hcl,hfin]
  |false=>
   have hne:¬ ((q.name == p.name&&q.value == p.value)=true):=by rw [hqp];simp
   rw [cpR,if_neg hne]
   have ih:=fun He=>cpo hU (H0:=H0) hid hi0 hc hr k hn hx t (out++[p]) q He (by rw [hl];simp)
   have ho:(out++[p]).length=out.length+1:=by simp
   simp only [kv_cons,kv_nil,ho] at ih
   rw [aw M bZ.eq_1]
   simp (maxSteps:=3000000) (maxDischargeDepth:=6) +contextual -implicitDefEqProofs only [amA M,amB,↓aj,↓ab,↓al,↓ak,Nat.reduceBEq,Nat.reduceAdd,env,ao,bb,d,By,b1,b2,i1,i2,hx,l1,l2,EB hx,Ea,hqp,ih]
end
def Gh(l:List aq):Prop:=l.Pairwise fun x y=>Op.bytesLess x.name y.name=true
def Wek(l:List aq):Prop:=l.Pairwise fun x y=>Op.bytesLess y.name x.name=false
theorem Ei:∀ {l:List aq},zG l=true→Gh l
 |[],_=>.nil
 |x::l,h=>.cons (vU h) (Ei (Bi h))
theorem Ll{x y:aq}(h:(x.name == y.name&&x.value == y.value)=true):x=y:=by
 simp only [Bool.and_eq_true,beq_iff_eq] at h
 cases x;cases y;simp only at h;rw [h.1,h.2]
theorem QX(x:aq):(x.name == x.name&&x.value == x.value)=true:=by simp
theorem Pw{l:List aq}(h:Gh l){x y:aq}(hx:x∈l)(hy:y∈l)(hn:x.name=y.name):x=y:=by
 induction l with
 |nil=>cases hx
 |cons a l ih=>
  rw [Gh,List.pairwise_cons] at h
  rcases List.mem_cons.1 hx with hx1 | hx1<;>rcases List.mem_cons.1 hy with hy1 | hy1
  ·rw [hx1,hy1]
  ·have:=h.1 y hy1;rw [← hx1,hn,Ec] at this;cases this
  ·have:=h.1 x hx1;rw [← hy1,hn,Ec] at this;cases this
  ·exact ih h.2 hx1 hy1
theorem RJ:∀ {l m:List aq},Gh l→Gh m→(∀ x,x∈l↔x∈m)→l=m
 |[],[],_,_,_=>rfl
 |[],y::m,_,_,h=>by have:=(h y).2 (by simp);cases this
 |x::l,[],_,_,h=>by have:=(h x).1 (by simp);cases this
 |x::l,y::m,hl,hm,h=>by
  rw [Gh,List.pairwise_cons] at hl hm
  have hxy:x=y:=by
   rcases List.mem_cons.1 ((h x).1 (by simp)) with e | h1
   ·exact e
   ·rcases List.mem_cons.1 ((h y).2 (by simp)) with e | h2
    ·exact e.symm
    ·have a1:=hm.1 x h1
     have a2:=hl.1 y h2
     rw [T5 a1] at a2;cases a2
  subst hxy
  congr 1
  refine RJ hl.2 hm.2 fun z=>⟨fun hz => ?_,fun hz => ?_⟩
  ·rcases List.mem_cons.1 ((h z).1 (by simp [hz])) with e | h1
   ·have:=hl.1 z hz;rw [e,Ec] at this;cases this
   ·exact h1
  ·rcases List.mem_cons.1 ((h z).2 (by simp [hz])) with e | h1
   ·have:=hm.1 z hz;rw [e,Ec] at this;cases this
   ·exact h1
theorem yV:∀ (n:Nat) (a b m:List aq),a.length+b.length≤n→Gh a→Gh b→kz a b=some m→(∀ x,x∈m↔x∈a∨x∈b)∧Gh m
 |_,[],b,m,_,_,hb,h=>by
  have:kz [] b=some b:=by cases b<;>simp [kz]
  rw [this] at h;cases h
  exact ⟨fun x=>by simp,hb⟩
 |_,x::a,[],m,_,ha,_,h=>by
  have:kz (x::a) []=some (x::a):=by simp [kz]
  rw [this] at h;cases h
  exact ⟨fun x=>by simp,ha⟩
 |0,x::a,y::b,m,hl,_,_,_=>by simp at hl
 |n+1,x::a,y::b,m,hl,ha,hb,h=>by
  have ha':=ha;have hb':=hb
  rw [Gh,List.pairwise_cons] at ha hb
  simp only [List.length_cons] at hl
  rw [kz] at h
  cases c1:Op.bytesLess x.name y.name with
  |true=>
   rw [c1] at h
   simp only [Option.map_eq_some_iff] at h
   obtain ⟨m',h1,rfl⟩:=h
   obtain ⟨g1,g2⟩:=yV n a (y::b) m' (by simp only [List.length_cons];omega) ha.2 hb' h1
   refine ⟨fun z=>by rw [List.mem_cons,g1,List.mem_cons (a:=z) (b:=x),or_assoc],List.pairwise_cons.2 ⟨fun z hz => ?_,g2⟩⟩
   rcases (g1 z).1 hz with h | h
   ·exact ha.1 z h
   ·rcases List.mem_cons.1 h with rfl | h
    ·exact c1
    ·exact qL c1 (hb.1 z h)
  |false=>
   rw [c1] at h
   simp only at h
   cases c2:Op.bytesLess y.name x.name with
   |true=>
    rw [c2] at h
    simp only [Option.map_eq_some_iff] at h
    obtain ⟨m',h1,rfl⟩:=h
    obtain ⟨g1,g2⟩:=yV n (x::a) b m' (by simp only [List.length_cons];omega) ha' hb.2 h1
    refine ⟨fun z=>by rw [List.mem_cons,g1,List.mem_cons (a:=z) (b:=y) (l:=b)];exact or_left_comm,List.pairwise_cons.2 ⟨fun z hz => ?_,g2⟩⟩
    rcases (g1 z).1 hz with h | h
    ·rcases List.mem_cons.1 h with rfl | h
     ·exact c2
     ·exact qL c2 (ha.1 z h)
    ·exact hb.1 z h
   |false=>
    rw [c2] at h
    simp only at h
    have hn:=K9 c1 c2
    cases c3:(x.name == y.name&&x.value == y.value) with
    |false=>rw [c3] at h;cases h
    |true=>
     rw [c3] at h
     simp only [Option.map_eq_some_iff] at h
     obtain ⟨m',h1,rfl⟩:=h
     have hxy:=Ll c3
     subst hxy
     obtain ⟨g1,g2⟩:=yV n a b m' (by omega) ha.2 hb.2 h1
     refine ⟨fun z=>by rw [List.mem_cons,g1,List.mem_cons (a:=z) (b:=x) (l:=a),List.mem_cons (a:=z) (b:=x) (l:=b)];exact or_or_distrib_left,List.pairwise_cons.2 ⟨fun z hz => ?_,g2⟩⟩
     rcases (g1 z).1 hz with h | h
     ·exact ha.1 z h
     ·exact hb.1 z h
theorem QY:∀ (l:List aq) (p q:aq),q∈p::ddF p l↔q∈p::l
 |[],p,q=>by simp [ddF]
 |r::t,p,q=>by
  rw [ddF]
  split
  ·rename_i h
   obtain rfl:=Ll h
   rw [QY t r q];simp
  ·rw [List.mem_cons,QY t r q,List.mem_cons (a:=q) (b:=p)]
theorem Us:∀ (l:List aq) (p:aq),Wek (p::l)→(∀ x∈p::l,∀ y∈p::l,x.name=y.name→x=y)→Gh (p::ddF p l)
 |[],p,_,_=>by simp [ddF,Gh]
 |q::t,p,hw,hu=>by
  have hw':=hw
  rw [Wek,List.pairwise_cons] at hw
  have ih:=Us t q hw.2 (fun x hx y hy=>hu x (by simp at hx ⊢;exact .inr hx) y (by simp at hy ⊢;exact .inr hy))
  rw [ddF]
  split
  ·rename_i h
   obtain rfl:=Ll h
   exact ih
  ·rename_i h
   have hpq:Op.bytesLess p.name q.name=true:=by
    have h1:=hw.1 q (by simp)
    cases h2:Op.bytesLess p.name q.name with
    |true=>rfl
    |false=>
     have:=hu p (by simp) q (by simp) (K9 h2 h1)
     subst this
     exact absurd (QX p) h
   refine List.pairwise_cons.2 ⟨fun z hz => ?_,ih⟩
   rcases List.mem_cons.1 hz with rfl | hz
   ·exact hpq
   ·exact qL hpq ((List.pairwise_cons.1 ih).1 z hz)
structure Srt (srt:List aq→List aq):Prop where
 perm:∀ l,(srt l).Perm l
 ord:∀ l,Wek (srt l)
theorem Ut{a b:List aq}(ha:Gh a)(hb:Gh b)(hc:lA a b=false):∀ x∈a++b,∀ y∈a++b,x.name=y.name→x=y:=by
 have hab:∀ x∈a,∀ y∈b,x.name=y.name→x=y:=fun x hx y hy hn=>by
  have h1:(b.any fun g=>jS x g)=false:=by
   unfold lA at hc
   rw [List.any_eq_false] at hc
   have:=hc x hx
   simpa using this
  rw [List.any_eq_false] at h1
  have h2:=h1 y hy
  simp only [jS,hn,beq_self_eq_true,Bool.true_and,Bool.not_eq_true,Bool.not_eq_false'] at h2
  cases x;cases y;simp only at hn h2;rw [hn,eq_of_beq h2]
 intro x hx y hy hn
 rcases List.mem_append.1 hx with hx | hx<;>rcases List.mem_append.1 hy with hy | hy
 ·exact Pw ha hx hy hn
 ·exact hab x hx y hy hn
 ·exact (hab y hy x hx hn.symm).symm
 ·exact Pw hb hx hy hn
theorem QZ{srt:List aq→List aq}(hs:Srt srt){l:List aq}(hu:∀ x∈l,∀ y∈l,x.name=y.name→x=y):(∀ x,x∈yU (srt l)↔x∈l)∧Gh (yU (srt l)):=by
 have hp:=hs.perm l
 have ho:=hs.ord l
 generalize srt l=s at hp ho
 have hm:∀ x,x∈s↔x∈l:=fun x=>hp.mem_iff
 cases s with
 |nil=>exact ⟨fun x=>by rw [← hm];rfl,.nil⟩
 |cons p s=>exact ⟨fun x=>by rw [← hm];exact QY s p x,Us s p ho fun x hx y hy=>hu x ((hm x).1 hx) y ((hm y).1 hy)⟩
def Q0(srt:List aq→List aq)(a b:List aq):Option (List aq):=sel (zG a&&zG b && !lA a b) (some (yU (srt (a++b)))) none
theorem Uu{srt:List aq→List aq}(hs:Srt srt)(a b:List aq):Q0 srt a b=Eb a b:=by
 unfold Q0 Eb
 cases ha:zG a with
 |false=>rfl
 |true=>
  cases hb:zG b with
  |false=>rfl
  |true=>
   have hc:=uK _ a b (Nat.le_refl _) ha hb
   simp only [Bool.true_and,sel]
   cases hcl:lA a b with
   |true=>
    rw [hcl] at hc
    cases hm:kz a b with
    |none=>rfl
    |some m=>rw [hm] at hc;cases hc
   |false=>
    rw [hcl] at hc
    cases hm:kz a b with
    |none=>rw [hm] at hc;cases hc
    |some m=>
     obtain ⟨g1,g2⟩:=yV _ a b m (Nat.le_refl _) (Ei ha) (Ei hb) hm
     obtain ⟨g3,g4⟩:=QZ hs (Ut (Ei ha) (Ei hb) hcl)
     simp only [Bool.not_false]
     congr 1
     exact RJ g4 g2 fun x=>by rw [g3,g1,List.mem_append]
theorem EC:∀ (n:Nat) (a b m:List aq),a.length+b.length≤n→kz a b=some m→m.length≤a.length+b.length
 |_,[],b,m,_,h=>by
  have:kz [] b=some b:=by cases b<;>simp [kz]
  rw [this] at h;cases h;simp
 |_,x::a,[],m,_,h=>by
  have:kz (x::a) []=some (x::a):=by simp [kz]
  rw [this] at h;cases h;simp
 |0,x::a,y::b,m,hl,_=>by simp at hl
 |n+1,x::a,y::b,m,hl,h=>by
  simp only [List.length_cons] at hl
  rw [kz] at h
  split at h
  ·simp only [Option.map_eq_some_iff] at h
   obtain ⟨m',h1,rfl⟩:=h
   have:=EC n a (y::b) m' (by simp only [List.length_cons];omega) h1
   simp only [List.length_cons] at this ⊢;omega
  ·split at h
   ·simp only [Option.map_eq_some_iff] at h
    obtain ⟨m',h1,rfl⟩:=h
    have:=EC n (x::a) b m' (by simp only [List.length_cons];omega) h1
    simp only [List.length_cons] at this ⊢;omega
   ·split at h
    ·simp only [Option.map_eq_some_iff] at h
     obtain ⟨m',h1,rfl⟩:=h
     have:=EC n a b m' (by omega) h1
     simp only [List.length_cons];omega
    ·cases h
section
attribute [local congr] aG ct bm aH a7 aN aI aA aC aO aP
variable{E:bB}(M:cT cU E)
theorem Uv{H0:List ae}{k:List Fra}{id:Nat}{T:TypeId}{rest:List AV}{H:List ae}{l:List aq}(hx:H[id]?=some (.cells (bU l++rest) T))
  (hk:M.go aV H0 k (kv [(0,.rslice id 0 l.length 2 true)]) H=some (.ret (.rslice id 0 l.length 2 true),H.take H0.length)) :
  ∀ (t out:List aq) (p:aq),l=out++p::t→cpR M H0 k id T rest H l.length out p t=some (.ret (.rslice id 0 (out++p::ddF p t).length 2 true),(H.set id (.cells (bU (out++p::ddF p t)++(nE (l.length-(out++p::ddF p t).length)++rest)) T)).take H0.length)
 |[],out,p,hl=>by
  rw [cpR,hk,ddF,← hl,Nat.sub_self,show nE 0=[] from rfl,List.nil_append,Aa hx]
 |q::t,out,p,hl=>by
  rw [cpR,ddF]
  split
  ·rfl
  ·have:=Uv hx hk t (out++[p]) q (by rw [hl];simp)
   rw [this]
   simp only [List.append_assoc,List.cons_append,List.nil_append]
theorem Px(hU:uN E){l:List aq}(h0:0<l.length)(hn:l.length≤4000000000){H:List ae}{id:Nat}{T:TypeId}{rest:List AV}(hr:∀ c∈rest,Wk H.length c c)(hx:H[id]?=some (.cells (bU l++rest) T)) :
  M.run er [.rslice id 0 l.length 2 true] H=some (.ret (.rslice id 0 (yU l).length 2 true),H.set id (.cells (bU (yU l)++(nE (l.length-(yU l).length)++rest)) T)):=by
 have hid:id<H.length:=(List.getElem?_eq_some_iff.1 hx).1
 have hw:∀ n,vq cU .drop H H (.rslice id 0 n 2 true)=some (.rslice id 0 n 2 true,H.take H.length):=fun n=>handV_drop (cut_refl H) (wk_rslice hid)
 match l,h0,hn,hx with
 |[x],_,_,hx=>
  rw [aZ M hU.slices_Compact_api_Feat_api_Feat rfl (c:=bO) rfl,bO]
  have e:yU [x]=[x]:=rfl
  have hs:H.set id (.cells (bU [x]++(nE ([x].length-[x].length)++rest)) T)=H:=by rw [Nat.sub_self];exact Aa hx
  rw [e,hs]
  simp (maxSteps:=3000000) (maxDischargeDepth:=6) +contextual -implicitDefEqProofs only [amA M,amB,↓aj,↓ab,↓al,↓ak,Nat.reduceBEq,Nat.reduceAdd,env,ao,bb,By,hw,(show decide ([x].length<2)=true from rfl),(show decide ((([x].length:Nat):Int)<2)=true from rfl)]
 |x::y::t,_,hn,hx=>
  rw [aZ M hU.slices_Compact_api_Feat_api_Feat rfl (c:=bO) rfl,bO]
  generalize hl:x::y::t=l at *
  have d:decide ((l.length:Int)<2)=false:=decide_eq_false (by rw [← hl];simp;omega)
  have h1:=fun k He=>cpo M hU (H:=H) (H0:=H) hid hid (cut_refl H) (T:=T) (rest:=rest) hr k (l:=l) hn hx (y::t) [] x He (by rw [← hl];rfl)
  simp only [kv_cons,kv_nil,List.length_nil,Nat.zero_add,(show ((1:Nat):Int)=1 from rfl)] at h1
  have hk:M.go aV H [.c (Sh.Q (Sh.O [Sh.m 60 0,Sh.m 2 60]) Sh.R)] (kv [(0,.rslice id 0 l.length 2 true)]) H=some (.ret (.rslice id 0 l.length 2 true),H.take H.length):=by
   simp only [kv_cons,kv_nil]
   simp (maxSteps:=3000000) (maxDischargeDepth:=6) +contextual -implicitDefEqProofs only [amA M,amB,↓aj,↓ab,↓al,↓ak,Nat.reduceBEq,Nat.reduceAdd,env,ao,bb,hw]
  have h2:=Uv M (rest:=rest) hx hk (y::t) [] x (by rw [← hl];rfl)
  have hc:yU l=[]++x::ddF x (y::t):=by rw [← hl];rfl
  rw [← hc,List.take_of_length_le (by simp)] at h2
  simp (maxSteps:=3000000) (maxDischargeDepth:=6) +contextual -implicitDefEqProofs only [amA M,amB,↓aj,↓ab,↓al,↓ak,Nat.reduceBEq,Nat.reduceAdd,env,ao,bb,By,d,h1]
  exact h2
theorem Py(hU:uN E){ta tb:Tag}(H:List ae) :
  M.run eJ [.slice .full 1 [[.slice ta 2 []],[.slice tb 2 []]]] H=some (.ret (.slice .full 2 []),H):=by
 rw [aZ M hU.slices_Concat_api_Feat_api_Feat rfl (c:=dD) rfl,dD]
 have w1:IntKind.i64.wrap (0+0)=0:=by decide
 have w3:IntKind.i64.wrap (0+1)=1:=by decide
 have w4:IntKind.i64.wrap (1+1)=2:=by decide
 have d1:decide ((0:Int)<0)=false:=rfl
 have i0:Bx 1 (.slice .full 1 [[.slice ta 2 []],[.slice tb 2 []]]) (.int .i64 0)=some (.vptr 1 [[.slice ta 2 []],[.slice tb 2 []]] 0 0):=rfl
 have i1:Bx 1 (.slice .full 1 [[.slice ta 2 []],[.slice tb 2 []]]) (.int .i64 1)=some (.vptr 1 [[.slice ta 2 []],[.slice tb 2 []]] 1 0):=rfl
 have n0:(([[.slice ta 2 []],[.slice tb 2 []]]:List (List AV)).length:Int)=2:=rfl
 have n1:decide ((0:Int)<2)=true:=rfl
 have n2:decide ((1:Int)<2)=true:=rfl
 have n3:decide ((2:Int)<2)=false:=rfl
 have g0:([[.slice ta 2 []],[.slice tb 2 []]]:List (List AV))[0]?=some [.slice ta 2 []]:=rfl
 have g1:([[.slice ta 2 []],[.slice tb 2 []]]:List (List AV))[1]?=some [.slice tb 2 []]:=rfl
 have l0:∀ x:AV,b8 none [x] 0=some x:=fun _=>rfl
 have e0:(((List.length ([]:List (List AV))):Nat):Int)=0:=rfl
 simp (maxSteps:=3000000) (maxDischargeDepth:=6) +contextual -implicitDefEqProofs only [amA M,amB,↓aj,↓ab,↓al,↓ak,Nat.reduceBEq,Nat.reduceAdd,env,ao,kn,n0,n1,n2,n3,g0,g1,l0,e0,aw M gn.eq_1,aw M gp.eq_1,w1,w3,w4,d1,i0,i1,SV M hU,M3 (.inl rfl),M3 (.inr rfl)]
structure vw (M:cT cU E) (srt:List aq→List aq):Prop where
 none:∀ H,M.run bp [.slice .full 2 [],.fn (.func gv) [] []] H=some (.ret (.tuple []),H)
 some:∀ {l:List aq}{H:List ae}{id:Nat}{T:TypeId},0<l.length→l.length≤4000000000→H[id]? = .some (.cells (bU l) T) →
  M.run bp [.rslice id 0 l.length 2 true,.fn (.func gv) [] []] H = .some (.ret (.tuple []),H.set id (.cells (bU (srt l)) T))
 len:∀ l,(srt l).length=l.length
theorem Lm:∀ (l:List aq) (rest:List AV),kW 2 l.length (bU l++rest)=l.map aq.row
 |[],_=>rfl
 |x::l,rest=>by
  have e:bU (x::l)++rest=x.row++(bU l++rest):=by simp [bU]
  rw [e,List.length_cons,kW]
  show x.row::kW 2 l.length (bU l++rest)=_
  rw [Lm l rest];rfl
theorem Pz(H:List ae)(o o':ae):(H++[.dead,.dead,o]).set (H.length+2) o'=H++[.dead,.dead,o']:=by
 rw [List.set_append_right _ _ (by omega)];simp
theorem Lo(H:List ae)(o:ae):(H++[.dead,.dead,o])[H.length+2]?=some o:=by
 rw [List.getElem?_append_right (by omega)];simp
theorem SY(hU:uN E){srt:List aq→List aq}(hS:vw M srt){a b:Sl aq}(h:a.l.length+b.l.length≤4000000000)(H:List ae) :
  M.run y8 [.slice a.tag 2 (a.l.map aq.row),.slice b.tag 2 (b.l.map aq.row)] H=some (.ret (.slice .any 2 ((yU (srt (a.l++b.l))).map aq.row)),H):=by
 rw [aZ M hU.morph_union rfl (c:=zr) rfl,zr]
 have e1:List.map AV.strip [AV.slice a.tag 2 (a.l.map aq.row),.slice b.tag 2 (b.l.map aq.row)]=[.slice a.tag.strip 2 (a.l.map aq.row),.slice b.tag.strip 2 (b.l.map aq.row)]:=by simp [yP]
 have e2:∀ x y:AV,yI 1 2 [x,y]=[[x],[y]]:=fun _ _=>rfl
 by_cases h0:a.l.length+b.l.length=0
 ·have ha:a.l=[]:=List.length_eq_zero_iff.1 (by omega)
  have hb:b.l=[]:=List.length_eq_zero_iff.1 (by omega)
  have hs:srt ([]++[])=[]:=List.length_eq_zero_iff.1 (by rw [hS.len];rfl)
  have hcp:M.run er [.slice .full 2 []] H=some (.ret (.slice .any 2 []),H):=by
   rw [aZ M hU.slices_Compact_api_Feat_api_Feat rfl (c:=bO) rfl,bO]
   simp (maxSteps:=3000000) (maxDischargeDepth:=6) +contextual -implicitDefEqProofs only [amA M,amB,↓aj,↓ab,↓al,↓ak,Nat.reduceBEq,Nat.reduceAdd,env,ao,bb,By,(show decide ((((List.length ([]:List (List AV))):Nat):Int)<2)=true from rfl),(show decide (List.length ([]:List (List AV))<2)=true from rfl),hJ]
  rw [ha,hb,hs]
  rw [ha,hb] at e1
  simp only [List.map_nil] at e1 ⊢
  simp (maxSteps:=3000000) (maxDischargeDepth:=6) +contextual -implicitDefEqProofs only [amA M,amB,↓aj,↓ab,↓al,↓ak,Nat.reduceBEq,Nat.reduceAdd,env,ao,FB,amG,AV.cell,Nat.reduceMul,Nat.reduceLeDiff,yP,Py M hU,hS.none,hcp]
  rw [MI (v':=.slice .any 2 []) rfl (fun K K' w w' x hi hi' hk hv=>by
   obtain ⟨hc1,hc2⟩:=hi.cut hi' hk (cut_refl H)
   exact ⟨_,hc2,wk_any (hJ _) K' x (by rw [hi'.len];exact Nat.le_refl _) hv,hc1⟩)]
  simp only [List.take_length]
  rfl
 ·have hcc:=fun H=>QU M hU (a:=a.l) (b:=b.l) (ta:=a.tag.strip) (tb:=b.tag.strip) (by omega) h H
  have hll:0<(a.l++b.l).length:=by simp;omega
  have hlm:(a.l++b.l).length≤4000000000:=by simp;omega
  have hso:=hS.some (l:=a.l++b.l) (H:=H++[.dead,.dead,.cells (bU (a.l++b.l)) ba]) (id:=H.length+2) (T:=ba) hll hlm (Lo _ _)
  rw [Pz] at hso
  have hsl:=hS.len (a.l++b.l)
  generalize hL:srt (a.l++b.l)=L at hso hsl ⊢
  have hcp:=Px M hU (l:=L) (by omega) (by omega) (H:=H++[.dead,.dead,.cells (bU L) ba]) (id:=H.length+2) (T:=ba) (rest:=[]) (fun c h=>by cases h) (by rw [Lo,List.append_nil])
  rw [Pz,hsl] at hcp
  have hfz:vq cU .frz H (H++[.dead,.dead,.cells (bU (yU L)++(nE ((a.l++b.l).length-(yU L).length)++[])) ba]) (.rslice (H.length+2) 0 (yU L).length 2 true)=some (.slice .any 2 ((yU L).map aq.row),H):=by
   rw [H7 (by omega) (Lo _ _) (by simp) (by simp) (by rw [List.length_append,pP];omega) (Hx _ _ _ (fun c hc=>by
    rw [List.append_nil,Jc] at hc
    exact Hx _ _ [] (fun _ h=>by cases h) 0 c (by simpa using hc)) 0),List.drop_zero,Lm]
  simp only [List.append_nil] at hfz
  simp (maxSteps:=3000000) (maxDischargeDepth:=6) +contextual -implicitDefEqProofs only [amA M,amB,↓aj,↓ab,↓al,↓ak,Nat.reduceBEq,Nat.reduceAdd,env,ao,FB,amG,AV.cell,Nat.reduceMul,Nat.reduceLeDiff,yP,hcc,hso,hcp,hfz]
end
section
attribute [local congr] aG ct bm aH a7 aN aI aA aC aO aP
variable{E:bB}(M:cT cU E)
def Lp(x y:aq):Bool:=x.name == y.name&&x.value == y.value
theorem ixq{H H0:List ae}{v:aq}{tg:Tag}{l:List aq}(hs:l.length≤bH){q:Nat}{T:TypeId}(hq:H[q]?=some (.cells v.row T))(hc:dG H0 H)(k:List Fra):∀ (n i:Nat) (He:List ae),i+n=l.length →
  M.go bJ H0 (.c dq :: .lp ⟨(some [0,3,7,8]),[],false⟩ dq He :: .blk 0 :: .c (.lv [])::k) (kv [(0,.slice tg 2 (l.map aq.row)),(3,.ptr q 0),(7,.int .i64 l.length),(8,.int .i64 i)]) H =
   orE (fI (C6 fun s=>Lp v s) i (l.drop i)) (H.take H0.length) (M.go bJ H0 k .leaf H)
 |0,i,He,h=>by
  have e:i=l.length:=by omega
  subst e
  rw [aw M dq.eq_1]
  simp (maxSteps:=3000000) (maxDischargeDepth:=6) +contextual -implicitDefEqProofs only [amA M,amB,↓aj,↓ab,↓al,↓ak,Nat.reduceBEq,Nat.reduceAdd,env,ao,ie,Nat.lt_irrefl,List.drop_length]
 |n+1,i,He,h=>by
  have hi:i<l.length:=by omega
  have hx:l[i]?=some l[i]:=List.getElem?_eq_getElem hi
  have hd:(l.drop i)=l[i]::l.drop (i+1):=List.drop_eq_getElem_cons hi
  have hm:l[i]∈l:=List.getElem_mem hi
  have ih:=fun He=>ixq (H:=H) (H0:=H0) (v:=v) (tg:=tg) (l:=l) (hs:=hs) (q:=q) (T:=T) (hq:=hq) hc k n (i+1)  He (by omega)
  simp only [kv_cons,kv_nil] at ih
  rw [aw M dq.eq_1]
  simp (maxSteps:=3000000) (maxDischargeDepth:=6) +contextual -implicitDefEqProofs only [amA M,amB,↓aj,↓ab,↓al,↓ak,Nat.reduceBEq,Nat.reduceAdd,env,ao,ie,hx,hd,hi,ih,cY hi hs,bz hi,yQ,C6,hc,hq,Ea,Lp]
theorem Mi(hU:uN E){v:aq}{tg:Tag}{l:List aq}(hs:l.length≤bH)(H:List ae):M.run gf [.slice tg 2 (l.map aq.row),.agg v.row] H=some (.ret (.bool (l.any fun s=>Lp v s)),H):=by
 have h1:∀ H,M.run hT [.slice tg 2 (l.map aq.row),.agg v.row] H=some (.ret (.int .i64 (C7 (fun s=>Lp v s) 0 l)),H):=fun H=>by
  rw [aZ M hU.slices_Index_api_Feat_api_Feat rfl (c:=ic) rfl,ic]
  have hl:=fun k He=>ixq M (H:=H++[.cells v.row ba]) (H0:=H) (tg:=tg) (v:=v) hs (q:=H.length) (T:=ba) (by rw [dW];rfl) (cut_app H _) k l.length 0 He (by omega)
  simp only [kv_cons,kv_nil,Int.ofNat_zero,List.drop_zero,hp_take] at hl
  simp (maxSteps:=3000000) (maxDischargeDepth:=6) +contextual -implicitDefEqProofs only [amA M,amB,↓aj,↓ab,↓al,↓ak,Nat.reduceBEq,Nat.reduceAdd,env,ao,ie,hl,yQ]
  exact pN _ l 0 H
 rw [aZ M hU.slices_Contains_api_Feat_api_Feat rfl (c:=gh) rfl,gh]
 simp (maxSteps:=3000000) (maxDischargeDepth:=6) +contextual -implicitDefEqProofs only [amA M,amB,↓aj,↓ab,↓al,↓ak,Nat.reduceBEq,Nat.reduceAdd,env,ao,qs,h1,vS,yQ,dW]
theorem Lq(hU:uN E)(f:aq){b:Sl aq}(hb:b.l.length≤bH){H:List ae}{q:Nat}{T:TypeId}(hq:H[q]?=some (.cells [.slice b.tag 2 (b.l.map aq.row)] T)) :
  M.run mJ [.agg f.row,.ptr q 0] H=some (.ret (.bool (!(b.l.any fun g=>Lp f g))),H):=by
 rw [aZ M hU.morph_Subsumes_1 rfl (c:=ri) rfl,ri]
 simp (maxSteps:=3000000) (maxDischargeDepth:=6) +contextual -implicitDefEqProofs only [amA M,amB,↓aj,↓ab,↓al,↓ak,Nat.reduceBEq,Nat.reduceAdd,env,ao,FS,Mi M hU hb,yQ,dg hq]
def Gi(a b:List aq):Bool := !(a.any fun f => !(b.any fun g=>Lp f g))
theorem vW(hE:iz E)(hU:uN E){a b:Sl aq}(ha:a.l.length≤bH)(hb:b.l.length≤bH)(H:List ae) :
  M.run jU [.slice a.tag 2 (a.l.map aq.row),.slice b.tag 2 (b.l.map aq.row)] H=some (.ret (.bool (Gi a.l b.l)),H):=by
 rw [aZ M hU.morph_Subsumes rfl (c:=tO) rfl,tO]
 have hcf:=oY M hE.slices_IndexFunc_api_Feat_api_Feat hE.slices_ContainsFunc_api_Feat_api_Feat (g:=mJ) (fr:=[]) (cap:=[.ptr H.length 0]) (p:=fun f => !(b.l.any fun g=>Lp f g)) (tg:=a.tag) ha (H:=H++[.cells [.slice b.tag 2 (b.l.map aq.row)] dB]) (fun x _=>Lq M hU x hb (T:=dB) (by rw [dW];rfl))
 simp (maxSteps:=3000000) (maxDischargeDepth:=6) +contextual -implicitDefEqProofs only [amA M,amB,↓aj,↓ab,↓al,↓ak,Nat.reduceBEq,Nat.reduceAdd,env,ao,Ib,hcf,Gi]
end
section
attribute [local congr] aG ct bm aH a7 aN aI aA aC aO aP
variable{E:bB}(M:cT cU E)
structure qg (E:bB):Prop where
 morph_language_slot:E.fn dV=some eW
 morph_asked:E.fn uc=some lf
 morph_language_feats:E.fn hQ=some fM
 morph_Feats:E.fn ub=some oc
 truchmanref02_slot:E.fn kJ=some pB
 morph_language_underlying:E.fn jM=some c7
 morph_language_steps:E.fn mK=some c6
 truchmanref02_steps:E.fn tz=some oR
 strings_Index:E.fn nI=some jv
 strings_Count:E.fn kA=some ju
 strings_Builder_grow:E.fn mN=some eA
 strings_Builder_Grow:E.fn jO=some ey
 strings_Replace:E.fn sg=some eh
 strings_ReplaceAll:E.fn po=some fw
 internal_stringslite_Index:E.fn gx=some cR
 morph_language_form:E.fn eV=some dv
 morph_Form:E.fn vC=some mQ
 truchmanref02_form:E.fn uw=some pz
 morph_language_slots:E.fn jD=some fL
 truchmanref02_Slots:E.fn tx=some oJ
def Cf:br:=⟨0,[],[],⟨.nil,[]⟩⟩
theorem nF:Cf.row=[AV.int .i64 0,.str [],.str [],.slice .nil 2 []]:=rfl
def Hy(l:Lex)(e:Int):Option aF:=if e<0 then none else l.entries.l[e.toNat]?
def slC(c:Option a6)(q:Int):Option br:=
 match c with
 |none=>none
 |some c=>if q<0 then none else c.slots.l[q.toNat]?
def slF(l:Lex)(e q:Int):Option br:=
 match Hy l e with
 |none=>none
 |some x=>slC (Bg l x.cls) q
theorem wh(n:Nat):Wk n (.slice .nil 2 []) (.slice .nil 2 []):=wk_slice trivial (hJ n)
theorem Hz(hW:WdE M)(hE:iz E)(hF:qg E){l:Lex}(hl:l.ok 0)(e q:Int)(H:List ae) :
  M.run dV [.agg l.row,.int .i64 e,.int .i64 q] H=some (.ret (.tuple [.agg ((slF l e q).getD Cf).row,.bool (slF l e q).isSome]),H):=by
 rw [aZ M hF.morph_language_slot rfl (c:=oz) rfl,oz]
 cases hr1:decide (e<0) with
 |true=>
  have e1:slF l e q=none:=by simp [slF,Hy,of_decide_eq_true hr1]
  rw [e1]
  simp (maxSteps:=3000000) (maxDischargeDepth:=6) +contextual -implicitDefEqProofs only [amA M,amB,↓aj,↓ab,↓al,↓ak,Nat.reduceBEq,Nat.reduceAdd,env,ao,eX,amG,AV.cell,Nat.reduceMul,Nat.reduceLeDiff,hr1,cj,nF,wh,wk_tuple,wk_agg,Option.getD_none,Option.isSome_none]
 |false=>
  have hr0:¬ e<0:=of_decide_eq_false hr1
  cases hr2:decide ((l.entries.l.length:Int)≤e) with
  |true=>
   have hrl:l.entries.l.length≤e.toNat:=by have:=of_decide_eq_true hr2;omega
   have e1:slF l e q=none:=by simp [slF,Hy,hr0,List.getElem?_eq_none hrl]
   rw [e1]
   simp (maxSteps:=3000000) (maxDischargeDepth:=6) +contextual -implicitDefEqProofs only [amA M,amB,↓aj,↓ab,↓al,↓ak,Nat.reduceBEq,Nat.reduceAdd,env,ao,eX,amG,AV.cell,Nat.reduceMul,Nat.reduceLeDiff,hr1,hr2,cj,nF,wh,wk_tuple,wk_agg,Option.getD_none,Option.isSome_none]
  |false=>
   have hrl:e.toNat<l.entries.l.length:=by have:=of_decide_eq_false hr2;omega
   have hx:l.entries.l[e.toNat]?=some l.entries.l[e.toNat]:=List.getElem?_eq_getElem hrl
   generalize hxx:l.entries.l[e.toNat]=x at hx
   have e0:Hy l e=some x:=by simp [Hy,hr0,hx]
   cases hc:Bg l x.cls with
   |none=>
    have e1:slF l e q=none:=by simp [slF,e0,hc,slC]
    have hcl:=fun H=>tU M hE hl hc H
    have hw:=fun H T L=>NT hW (g:=fG) (first:=[]) (cap:=[]) (args:=[.agg l.row,.str x.cls]) (v:=.tuple [.agg yT.row,.bool false]) hcl H T L
    have z:(((yT.slots.l.length:Nat):Int))=0:=rfl
    rw [e1]
    cases hq:decide (q<0) with
    |true=>
     simp (maxSteps:=3000000) (maxDischargeDepth:=6) +contextual -implicitDefEqProofs only [amA M,amB,↓aj,↓ab,↓al,↓ak,Nat.reduceBEq,Nat.reduceAdd,env,ao,eX,amG,AV.cell,Nat.reduceMul,Nat.reduceLeDiff,hr1,hr2,hq,hx,gz (Int.not_lt.1 hr0) hrl,An hW,hcl,hw,cj,eU,ku,nF,kU,wh,wk_tuple,wk_agg,Option.getD_none,Option.isSome_none]
    |false=>
     have hq2:decide ((0:Int)≤q)=true:=decide_eq_true (Int.not_lt.1 (of_decide_eq_false hq))
     simp (maxSteps:=3000000) (maxDischargeDepth:=6) +contextual -implicitDefEqProofs only [amA M,amB,↓aj,↓ab,↓al,↓ak,Nat.reduceBEq,Nat.reduceAdd,env,ao,eX,amG,AV.cell,Nat.reduceMul,Nat.reduceLeDiff,hr1,hr2,hq,hq2,z,hx,gz (Int.not_lt.1 hr0) hrl,An hW,hcl,hw,cj,eU,ku,nF,kU,wh,wk_tuple,wk_agg,Option.getD_none,Option.isSome_none]
   |some c=>
    have hcl:=fun H=>pO M hE hl hc (H:=H) (Nat.zero_le _)
    have hw:=fun H T L=>NT hW (g:=fG) (first:=[]) (cap:=[]) (args:=[.agg l.row,.str x.cls]) (v:=.tuple [.agg c.row,.bool true]) hcl H T L
    cases hq:decide (q<0) with
    |true=>
     have e1:slF l e q=none:=by simp [slF,e0,hc,slC,of_decide_eq_true hq]
     rw [e1]
     simp (maxSteps:=3000000) (maxDischargeDepth:=6) +contextual -implicitDefEqProofs only [amA M,amB,↓aj,↓ab,↓al,↓ak,Nat.reduceBEq,Nat.reduceAdd,env,ao,eX,amG,AV.cell,Nat.reduceMul,Nat.reduceLeDiff,hr1,hr2,hq,hx,gz (Int.not_lt.1 hr0) hrl,An hW,hcl,hw,cj,eU,ku,nF,kU,wh,wk_tuple,wk_agg,Option.getD_none,Option.isSome_none]
    |false=>
     have hq0:¬ q<0:=of_decide_eq_false hq
     cases hq2:decide ((c.slots.l.length:Int)≤q) with
     |true=>
      have hql:c.slots.l.length≤q.toNat:=by have:=of_decide_eq_true hq2;omega
      have e1:slF l e q=none:=by simp [slF,e0,hc,slC,hq0,List.getElem?_eq_none hql]
      rw [e1]
      simp (maxSteps:=3000000) (maxDischargeDepth:=6) +contextual -implicitDefEqProofs only [amA M,amB,↓aj,↓ab,↓al,↓ak,Nat.reduceBEq,Nat.reduceAdd,env,ao,eX,amG,AV.cell,Nat.reduceMul,Nat.reduceLeDiff,hr1,hr2,hq,hq2,hx,gz (Int.not_lt.1 hr0) hrl,An hW,hcl,hw,cj,eU,ku,nF,kU,wh,wk_tuple,wk_agg,Option.getD_none,Option.isSome_none]
     |false=>
      have hql:q.toNat<c.slots.l.length:=by have:=of_decide_eq_false hq2;omega
      have hs:c.slots.l[q.toNat]?=some c.slots.l[q.toNat]:=List.getElem?_eq_getElem hql
      have hcm:c∈l.classes.l:=List.mem_of_find?_eq_some hc
      have hsk:=((hl.classes.all c hcm).slots.all _ (List.getElem_mem hql)).mono (Nat.zero_le H.length)
      generalize c.slots.l[q.toNat]=s at hs hsk
      have e1:slF l e q=some s:=by simp [slF,e0,hc,slC,hq0,hs]
      rw [e1]
      simp (maxSteps:=3000000) (maxDischargeDepth:=6) +contextual -implicitDefEqProofs only [amA M,amB,↓aj,↓ab,↓al,↓ak,Nat.reduceBEq,Nat.reduceAdd,env,ao,eX,amG,AV.cell,Nat.reduceMul,Nat.reduceLeDiff,hr1,hr2,hq,hq2,hx,hs,gz (Int.not_lt.1 hr0) hrl,gz (Int.not_lt.1 hq0) hql,An hW,hcl,hw,cj,eU,ku,iS,nF,kU,hsk.wk,wk_tuple,wk_agg,Option.getD_some,Option.isSome_some]
end
section
attribute [local congr] aG ct bm aH a7 aN aI aA aC aO aP
variable{E:bB}(M:cT cU E)
theorem rU{l:Lex}(h:bG l=0):Gb l=0∧Ix l=0∧Iy l=0∧K8 l=0:=
 ⟨rT h 2 _ rfl,rT h 3 _ rfl,rT h 4 _ rfl,rT h 5 _ rfl⟩
structure yW (l:Lex) (x:aF) (c:a6):Prop where
 cls:Bg l x.cls=some c
 lem:zF x.lem=true
 short:x.feats.l.length≤8∧zG x.feats.l=true
 clash:∀ s∈c.slots.l,lA x.feats.l s.feats.l=false
 forms:Cb (MV c.slots.l.length x.forms.l) 0 x.forms.l=0
theorem fF{b:Bool}{x y:Int}(hx:x≠0)(h:sel b x y=0):b=false∧y=0:=by
 cases b with
 |true=>exact absurd h hx
 |false=>exact ⟨rfl,h⟩
theorem Gj{l:Lex}(h:bG l=0){k:Nat}{x:aF}(hx:l.entries.l[k]?=some x):∃ c,yW l x c:=by
 have h3:=(jW (rU h).2.1).2 k x hx
 unfold Iw at h3
 cases hc:Bg l x.cls with
 |none=>
  rw [hc] at h3
  exact absurd (fF (by decide) h3).2 (by decide)
 |some c=>
  rw [hc] at h3
  obtain ⟨a1,h3⟩:=fF (by decide) h3
  obtain ⟨_,h3⟩:=fF (by decide) h3
  cases hb:s6 l x.feats.l == 0 with
  |false=>
   rw [hb] at h3
   rw [show s6 l x.feats.l=0 from h3] at hb
   exact absurd hb (by decide)
  |true=>
   rw [hb] at h3
   obtain ⟨a2,h3⟩:=fF (b:=c.slots.l.any fun s=>lA x.feats.l s.feats.l) (by decide) h3
   exact ⟨c,hc,by simpa using a1,bundle_ok (eq_of_beq hb),by simpa using a2,h3⟩
theorem RK{l:Lex}(h:bG l=0){c:a6}(hc:c∈l.classes.l){s:br}(hs:s∈c.slots.l):Ja l s=0:=by
 obtain ⟨k,hk⟩:=List.getElem?_of_mem hc
 have h2:=(jW (rU h).1).2 k c hk
 unfold Ga at h2
 have h3:=(fF (by decide) (fF (by decide) (fF (by decide) (fF (by decide) h2).2).2).2).2
 obtain ⟨j,hj⟩:=List.getElem?_of_mem hs
 exact (jW h3).2 j s hj
structure Uw (s:br):Prop where
 cut:0≤s.cut∧s.cut≤24
 pre:s.pre.length≤6∧s.pre.all nY=true
 add:s.add.length≤6∧s.add.all nY=true
 feats:s.feats.l.length≤8∧zG s.feats.l=true
theorem Wh{l:Lex}{s:br}(h:Ja l s=0):Uw s:=by
 unfold Ja at h
 obtain ⟨h1,h2⟩:=fF (by decide) h
 simp only [Bool.or_eq_false_iff,decide_eq_false_iff_not,Bool.not_eq_false',qf,Bool.and_eq_true,decide_eq_true_eq] at h1
 refine ⟨⟨by omega,by omega⟩,⟨by omega, ?_⟩,⟨by omega, ?_⟩,bundle_ok h2⟩
 ·simp_all
 ·simp_all
structure At (l:Lex) (e q:Int) (x:aF) (c:a6) (s:br):Prop where
 e0:0≤e
 q0:0≤q
 el:e.toNat<l.entries.l.length
 ex:l.entries.l[e.toNat]?=some x
 ent:yW l x c
 cm:c∈l.classes.l
 ql:q.toNat<c.slots.l.length
 sx:c.slots.l[q.toNat]?=some s
 sok:Uw s
theorem RL{l:Lex}(h:bG l=0){e q:Int}{s:br}(hs:slF l e q=some s):∃ x c,At l e q x c s:=by
 unfold slF at hs
 cases hx:Hy l e with
 |none=>rw [hx] at hs;exact absurd hs (by simp)
 |some x=>
  rw [hx] at hs
  simp only at hs
  unfold Hy at hx
  split at hx
  ·exact absurd hx (by simp)
  ·rename_i he
   obtain ⟨c,hc⟩:=Gj h hx
   rw [hc.cls] at hs
   simp only [slC] at hs
   split at hs
   ·exact absurd hs (by simp)
   ·rename_i hq
    have hcm:c∈l.classes.l:=List.mem_of_find?_eq_some hc.cls
    exact ⟨x,c,by omega,by omega,(List.getElem?_eq_some_iff.1 hx).1,hx,hc,hcm,(List.getElem?_eq_some_iff.1 hs).1,hs,Wh (RK h hcm (List.mem_of_getElem? hs))⟩
theorem SZ{T L:List Nat}{r:Option Out}(h:apart T L):tH cU T L r=r:=by
 unfold tH
 rw [NR h]
def Jd:Lex:=⟨[],⟨.nil,[]⟩,⟨.nil,[]⟩,⟨.nil,[]⟩,⟨.nil,[]⟩,⟨.nil,[]⟩⟩
theorem M4:Jd.row=[AV.str [],.slice .nil 2 [],.slice .nil 2 [],.slice .nil 4 [],.slice .nil 4 [],.slice .nil 3 []]:=rfl
theorem Q1(n k:Nat):Wk n (.slice .nil k []) (.slice .nil k []):=wk_slice trivial (hJ n)
def Mj(b:Bool)(l:Lex):Lex:=if b then l else Jd
def xy(l:Lex)(e q:Int):Option br:=if bG l=0 then slF l e q else none
def Bj(l:Lex)(e q:Int):Int:=if bG l=0 then (if (slF l e q).isSome then 0 else 7) else bG l
def Cg(l:Lex)(e q:Int):AV:=.tuple [.agg (Mj (xy l e q).isSome l).row,.agg ((xy l e q).getD Cf).row,.int .u8 (Bj l e q)]
theorem M5(hN:cS E)(hW:WdE M)(hE:iz E)(hF:qg E){l:Lex}(hl:l.ok 0)(e q:Int)(H:List ae) :
  M.run uc [.agg l.row,.int .i64 e,.int .i64 q] H=some (.ret (Cg l e q),H):=by
 rw [aZ M hF.morph_asked rfl (c:=zj) rfl,zj]
 have hsl:=fun H=>Hz M hW hE hF hl e q H
 have hlw:WkL H.length l.row l.row:=(hl.mono (Nat.zero_le _)).wk
 cases hk:bG l == 0 with
 |false=>
  have hk1:bG l≠0:=by simpa using hk
  have e1:Cg l e q = .tuple [.agg Jd.row,.agg Cf.row,.int .u8 (bG l)]:=by simp [Cg,xy,Bj,hk1,Mj]
  rw [e1]
  simp (maxSteps:=3000000) (maxDischargeDepth:=6) +contextual -implicitDefEqProofs only [amA M,amB,↓aj,↓ab,↓al,↓ak,Nat.reduceBEq,Nat.reduceAdd,env,ao,zk,amG,AV.cell,Nat.reduceMul,Nat.reduceLeDiff,rS M hN hE hl,Nat.zero_le,hk,cj,M4,nF,Q1,wk_tuple,wk_agg]
 |true=>
  have hk1:bG l=0:=eq_of_beq hk
  cases hs:slF l e q with
  |none=>
   have e1:Cg l e q = .tuple [.agg Jd.row,.agg Cf.row,.int .u8 7]:=by simp [Cg,xy,Bj,hk1,hs,Mj]
   rw [e1]
   simp only [hs,Option.getD_none,Option.isSome_none] at hsl
   simp (maxSteps:=3000000) (maxDischargeDepth:=6) +contextual -implicitDefEqProofs only [amA M,amB,↓aj,↓ab,↓al,↓ak,Nat.reduceBEq,Nat.reduceAdd,env,ao,zk,amG,AV.cell,Nat.reduceMul,Nat.reduceLeDiff,rS M hN hE hl,Nat.zero_le,hsl,hk,cj,M4,nF,Q1,wk_tuple,wk_agg]
  |some s=>
   have e1:Cg l e q = .tuple [.agg l.row,.agg s.row,.int .u8 0]:=by simp [Cg,xy,Bj,hk1,hs,Mj]
   rw [e1]
   simp only [hs,Option.getD_some,Option.isSome_some] at hsl
   obtain ⟨x,c,hA⟩:=RL hk1 hs
   have hsw:WkL H.length s.row s.row:=(((hl.classes.all c hA.cm).slots.all s (List.mem_of_getElem? hA.sx)).mono (Nat.zero_le _)).wk
   have hap:∀ r,tH cU [H.length+2,H.length+1] [H.length+4,H.length+3] r=r:=fun r=>SZ (by intro x h1 h2;simp at h1 h2;omega)
   simp (maxSteps:=3000000) (maxDischargeDepth:=6) +contextual -implicitDefEqProofs only [amA M,amB,↓aj,↓ab,↓al,↓ak,Nat.reduceBEq,Nat.reduceAdd,env,ao,zk,amG,AV.cell,Nat.reduceMul,Nat.reduceLeDiff,rS M hN hE hl,Nat.zero_le,hsl,hk,amW,hap,cj,iS,hlw,hsw,wk_tuple,wk_agg]
end
section
attribute [local congr] aG ct bm aH a7 aN aI aA aC aO aP
variable{E:bB}(M:cT cU E)
theorem b70:((7:Int) == 0)=false:=rfl
theorem b00:((0:Int) == 0)=true:=rfl
def vo(x:aF)(s:br):List aq:=(Eb x.feats.l s.feats.l).getD []
theorem At.clash{l:Lex}{e q:Int}{x:aF}{c:a6}{s:br}(h:At l e q x c s):lA x.feats.l s.feats.l=false:=h.ent.clash s (List.mem_of_getElem? h.sx)
theorem At.uni{l:Lex}{e q:Int}{x:aF}{c:a6}{s:br}(h:At l e q x c s):Eb x.feats.l s.feats.l=some (vo x s):=by
 have:=Pm h.ent.short.2 h.sok.feats.2
 rw [h.clash] at this
 unfold vo
 cases hu:Eb x.feats.l s.feats.l with
 |none=>rw [hu] at this;simp at this
 |some r=>rfl
theorem At.comp{srt:List aq→List aq}(hs:Srt srt){l:Lex}{e q:Int}{x:aF}{c:a6}{s:br}(h:At l e q x c s):yU (srt (x.feats.l++s.feats.l))=vo x s:=by
 have h1:=Uu hs x.feats.l s.feats.l
 rw [h.uni,Q0,h.ent.short.2,h.sok.feats.2,h.clash] at h1
 exact Option.some.inj h1
theorem At.sl{l:Lex}{e q:Int}{x:aF}{c:a6}{s:br}(hk:bG l=0)(h:At l e q x c s):slF l e q=some s:=by
 have h0:¬ e<0:=by have:=h.e0;omega
 have h1:¬ q<0:=by have:=h.q0;omega
 simp only [slF,Hy,h0,if_false,h.ex,h.ent.cls,slC,h1,h.sx]
theorem Gk(hU:uN E){srt:List aq→List aq}(hS:vw M srt)(hs:Srt srt)(hF:qg E){l:Lex}{e q:Int}{x:aF}{c:a6}{s:br}(hA:At l e q x c s)(H:List ae) :
  M.run hQ [.agg l.row,.int .i64 e,.agg s.row] H=some (.ret (.slice .any 2 ((vo x s).map aq.row)),H):=by
 rw [aZ M hF.morph_language_feats rfl (c:=mU) rfl,mU]
 have hu:=fun H=>SY M hU hS (a:=x.feats) (b:=s.feats) (by have:=hA.ent.short.1;have:=hA.sok.feats.1;omega) H
 rw [hA.comp hs] at hu
 simp (maxSteps:=3000000) (maxDischargeDepth:=6) +contextual -implicitDefEqProofs only [amA M,amB,↓aj,↓ab,↓al,↓ak,Nat.reduceBEq,Nat.reduceAdd,env,ao,BO,hu,hA.ex,gz hA.e0 hA.el,cj,eU,iS,RE,implies_true]
def ID(l:Lex)(e q:Int):List aq:=
 match xy l e q,Hy l e with
 |some s,some x=>vo x s
 |_,_=>[]
def xz(l:Lex)(e q:Int):AV:=.tuple [.slice .any 2 ((ID l e q).map aq.row),.int .u8 (Bj l e q)]
theorem At.ent'{l:Lex}{e q:Int}{x:aF}{c:a6}{s:br}(h:At l e q x c s):Hy l e=some x:=by
 have h0:¬ e<0:=by have:=h.e0;omega
 simp only [Hy,h0,if_false,h.ex]
theorem M6(hN:cS E)(hW:WdE M)(hE:iz E)(hF:qg E)(hU:uN E){srt:List aq→List aq}(hS:vw M srt)(hs:Srt srt){l:Lex}(hl:l.ok 0)(e q:Int)(H:List ae) :
  M.run ub [.agg l.row,.int .i64 e,.int .i64 q] H=some (.ret (xz l e q),H):=by
 rw [aZ M hF.morph_Feats rfl (c:=zf) rfl,zf]
 have ha:=fun H=>M5 M hN hW hE hF hl e q H
 by_cases hk:bG l=0
 ·cases hsl:slF l e q with
  |none=>
   have e1:Cg l e q = .tuple [.agg Jd.row,.agg Cf.row,.int .u8 7]:=by simp [Cg,xy,Bj,hk,hsl,Mj]
   have e2:xz l e q = .tuple [.slice .any 2 [],.int .u8 7]:=by simp [xz,ID,xy,Bj,hk,hsl]
   rw [e1] at ha;rw [e2]
   simp (maxSteps:=3000000) (maxDischargeDepth:=6) +contextual -implicitDefEqProofs only [amA M,amB,↓aj,↓ab,↓al,↓ak,Nat.reduceBEq,Nat.reduceAdd,env,ao,zg,amG,AV.cell,Nat.reduceMul,Nat.reduceLeDiff,ha,b70,cj,iS,hJ,wk_tuple]
  |some s=>
   obtain ⟨x,c,hA⟩:=RL hk hsl
   have e1:Cg l e q = .tuple [.agg l.row,.agg s.row,.int .u8 0]:=by simp [Cg,xy,Bj,hk,hsl,Mj]
   have e2:xz l e q = .tuple [.slice .any 2 ((vo x s).map aq.row),.int .u8 0]:=by simp [xz,ID,xy,Bj,hk,hsl,hA.ent']
   rw [e1] at ha;rw [e2]
   simp (maxSteps:=3000000) (maxDischargeDepth:=6) +contextual -implicitDefEqProofs only [amA M,amB,↓aj,↓ab,↓al,↓ak,Nat.reduceBEq,Nat.reduceAdd,env,ao,zg,amG,AV.cell,Nat.reduceMul,Nat.reduceLeDiff,ha,Gk M hU hS hs hF hA,cj,iS,RE,implies_true,b70,b00,wk_tuple]
 ·have e0:(bG l == 0)=false:=by simpa using hk
  have e1:Cg l e q = .tuple [.agg Jd.row,.agg Cf.row,.int .u8 (bG l)]:=by simp [Cg,xy,Bj,hk,Mj]
  have e2:xz l e q = .tuple [.slice .any 2 [],.int .u8 (bG l)]:=by simp [xz,ID,xy,Bj,hk]
  rw [e1] at ha;rw [e2]
  simp (maxSteps:=3000000) (maxDischargeDepth:=6) +contextual -implicitDefEqProofs only [amA M,amB,↓aj,↓ab,↓al,↓ak,Nat.reduceBEq,Nat.reduceAdd,env,ao,zg,amG,AV.cell,Nat.reduceMul,Nat.reduceLeDiff,ha,e0,cj,iS,hJ,wk_tuple]
end
section
attribute [local congr] aG ct bm aH a7 aN aI aA aC aO aP
variable{E:bB}(M:cT cU E)
def Lr(s:br)(a:Str):Str:=sel (s.pre == []) a ((s.pre++[43])++a)
def IE(s:br)(b:Str):Str:=sel (s.add == []) b (b++([43]++s.add))
def PA(lem:Str)(s:br):Str:=IE s (Lr s (lem.take (lem.length-s.cut.toNat)))
def Ls(lem:Str)(s:br):Option Str:=sel (decide ((lem.length:Int)<s.cut)) none (some (PA lem s))
def Q2(o:Option Str):AV:=.tuple [.str (o.getD []),.bool o.isSome]
theorem ED{s:Str}(h:zF s=true):s.length≤24:=by
 simp only [zF,Be,Bool.and_eq_true,decide_eq_true_eq] at h
 omega
theorem PB(s:br)(a:Str)(h:s.pre.length≤6):(Lr s a).length≤a.length+7:=by
 unfold Lr;cases s.pre == []<;>simp [sel]<;>omega
theorem Ux(s:br)(a:Str)(h:s.add.length≤6):(IE s a).length≤a.length+7:=by
 unfold IE;cases s.add == []<;>simp [sel];omega
theorem PC{lem:Str}{s:br}(h:lem.length≤24)(hs:Uw s):(PA lem s).length≤38:=by
 have h1:=Ux s (Lr s (lem.take (lem.length-s.cut.toNat))) hs.add.1
 have h2:=PB s (lem.take (lem.length-s.cut.toNat)) hs.pre.1
 unfold PA
 simp at h2
 omega
theorem run_underlying(hF:qg E){l:Lex}{e q:Int}{x:aF}{c:a6}{s:br}(hA:At l e q x c s)(H:List ae) :
  M.run jM [.agg l.row,.int .i64 e,.agg s.row] H=some (.ret (Q2 (Ls x.lem s)),H):=by
 rw [aZ M hF.morph_language_underlying rfl (c:=jR) rfl,jR]
 have hl:=ED hA.ent.lem
 have hp:=hA.sok.pre.1
 have ha:=hA.sok.add.1
 cases hd:decide ((x.lem.length:Int)<s.cut) with
 |true=>
  have e1:Q2 (Ls x.lem s) = .tuple [.str [],.bool false]:=by simp [Q2,Ls,hd,sel]
  rw [e1]
  simp (maxSteps:=3000000) (maxDischargeDepth:=6) +contextual -implicitDefEqProofs only [amA M,amB,↓aj,↓ab,↓al,↓ak,Nat.reduceBEq,Nat.reduceAdd,env,ao,fi,amG,AV.cell,Nat.reduceMul,Nat.reduceLeDiff,hd,hA.ex,gz hA.e0 hA.el,cj,eU,iS,wk_tuple]
 |false=>
  obtain ⟨m,hm⟩:=Int.eq_ofNat_of_zero_le hA.sok.cut.1
  have hml:m≤x.lem.length:=by have:=of_decide_eq_false hd;omega
  have hw:IntKind.i64.wrap ((x.lem.length:Int)-(m:Int))=((x.lem.length-m:Nat):Int):=by rw [eC (by omega) (by omega)];omega
  have hsl:=Ui (s:=x.lem) (k:=.i64) (i:=x.lem.length-m) (by omega)
  have e1:Q2 (Ls x.lem s) = .tuple [.str (PA x.lem s),.bool true]:=by simp [Q2,Ls,hd,sel]
  have e2:PA x.lem s=IE s (Lr s (x.lem.take (x.lem.length-m))):=by rw [PA,hm];rfl
  have hal:(x.lem.take (x.lem.length-m)).length≤24:=by simp;omega
  rw [e1,e2]
  generalize x.lem.take (x.lem.length-m)=a at hsl hal
  rw [hm] at hd
  have hdn:decide (x.lem.length<m)=false:=decide_eq_false (by omega)
  have hbl:=PB s a hp
  cases hp0:s.pre == [] with
  |true=>
   have e3:Lr s a=a:=by simp [Lr,hp0,sel]
   rw [e3] at hbl ⊢
   cases ha0:s.add == [] with
   |true=>
    have e4:IE s a=a:=by simp [IE,ha0,sel]
    rw [e4]
    simp (maxSteps:=3000000) (maxDischargeDepth:=6) +contextual -implicitDefEqProofs only [amA M,amB,↓aj,↓ab,↓al,↓ak,Nat.reduceBEq,Nat.reduceAdd,env,ao,fi,amG,AV.cell,Nat.reduceMul,Nat.reduceLeDiff,hd,hdn,hm,hw,hsl,hp0,ha0,hA.ex,gz hA.e0 hA.el,cj,eU,iS,wk_tuple]
   |false=>
    have e4:IE s a=a++([43]++s.add):=by simp [IE,ha0,sel]
    rw [e4]
    simp (maxSteps:=3000000) (maxDischargeDepth:=6) +contextual -implicitDefEqProofs only [amA M,amB,↓aj,↓ab,↓al,↓ak,Nat.reduceBEq,Nat.reduceAdd,env,ao,fi,amG,AV.cell,Nat.reduceMul,Nat.reduceLeDiff,hd,hdn,hm,hw,hsl,hp0,ha0,vV (s:=[43]) (t:=s.add) (by simp;omega),vV (s:=a) (t:=43::s.add) (by simp;omega),hA.ex,gz hA.e0 hA.el,cj,eU,iS,wk_tuple]
  |false=>
   have e3:Lr s a=(s.pre++[43])++a:=by simp [Lr,hp0,sel]
   rw [e3] at hbl ⊢
   cases ha0:s.add == [] with
   |true=>
    have e4:IE s ((s.pre++[43])++a)=(s.pre++[43])++a:=by simp [IE,ha0,sel]
    rw [e4]
    simp (maxSteps:=3000000) (maxDischargeDepth:=6) +contextual -implicitDefEqProofs only [amA M,amB,↓aj,↓ab,↓al,↓ak,Nat.reduceBEq,Nat.reduceAdd,env,ao,fi,amG,AV.cell,Nat.reduceMul,Nat.reduceLeDiff,hd,hdn,hm,hw,hsl,hp0,ha0,vV (s:=s.pre) (t:=[43]) (by simp;omega),vV (s:=s.pre++[43]) (t:=a) (by simp;omega),hA.ex,gz hA.e0 hA.el,cj,eU,iS,wk_tuple]
   |false=>
    have e4:IE s ((s.pre++[43])++a)=((s.pre++[43])++a)++([43]++s.add):=by simp [IE,ha0,sel]
    rw [e4]
    simp (maxSteps:=3000000) (maxDischargeDepth:=6) +contextual -implicitDefEqProofs only [amA M,amB,↓aj,↓ab,↓al,↓ak,Nat.reduceBEq,Nat.reduceAdd,env,ao,fi,amG,AV.cell,Nat.reduceMul,Nat.reduceLeDiff,hd,hdn,hm,hw,hsl,hp0,ha0,vV (s:=s.pre) (t:=[43]) (by simp;omega),vV (s:=s.pre++[43]) (t:=a) (by simp;omega),vV (s:=[43]) (t:=s.add) (by simp;omega),vV (s:=s.pre++[43]++a) (t:=43::s.add) (by simp at hbl ⊢;omega),hA.ex,gz hA.e0 hA.el,cj,eU,iS,wk_tuple]
def CD(v:Str):List Str→Str→List bA→Option (List Str)
 |o,_,[]=>some o
 |o,u,x::l=>sel (decide (((uM v x u).length:Int)≤512)) (CD v (o++[uM v x u]) (uM v x u) l) none
def noS:AV:=.tuple [.slice .any 1 [],.bool false]
def PD(o:Option (List Str)):AV:=.tuple [.slice .any 1 ((o.getD []).map gd),.bool o.isSome]
theorem ui{H0:List ae}(n m:Nat)(T:TypeId)(L:List ae):dG (H0++[.tok n T]) (H0++(.tok m T::L)):=⟨by simp,fun i x hi hx=>by
 rw [List.length_append] at hi
 by_cases h:i<H0.length
 ·rw [List.getElem?_append_left h] at hx ⊢;exact .inl hx
 ·obtain rfl:i=H0.length:=by simp at hi;omega
  rw [dW] at hx
  obtain rfl:=Option.some.inj hx
  exact .inr trivial⟩
theorem qM(H0:List ae)(o:ae)(L:List ae):(H0++(o::L)).take (H0.length+1)=H0++[o]:=by
 rw [show H0++(o::L)=(H0++[o])++L by simp,show H0.length+1=(H0++[o]).length by simp,List.take_left]
theorem JP(n:Nat)(l:List Str):mI n (l.map gd):=by
 rw [rowsWk_map];exact fun _ _=>⟨wk_str _ _,trivial⟩
theorem Uy(n:Nat)(s:Str):WkL n (gd s) (gd s):=⟨wk_str _ _,trivial⟩
def Uz(M:cT cU E)(fn:AFn)(d:Nat)(H0:List ae)(k:List Fra)(r:Option (List Str))(H:List ae):Option Out:=
 match r with
 |none=>some (.ret noS,H.take H0.length)
 |some r=>M.go fn H0 k (kv [(d,.slice (.own H.length) 1 (r.map gd))]) (H++[.tok (r.length*1) bj])
theorem HA{α:Type}{row:α→List AV}{l:List α}{x:α}{r:List AV}{sz bytes:Nat}{e:TypeId}(H L:List ae)(h1:r.length=sz)(h2:r.all AV.cell=true)(h3:r.map AV.strip=row x)
  (hl:(l.length+1)*bytes≤140737488355328) (hl2:l.length+1≤4611686018427387904) :
  rap false (H++(.tok (l.length*sz) e::L)) e sz bytes false (.slice (.own H.length) sz (l.map row)) (.slice .full sz [r])=some (.slice (.own H.length) sz ((l++[x]).map row),H++(.tok ((l++[x]).length*sz) e::L)):=by
 have hr:(r.length=sz∧∀ x∈r,x.cell=true):=⟨h1,by simpa using h2⟩
 simp only [rap,Dv,CE,List.length_map,List.length_cons,List.length_nil,Nat.zero_add,or_true,if_true,hl,hl2,KE h1 h2,and_true,true_and,dW,List.getElem?_cons_zero,hp_set0,List.set_cons_zero,List.map_cons,List.map_nil,h3,List.map_append,List.length_append,Nat.add_mul,Nat.one_mul]
 rw [Nat.add_mul,Nat.one_mul] at hl
 rw [if_pos hl]
theorem stl(hN:cS E)(hS:SpE E)(hX:oZ M)(hB:pb E){l:Lex}(hl:l.ok 0)(hV:Un l){H H0:List ae}(hc:dG H0 H){p:Nat}{T:TypeId}(hp:H[p]?=some (.cells l.row T))(k:List Fra) :
  ∀ (n i:Nat) (o:List Str) (u:Str) (He:List ae),He=H++[.tok (o.length*1) bj]→i+n=l.spells.l.length→u.length≤1000→o.length+n≤1000 →
  M.go c6 H0 (.c eP :: .lp ⟨(some [3,8,10,26,27,28]),[(10,1,bj)],true⟩ eP He :: .blk 0 :: .c (.lv [10])::k) (kv [(3,.ptr p 0),(8,.str u),(10,.slice (.own H.length) 1 (o.map gd)),(26,.slice l.spells.tag 4 (l.spells.l.map bA.row)),(27,.int .i64 l.spells.l.length),(28,.int .i64 i)]) (H++[.tok (o.length*1) bj]) =
   Uz M c6 10 H0 k (CD l.vowels o u (l.spells.l.drop i)) H
 |0,i,o,u,He,hHe,h,hu,ho=>by
  have e:i=l.spells.l.length:=by omega
  subst e
  rw [List.drop_length,CD,Uz]
  rw [aw M eP.eq_1]
  simp (maxSteps:=3000000) (maxDischargeDepth:=6) +contextual -implicitDefEqProofs only [amA M,amB,↓aj,↓ab,↓al,↓ak,Nat.reduceBEq,Nat.reduceAdd,env,ao,fO,Nat.lt_irrefl]
 |n+1,i,o,u,He,hHe,h,hu,ho=>by
  subst hHe
  have hi:i<l.spells.l.length:=by omega
  have hx:l.spells.l[i]?=some l.spells.l[i]:=List.getElem?_eq_getElem hi
  have hd:(l.spells.l.drop i)=l.spells.l[i]::l.spells.l.drop (i+1):=List.drop_eq_getElem_cons hi
  have hm:l.spells.l[i]∈l.spells.l:=List.getElem_mem hi
  obtain ⟨p1,p2,p3,p4,p5⟩:=Up (hV.spells _ hm)
  have hx0:=hl.spells.all _ hm
  have hsp:=fun H=>SU M hN hS hX hB (l:=l) hx0 p1 p2 p3 p4 (s:=u) (by omega) H
  have hp':=fun L=>dg (L:=L) hp
  have hpl:=(List.getElem?_eq_some_iff.1 hp).1
  have w1:Wk (H.length+1) (.ptr p 0) (.ptr p 0):=wk_ptr (by omega)
  have w2:Wk (H.length+1) (.slice l.spells.tag 4 (l.spells.l.map bA.row)) (.slice l.spells.tag 4 (l.spells.l.map bA.row)):=(hl.spells.mono (Nat.zero_le _) (fun _ h=>h.mono (Nat.zero_le _))).wk (fun _ h=>h.wk)
  have w3:=fun l:List Str=>wk_slice (n:=H.length+1) (esz:=1) (tag:=.own H.length) (by simp [pT]) (JP _ l)
  have hcm:=fun L=>OZ hc L
  have htm:=fun L=>ML hc L
  rw [hd,CD]
  generalize l.spells.l[i]=x at hx hsp
  generalize uM l.vowels x u=u' at hsp
  cases hdl:decide ((u'.length:Int)≤512) with
  |false=>
   simp only [sel,Uz]
   simp only [hdl] at hsp
   rw [aw M eP.eq_1]
   simp (maxSteps:=3000000) (maxDischargeDepth:=6) +contextual -implicitDefEqProofs only [amA M,amB,↓aj,↓ab,↓al,↓ak,Nat.reduceBEq,Nat.reduceAdd,env,ao,fO,amG,AV.cell,Nat.reduceMul,Nat.reduceLeDiff,hx,hi,hsp,hp',bz hi,cj,yZ,hcm,htm,noS,hJ,wk_tuple]
  |true=>
   simp only [hdl] at hsp
   have hul:u'.length≤1000:=by have:=of_decide_eq_true hdl;omega
   have ap:=fun L=>HA (row:=gd) (l:=o) (x:=u') (r:=[.str u']) (sz:=1) (bytes:=16) (e:=bj) H L rfl rfl rfl (by omega) (by omega)
   have ih:=stl hN hS hX hB hl hV hc hp k n (i+1) (o++[u']) u' _ rfl (by omega) hul (by simp;omega)
   simp only [kv_cons,kv_nil] at ih
   simp only [sel]
   rw [aw M eP.eq_1]
   simp (maxSteps:=3000000) (maxDischargeDepth:=6) +contextual -implicitDefEqProofs only [amA M,amB,↓aj,↓ab,↓al,↓ak,Nat.reduceBEq,Nat.reduceAdd,env,ao,fO,amG,AV.cell,Nat.reduceMul,Nat.reduceLeDiff,hx,hi,hsp,hp',ap,ih,w1,w2,w3,ui,qM,cY hi hl.spells.len,bz hi,cj,yZ]
def xA(l:Lex)(x:aF)(s:br):Option (List Str):=
 match Ls x.lem s with
 |none=>none
 |some u=>CD l.vowels [u] u l.spells.l
theorem S0(hN:cS E)(hS:SpE E)(hX:oZ M)(hB:pb E)(hF:qg E){l:Lex}(hl:l.ok 0)(hV:Un l){e q:Int}{x:aF}{c:a6}{s:br}(hA:At l e q x c s)(hsl:l.spells.l.length≤900)(H:List ae) :
  M.run mK [.agg l.row,.int .i64 e,.agg s.row] H=some (.ret (PD (xA l x s)),H):=by
 rw [aZ M hF.morph_language_steps rfl (c:=nk) rfl,nk]
 have hu:=fun H=>run_underlying M hF hA H
 cases ho:Ls x.lem s with
 |none=>
  have e1:PD (xA l x s)=noS:=by simp [PD,xA,ho,noS]
  rw [e1]
  simp only [ho,Q2,Option.getD_none,Option.isSome_none] at hu
  simp (maxSteps:=3000000) (maxDischargeDepth:=6) +contextual -implicitDefEqProofs only [amA M,amB,↓aj,↓ab,↓al,↓ak,Nat.reduceBEq,Nat.reduceAdd,env,ao,fO,amG,AV.cell,Nat.reduceMul,Nat.reduceLeDiff,hu,cj,iS,noS,hJ,wk_tuple]
 |some u=>
  have e1:xA l x s=CD l.vowels [u] u l.spells.l:=by simp [xA,ho]
  have hul:u.length≤1000:=by
   have:=PC (ED hA.ent.lem) hA.sok
   unfold Ls at ho
   revert ho
   cases decide ((x.lem.length:Int)<s.cut) with
   |true=>simp [sel]
   |false=>intro ho;rw [← Option.some.inj ho];omega
  rw [e1]
  simp only [ho,Q2,Option.getD_some,Option.isSome_some] at hu
  have h1:=fun k=>stl M hN hS hX hB hl hV (H:=H++[.cells l.row aD,.cells s.row bI]) (H0:=H) (cut_app H _) (p:=H.length) (T:=aD) (by rw [dW];rfl) k l.spells.l.length 0 [u] u _ rfl (by omega) hul (by simp;omega)
  simp only [kv_cons,kv_nil,Int.ofNat_zero,List.drop_zero,List.length_append,List.length_cons,List.length_nil,Nat.zero_add,Nat.reduceAdd,List.append_assoc,List.cons_append,List.nil_append,List.map_cons,List.map_nil,gd] at h1
  simp (maxSteps:=3000000) (maxDischargeDepth:=6) +contextual -implicitDefEqProofs only [amA M,amB,↓aj,↓ab,↓al,↓ak,Nat.reduceBEq,Nat.reduceAdd,env,ao,fO,amG,AV.cell,Nat.reduceMul,Nat.reduceLeDiff,hu,h1,cj,iS,wk_tuple,gd]
  generalize CD l.vowels [u] u l.spells.l=r
  cases r with
  |none=>simp only [Uz,hp_take];rfl
  |some r=>
   simp only [Uz,kv_cons,kv_nil]
   simp (maxSteps:=3000000) (maxDischargeDepth:=6) +contextual -implicitDefEqProofs only [amA M,amB,↓aj,↓ab,↓al,↓ak,Nat.reduceBEq,Nat.reduceAdd,env,ao,fO,JP,Uy,cut_app,implies_true,wk_tuple]
   rfl
theorem FI{l:Lex}(h:bG l=0):l.spells.l.length≤16:=by
 have:=(jW (rU h).2.2.1).1
 omega
end
section
attribute [local congr] aG ct bm aH a7 aN aI aA aC aO aP
variable{E:bB}(M:cT cU E)
end
section
attribute [local congr] aG ct bm aH a7 aN aI aA aC aO aP
variable{E:bB}(M:cT cU E)
structure C9 (M:cT cU E):Prop where
 count:∀ (s:Str) (c:UInt8) (H:List ae),M.run dX [.str s,.int .u8 c.toNat] H=some (.ret (.int .i64 (Lib.countByte s c:Nat)),H)
 noZero:∀ (n:Nat) (H:List ae),n≤281474976710656→M.run dz [.int .i64 n] H=some (.ret (.rslice H.length 0 n 1 true),H++[.cells (List.replicate n .unk) dF])
theorem PE{H L L':List ae}(h:L.length≤L'.length)(hw:∀ x∈L',Rp (H++L).length x):dG (H++L) (H++L'):=⟨by simp;omega,fun i x hi hx=>by
 by_cases h1:i<H.length
 ·left;rw [List.getElem?_append_left h1] at hx ⊢;exact hx
 ·right;rw [List.getElem?_append_right (by omega)] at hx;exact hw x (List.mem_of_getElem? hx)⟩
abbrev qN(a x:AV):ae:=.cells [a,x] bu
theorem RN(hB:pb E)(hX:oZ M)(H:List ae) :
  M.run cq [.ptr H.length 0] (H++[qN .nilp (.slice .nil 1 [])])=some (.ret (.tuple []),H++[qN (.ptr H.length 0) (.slice .nil 1 [])]):=by
 rw [aZ M hB.strings_Builder_copyCheck rfl (c:=bS) rfl,bS]
 have h1:=hX.same H.length 0
 have hc:dG (H++[qN .nilp (.slice .nil 1 [])]) (H++[qN (.ptr H.length 0) (.slice .nil 1 [])]):=PE (by simp) (by
  intro x hx
  obtain rfl:x=_:=by simpa using hx
  intro c hc
  simp only [List.mem_cons,List.not_mem_nil,or_false] at hc
  rcases hc with rfl | rfl
  ·exact wk_ptr (by simp)
  ·exact Q1 _ _)
 have ht:(H++[qN (.ptr H.length 0) (.slice .nil 1 [])]).take (H.length+1)=H++[qN (.ptr H.length 0) (.slice .nil 1 [])]:=List.take_of_length_le (by simp)
 have e1:Qe (H++[qN .nilp (.slice .nil 1 [])]) (.ptr H.length 0)=some (.ptr H.length 0):=by simp [Qe,dW]
 have e2:Qf (H++[qN .nilp (.slice .nil 1 [])]) bu 2 (.ptr H.length 0)=some (.ptr H.length 0):=by simp [Qf,dW]
 simp (maxSteps:=3000000) (maxDischargeDepth:=6) +contextual -implicitDefEqProofs only [amA M,amB,↓aj,↓ab,↓al,↓ak,Nat.reduceBEq,Nat.reduceAdd,env,ao,gX,amG,AV.cell,Nat.reduceMul,Nat.reduceLeDiff,h1,qU,Ps,rnc,e1,e2,hc,ht,wk_tuple]
theorem VJ(hB:pb E)(H L:List ae)(x:AV) :
  M.run cq [.ptr H.length 0] (H++(qN (.ptr H.length 0) x::L))=some (.ret (.tuple []),H++(qN (.ptr H.length 0) x::L)):=by
 rw [aZ M hB.strings_Builder_copyCheck rfl (c:=bS) rfl,bS]
 have ht:(H++(qN (.ptr H.length 0) x::L)).take (H.length+(L.length+1))=H++(qN (.ptr H.length 0) x::L):=List.take_of_length_le (by simp)
 simp (maxSteps:=3000000) (maxDischargeDepth:=6) +contextual -implicitDefEqProofs only [amA M,amB,↓aj,↓ab,↓al,↓ak,Nat.reduceBEq,Nat.reduceAdd,env,ao,gX,Ld,Pt,rnc,ht,wk_tuple]
theorem Q3{g:FuncId}{first cap args:List AV}{H H':List ae}{v:AV}(h:H'.take H.length=H)(T L:List Nat):CI cU E .keep (.fn (.func g) first cap) args H T L (some (.ret v,H'))=some (v,H',T,L):=by
 unfold CI vA
 simp only [H6 h,CH.b,if_true]
theorem UA(hF:qg E)(hX:C9 M)(H:List ae){n:Nat}(hn:n≤281474976710656) :
  M.run mN [.ptr H.length 0,.int .i64 n] (H++[qN (.ptr H.length 0) (.slice .nil 1 [])])=some (.ret (.tuple []),H++[qN (.ptr H.length 0) (.rslice (H.length+1) 0 0 1 true),.cells (List.replicate n .unk) dF]):=by
 rw [aZ M hF.strings_Builder_grow rfl (c:=nv) rfl,nv]
 have w1:IntKind.i64.wrap (2*0)=0:=by decide
 have w2:IntKind.i64.wrap (0+(n:Int))=(n:Int):=by rw [eC (by omega) (by omega)];omega
 have h1:=fun H=>hX.noZero n H hn
 have e0:((0:Nat):Int)=0:=rfl
 have e1:Ow (.slice .nil 1 [])=some (.int .i64 0):=rfl
 have e2:EH 1 (.rslice (H.length+1) 0 n 1 true) none (some (.int .i64 0)) none=some (.rslice (H.length+1) 0 0 1 true):=by simp [EH,fH]
 have e3:rcp (H++[qN (.ptr H.length 0) (.slice .nil 1 []),.cells (List.replicate n .unk) dF]) 1 false (.rslice (H.length+1) 0 0 1 true) (.slice .nil 1 [])=some (.int .i64 0,H++[qN (.ptr H.length 0) (.slice .nil 1 []),.cells (List.replicate n .unk) dF]):=by
  simp only [rcp,CE,true_or,if_true,hp_getk,List.getElem?_cons_succ,List.getElem?_cons_zero,List.length_nil,Nat.le_refl,Nat.zero_le,Nat.zero_mul,Nat.add_zero,true_and,and_true,List.flatten_nil,aJ]
  rw [if_pos (by rfl)]
  rw [List.set_append_right _ _ (by omega)]
  simp
 have hdk:=fun T L=>Q3 (E:=E) (g:=dz) (first:=[]) (cap:=[]) (args:=[.int .i64 n]) (H:=H++[qN (.ptr H.length 0) (.slice .nil 1 [])]) (H':=H++[qN (.ptr H.length 0) (.slice .nil 1 []),.cells (List.replicate n .unk) dF]) (v:=.rslice (H.length+1) 0 n 1 true) (by
  rw [show H++[qN (.ptr H.length 0) (.slice .nil 1 []),ae.cells (List.replicate n .unk) dF]=(H++[qN (.ptr H.length 0) (.slice .nil 1 [])])++[.cells (List.replicate n .unk) dF] by simp,List.take_left]) T L
 simp (maxSteps:=3000000) (maxDischargeDepth:=6) +contextual -implicitDefEqProofs only [amA M,amB,↓aj,↓ab,↓al,↓ak,Nat.reduceBEq,Nat.reduceAdd,env,ao,B2,amG,AV.cell,Nat.reduceMul,Nat.reduceLeDiff,rnc,w1,w2,h1,e0,e1,e2,e3,hdk]
theorem S1(hB:pb E)(hE:oZ M)(hF:qg E)(hX:C9 M)(H:List ae){n:Nat}(h0:0<n)(hn:n≤281474976710656) :
  M.run jO [.ptr H.length 0,.int .i64 n] (H++[qN .nilp (.slice .nil 1 [])])=some (.ret (.tuple []),H++[qN (.ptr H.length 0) (.rslice (H.length+1) 0 0 1 true),.cells (List.replicate n .unk) dF]):=by
 rw [aZ M hF.strings_Builder_Grow rfl (c:=im) rfl,im]
 have w1:IntKind.i64.wrap (0-0)=0:=by decide
 have e0:((0:Nat):Int)=0:=rfl
 have e1:Ow (.slice .nil 1 [])=some (.int .i64 0):=rfl
 have d1:decide ((n:Int)<0)=false:=decide_eq_false (by omega)
 have d2:decide ((0:Int)<(n:Int))=true:=decide_eq_true (by omega)
 have d3:decide (0<n)=true:=decide_eq_true h0
 simp (maxSteps:=3000000) (maxDischargeDepth:=6) +contextual -implicitDefEqProofs only [amA M,amB,↓aj,↓ab,↓al,↓ak,Nat.reduceBEq,Nat.reduceAdd,env,ao,sw,amG,AV.cell,Nat.reduceMul,Nat.reduceLeDiff,rnc,RN M hB hE,UA M hF hX H hn,w1,e0,e1,d1,d2,d3]
theorem Q4(hB:pb E)(hE:oZ M)(hF:qg E)(H:List ae) :
  M.run jO [.ptr H.length 0,.int .i64 0] (H++[qN .nilp (.slice .nil 1 [])])=some (.ret (.tuple []),H++[qN (.ptr H.length 0) (.slice .nil 1 [])]):=by
 rw [aZ M hF.strings_Builder_Grow rfl (c:=im) rfl,im]
 have w1:IntKind.i64.wrap (0-0)=0:=by decide
 have e0:((0:Nat):Int)=0:=rfl
 have e1:Ow (.slice .nil 1 [])=some (.int .i64 0):=rfl
 have d1:decide ((0:Int)<0)=false:=rfl
 simp (maxSteps:=3000000) (maxDischargeDepth:=6) +contextual -implicitDefEqProofs only [amA M,amB,↓aj,↓ab,↓al,↓ak,Nat.reduceBEq,Nat.reduceAdd,env,ao,sw,amG,AV.cell,Nat.reduceMul,Nat.reduceLeDiff,rnc,RN M hB hE,w1,e0,e1,d1]
end
section
attribute [local congr] aG ct bm aH a7 aN aI aA aC aO aP
variable{E:bB}(M:cT cU E)
def Bk(s:Str):Str:=s.filter fun c => !(c == 43)
inductive BL where
 |nil
 |room (n:Nat)
 |own (w:Str)
def BL.str:BL→Str
 |.own w=>w
 |_=>[]
def BL.wr:BL→Str→BL
 |.nil,_=>.nil
 |.room _,s=>.own s
 |.own w,s=>.own (w++s)
def BL.heap(H:List ae):BL→List ae
 |.nil=>H++[qN (.ptr H.length 0) (.slice .nil 1 [])]
 |.room n=>H++[qN (.ptr H.length 0) (.rslice (H.length+1) 0 0 1 true),.cells (List.replicate n .unk) dF]
 |.own w=>H++[qN (.ptr H.length 0) (.slice (.own (H.length+1)) 1 (gu w)),bTok w]
theorem PF(H:List ae):BL.heap H .nil=H++[qN (.ptr H.length 0) (.slice .nil 1 [])]:=rfl
theorem M7(H:List ae)(n:Nat):BL.heap H (.room n)=H++[qN (.ptr H.length 0) (.rslice (H.length+1) 0 0 1 true),.cells (List.replicate n .unk) dF]:=rfl
theorem BL.wr_str(b:BL)(s:Str)(h:b = .nil→s=[]):(b.wr s).str=b.str++s:=by
 cases b with
 |nil=>rw [h rfl];rfl
 |room n=>rfl
 |own w=>rfl
theorem BL.wr_nil{b:BL}{s:Str}(h:b.wr s = .nil):b = .nil:=by cases b<;>simp [BL.wr] at h ⊢
theorem ap2(H:List ae)(x:ae){w s:Str}(h:w.length+s.length≤140737488355328) :
  rap false (H++[x,bTok w]) dF 1 1 true (.slice (.own (H.length+1)) 1 (gu w)) (.str s)=some (.slice (.own (H.length+1)) 1 (gu (w++s)),H++[x,bTok (w++s)]):=by
 have:=QS (H++[x]) [] h
 rw [List.append_assoc,List.append_assoc,List.length_append] at this
 exact this
theorem apR(H:List ae)(x:ae)(n:Nat){s:Str}(h:s.length≤140737488355328) :
  rap false (H++[x,.cells (List.replicate n .unk) dF]) dF 1 1 true (.rslice (H.length+1) 0 0 1 true) (.str s)=some (.slice (.own (H.length+1)) 1 (gu s),H++[x,bTok s]):=by
 have h2:=ap2 H x (w:=[]) (s:=s) (by simpa using h)
 have e:(H++[x,ae.cells (List.replicate n .unk) dF]).set (H.length+1) (.tok 0 dF)=H++[x,bTok []]:=by
  rw [List.set_append_right _ _ (by omega)];simp
 rw [List.nil_append] at h2
 rw [← h2]
 show (match (H++[x,ae.cells (List.replicate n .unk) dF])[H.length+1]? with
  |some (.cells _ T)=>Dv ((H++[x,ae.cells (List.replicate n .unk) dF]).set (H.length+1) (.tok 0 T)) dF 1 1 true (.slice (.own (H.length+1)) 1 []) (.str s)
  |_=>none)=_
 rw [hp_getk]
 simp only [List.getElem?_cons_succ,List.getElem?_cons_zero]
 rw [e]
 rfl
theorem apN(H:List ae):rap false H dF 1 1 true (.slice .nil 1 []) (.str [])=some (.slice .nil 1 [],H):=by
 simp [rap,Dv,CE,oe]
theorem UB(H:List ae)(x y:ae)(w:Str):dG (H++[x,y]) (H++[qN (.ptr H.length 0) (.slice (.own (H.length+1)) 1 (gu w)),bTok w]):=PE (by simp) (by
 intro z hz
 simp only [List.mem_cons,List.not_mem_nil,or_false] at hz
 rcases hz with rfl | rfl
 ·intro c hc
  simp only [List.mem_cons,List.not_mem_nil,or_false] at hc
  rcases hc with rfl | rfl
  ·exact wk_ptr (by simp)
  ·exact wk_slice (show H.length+1<_ by simp) (Pq _ _)
 ·trivial)
theorem N0(H:List ae)(x y:ae):(H++[x,y]).take (H.length+2)=H++[x,y]:=List.take_of_length_le (by simp)
theorem RP(H:List ae)(x:ae):(H++[x]).take (H.length+1)=H++[x]:=List.take_of_length_le (by simp)
theorem Q5(hB:pb E)(H:List ae)(b:BL){s:Str}(h:b.str.length+s.length≤140737488355328)(hn:b = .nil→s=[]) :
  M.run aQ [.ptr H.length 0,.str s] (b.heap H)=some (.ret (.tuple [.int .i64 s.length,.nilif]),(b.wr s).heap H):=by
 rw [aZ M hB.strings_Builder_WriteString rfl (c:=cJ) rfl,cJ]
 have hc1:=fun L x=>VJ M hB H L x
 cases b with
 |nil=>
  rw [hn rfl]
  simp only [BL.heap,BL.wr]
  have a1:=fun H=>apN H
  simp (maxSteps:=3000000) (maxDischargeDepth:=6) +contextual -implicitDefEqProofs only [amA M,amB,↓aj,↓ab,↓al,↓ak,Nat.reduceBEq,Nat.reduceAdd,env,ao,ek,amG,AV.cell,Nat.reduceMul,Nat.reduceLeDiff,hc1,rnc,a1,RP,cut_refl,wk_tuple]
 |room n=>
  simp only [BL.heap,BL.wr]
  have a1:=fun x=>apR H x n (s:=s) (by simp [BL.str] at h;omega)
  have hcut:=fun x y=>UB H x y s
  simp (maxSteps:=3000000) (maxDischargeDepth:=6) +contextual -implicitDefEqProofs only [amA M,amB,↓aj,↓ab,↓al,↓ak,Nat.reduceBEq,Nat.reduceAdd,env,ao,ek,amG,AV.cell,Nat.reduceMul,Nat.reduceLeDiff,hc1,rnc,a1,hcut,N0,wk_tuple]
 |own w=>
  simp only [BL.heap,BL.wr]
  have a1:=fun x=>ap2 H x (w:=w) (s:=s) h
  have hcut:=fun x y=>UB H x y (w++s)
  simp (maxSteps:=3000000) (maxDischargeDepth:=6) +contextual -implicitDefEqProofs only [amA M,amB,↓aj,↓ab,↓al,↓ak,Nat.reduceBEq,Nat.reduceAdd,env,ao,ek,amG,AV.cell,Nat.reduceMul,Nat.reduceLeDiff,hc1,rnc,a1,hcut,N0,wk_tuple]
theorem UC(hB:pb E)(H:List ae)(b:BL)(h:b.str.length≤9223372036854775807)(hr:∀ n,b≠.room n) :
  M.run dc [.ptr H.length 0] (b.heap H)=some (.ret (.str b.str),b.heap H):=by
 rw [aZ M hB.strings_Builder_String rfl (c:=gr) rfl,gr]
 cases b with
 |room n=>exact absurd rfl (hr n)
 |nil=>
  simp only [BL.heap,BL.str]
  have e1:R9 (.slice .nil 1 [])=some (.sdp 0 []):=rfl
  have e2:∀ H,Nz H dF (.sdp 0 []) (.int .i64 0)=some (.str []):=fun H=>rfl
  have e0:((0:Nat):Int)=0:=rfl
  simp (maxSteps:=3000000) (maxDischargeDepth:=6) +contextual -implicitDefEqProofs only [amA M,amB,↓aj,↓ab,↓al,↓ak,Nat.reduceBEq,Nat.reduceAdd,env,ao,lr,amG,AV.cell,Nat.reduceMul,Nat.reduceLeDiff,qU,rnc,e0,e1,e2,RP]
 |own w=>
  simp only [BL.heap,BL.str] at h ⊢
  have e2:∀ x,Nz (H++[x,bTok w]) dF (.sdp (H.length+1) (gu w)) (.int .i64 (w.length:Int))=some (.str w):=fun x=>by
   have:=Wf (H++[x]) [] w h
   rw [List.append_assoc,List.length_append] at this
   exact this
  simp (maxSteps:=3000000) (maxDischargeDepth:=6) +contextual -implicitDefEqProofs only [amA M,amB,↓aj,↓ab,↓al,↓ak,Nat.reduceBEq,Nat.reduceAdd,env,ao,lr,amG,AV.cell,Nat.reduceMul,Nat.reduceLeDiff,qU,rnc,Wg,e2,N0]
theorem Q6(hF:qg E)(hS:SpE E)(hX:oZ M)(s:Str)(c:UInt8)(H:List ae):M.run nI [.str s,.str [c]] H=some (.ret (.int .i64 (Lib.indexByte s c)),H):=by
 have h1:M.run cL [.str s,.int .u8 c.toNat] H=some (.ret (.int .i64 (Lib.indexByte s c)),H):=by
  rw [aZ M hS.internal_stringslite_IndexByte rfl (c:=dJ) rfl,dJ]
  have h2:=hX.index s c H
  simp (maxSteps:=3000000) (maxDischargeDepth:=6) +contextual -implicitDefEqProofs only [amA M,amB,↓aj,↓ab,↓al,↓ak,Nat.reduceBEq,Nat.reduceAdd,env,ao,kP,h2]
 have h2:M.run gx [.str s,.str [c]] H=some (.ret (.int .i64 (Lib.indexByte s c)),H):=by
  rw [aZ M hF.internal_stringslite_Index rfl (c:=jx) rfl,jx]
  have e0:((([c].length:Nat):Int) == 0)=false:=rfl
  have e1:((([c].length:Nat):Int) == 1)=true:=rfl
  have e2:I8 ([c]:Str)[0]?=some (.int .u8 (c.toNat:Int)):=rfl
  cases he:([c]:Str) == s with
  |true=>
   have:Lib.indexByte s c=0:=by rw [← eq_of_beq he];simp [Lib.indexByte]
   rw [this]
   simp (maxSteps:=3000000) (maxDischargeDepth:=6) +contextual -implicitDefEqProofs only [amA M,amB,↓aj,↓ab,↓al,↓ak,Nat.reduceBEq,Nat.reduceAdd,env,ao,nQ,e0,e1,he]
  |false=>
   simp (maxSteps:=3000000) (maxDischargeDepth:=6) +contextual -implicitDefEqProofs only [amA M,amB,↓aj,↓ab,↓al,↓ak,Nat.reduceBEq,Nat.reduceAdd,env,ao,nQ,e0,e1,e2,h1,he]
 rw [aZ M hF.strings_Index rfl (c:=vf) rfl,vf]
 simp (maxSteps:=3000000) (maxDischargeDepth:=6) +contextual -implicitDefEqProofs only [amA M,amB,↓aj,↓ab,↓al,↓ak,Nat.reduceBEq,Nat.reduceAdd,env,ao,Jx,h2]
theorem Q7(hF:qg E)(hX:C9 M)(s:Str)(c:UInt8)(H:List ae):M.run kA [.str s,.str [c]] H=some (.ret (.int .i64 (Lib.countByte s c:Nat)),H):=by
 rw [aZ M hF.strings_Count rfl (c:=ve) rfl,ve]
 have h2:=hX.count s c H
 have e0:((([c].length:Nat):Int) == 0)=false:=rfl
 have e1:((([c].length:Nat):Int) == 1)=true:=rfl
 have e2:I8 ([c]:Str)[0]?=some (.int .u8 (c.toNat:Int)):=rfl
 simp (maxSteps:=3000000) (maxDischargeDepth:=6) +contextual -implicitDefEqProofs only [amA M,amB,↓aj,↓ab,↓al,↓ak,Nat.reduceBEq,Nat.reduceAdd,env,ao,Jw,e0,e1,e2,h2]
theorem UD(a b:Str):Bk (a++b)=Bk a++Bk b:=List.filter_append ..
theorem Je:∀ (s:Str) (m:Nat),Lib.countByte s 43=m+1→∃ a r,s=a++43::r∧Bk a=a∧Lib.indexByte s 43=(a.length:Int)∧Lib.countByte r 43=m
 |[],m,h=>by simp [Lib.countByte] at h
 |c::s,m,h=>by
  by_cases hc:c=43
  ·subst hc
   exact ⟨[],s,rfl,rfl,by simp [Lib.indexByte],by simpa [Lib.countByte] using h⟩
  ·obtain ⟨a,r,h1,h2,h3,h4⟩:=Je s m (by rwa [Lib.countByte,List.count_cons_of_ne (Ne.symm (by simpa using (fun e=>hc e.symm)))] at h)
   refine ⟨c::a,r,by rw [h1];rfl, ?_, ?_,h4⟩
   ·simp only [Bk,List.filter_cons] at h2 ⊢
    simp [hc,h2]
   ·have hb:(c == 43)=false:=by simpa using hc
    simp only [Lib.indexByte,hb,h3]
    have:((a.length:Int) == -1)=false:=beq_eq_false_iff_ne.2 (by omega)
    simp [this]
theorem RQ{s:Str}(h:Lib.countByte s 43=0):Bk s=s:=by
 simp only [Lib.countByte] at h
 rw [List.count_eq_zero] at h
 exact List.filter_eq_self.2 fun c hc=>by
  have:c≠43:=fun e=>h (e ▸ hc)
  simpa using this
theorem PG{s:Str}(h:∀ x∈s,x=43):Bk s=[]:=List.filter_eq_nil_iff.2 fun c hc=>by simp [h c hc]
theorem rpl(hN:cS E)(hF:qg E)(hS:SpE E)(hX:oZ M)(hB:pb E){s:Str}(hs:s.length≤1000000){H H0:List ae}(N:Nat)(k:List Fra):∀ (m i st:Nat) (b:BL) (He:List ae),i+m=N→N≤1000000→st≤s.length→b.str.length≤st→Lib.countByte (s.drop st) 43=m→(b = .nil→∀ x∈s,x=43) →
  ∃ (st':Nat) (b':BL),st'≤s.length∧b'.str++s.drop st'=b.str++Bk (s.drop st)∧b'.str.length≤st'∧(b' = .nil→∀ x∈s,x=43) ∧
   M.go eh H0 (.c jz :: .lp ⟨(some [0,1,2,10,11,52,53]),[],false⟩ jz He :: .blk 0 :: .c (.lv [0,10,11])::k) (kv [(0,.str s),(1,.str [43]),(2,.str []),(10,.ptr H.length 0),(11,.int .i64 st),(52,.int .i64 N),(53,.int .i64 i)]) (b.heap H)=M.go eh H0 k (kv [(0,.str s),(10,.ptr H.length 0),(11,.int .i64 st')]) (b'.heap H)
 |0,i,st,b,He,hi,hN2,hst,hbl,hc,hb=>by
  refine ⟨st,b,hst,by rw [RQ hc],hbl,hb, ?_⟩
  have e:i=N:=by omega
  subst e
  rw [aw M jz.eq_1]
  simp (maxSteps:=3000000) (maxDischargeDepth:=6) +contextual -implicitDefEqProofs only [amA M,amB,↓aj,↓ab,↓al,↓ak,Nat.reduceBEq,Nat.reduceAdd,env,ao,jd,Nat.lt_irrefl]
 |m+1,i,st,b,He,hi,hN2,hst,hbl,hc,hb=>by
  obtain ⟨a,r,h1,h2,h3,h4⟩:=Je _ _ hc
  have hlen:a.length+(r.length+1)=s.length-st:=by
   have:=congrArg List.length h1
   simpa using this.symm
  have hdr:s.drop (st+a.length+1)=r:=by
   rw [Nat.add_assoc,← List.drop_drop,h1,List.drop_append,List.drop_of_length_le (by omega)]
   simp
  have hta:(s.drop st).take a.length=a:=by rw [h1];simp
  have hbn:b = .nil→a=[]:=fun e=>by
   have:Bk a=[]:=PG fun x hx=>hb e x (List.mem_of_mem_drop (by rw [h1];simp [hx]))
   rw [← h2,this]
  have hw1:=Q5 M hB H b (s:=a) (by omega) hbn
  have hs1:=b.wr_str a hbn
  have hw2:=Q5 M hB H (b.wr a) (s:=[]) (by rw [hs1];simp;omega) (fun _=>rfl)
  have hs2:=(b.wr a).wr_str [] (fun _=>rfl)
  rw [List.append_nil] at hs2
  have hbb:(b.wr a).wr [] = .nil→∀ x∈s,x=43:=fun e=>hb (BL.wr_nil (BL.wr_nil e))
  obtain ⟨st',b',g1,g2,g3,g4,g5⟩:=rpl hN hF hS hX hB hs (H:=H) (H0:=H0) N k m (i+1) (st+a.length+1) ((b.wr a).wr []) (((b.wr a).wr []).heap H) (by omega) hN2 (by omega) (by rw [hs2,hs1];simp;omega) (by rw [hdr];exact h4) hbb
  refine ⟨st',b',g1, ?_,g3,g4, ?_⟩
  ·rw [g2,hs2,hs1,hdr,h1,UD,h2,List.append_assoc]
   congr 1
  ·simp only [kv_cons,kv_nil] at g5 ⊢
   rw [← g5]
   have hin:i<N:=by omega
   have hix:=fun H=>Q6 M hF hS hX (s.drop st) 43 H
   rw [h3] at hix
   have q1:=xx (s:=s) (k:=.i64) hst
   have q2:=Uj (s:=s) (k:=.i64) (k':=.i64) (i:=st) (j:=st+a.length) (by omega) (by omega)
   rw [Nat.add_sub_cancel_left,hta] at q2
   have q3:IntKind.i64.wrap ((st:Int)+(a.length:Int))=((st+a.length:Nat):Int):=by rw [eC (by omega) (by omega)];omega
   have q4:IntKind.i64.wrap (((st+a.length:Nat):Int)+1)=((st+a.length+1:Nat):Int):=by rw [eC (by omega) (by omega)];omega
   have q5:((([43]:Str).length:Nat):Int)=1:=rfl
   rw [aw M jz.eq_1]
   simp (maxSteps:=3000000) (maxDischargeDepth:=6) +contextual -implicitDefEqProofs only [amA M,amB,↓aj,↓ab,↓al,↓ak,Nat.reduceBEq,Nat.reduceAdd,env,ao,jd,hin,hix,q1,q2,q3,q4,q5,hw1,hw2,cY hin (show N≤bH by simp only [bH];omega)]
theorem PH(hN:cS E)(hF:qg E)(hS:SpE E)(hX:oZ M)(hY:C9 M)(hB:pb E){s:Str}(hs:s.length≤1000000)(H:List ae) :
  M.run sg [.str s,.str [43],.str [],.int .i64 (-1)] H=some (.ret (.str (Bk s)),H):=by
 rw [aZ M hF.strings_Replace rfl (c:=ss) rfl,ss]
 have hct:=fun H=>Q7 M hF hY s 43 H
 have q5:((([43]:Str).length:Nat):Int)=1:=rfl
 have q6:(([43]:Str) == [])=false:=rfl
 have q7:((-1:Int) == 0)=false:=rfl
 have q8:decide ((-1:Int)<0)=true:=rfl
 have q9:decide ((0:Int)<1)=true:=rfl
 have z0:((0:Nat):Int)=0:=rfl
 have z1:((1:Nat):Int)=1:=rfl
 have w1:IntKind.i64.wrap (0-1) = -1:=by decide
 generalize hc:Lib.countByte s 43=n at hct
 have hcl:n≤s.length:=by rw [← hc];exact List.count_le_length
 cases hn:(n:Int) == 0 with
 |true=>
  have:n=0:=by have:=eq_of_beq hn;omega
  rw [RQ (by rw [hc];exact this)]
  simp (maxSteps:=3000000) (maxDischargeDepth:=6) +contextual -implicitDefEqProofs only [amA M,amB,↓aj,↓ab,↓al,↓ak,Nat.reduceBEq,Nat.reduceAdd,env,ao,jd,hct,q5,q6,q7,q8,hn]
 |false=>
  have hn0:0<n:=by have:=beq_eq_false_iff_ne.1 hn;omega
  have w2:IntKind.i64.wrap ((n:Int) * -1) = -(n:Int):=by rw [eC (by omega) (by omega)];omega
  have w3:IntKind.i64.wrap ((s.length:Int) + -(n:Int))=((s.length-n:Nat):Int):=by rw [eC (by omega) (by omega)];omega
  have fin:∀ (b:BL) (st:Nat),st≤s.length→b.str.length≤st→b.str++s.drop st=Bk s→(b = .nil→∀ x∈s,x=43) →
    M.go eh H [.c (.seq (.seq (.ops [⟨(some 99),none,(.op (.mv (.t 0)))⟩,⟨(some 100),none,(.op (.mv (.t 11)))⟩,⟨(some 101),none,(.op (.sls (.t 99) (some (.t 100)) none))⟩,⟨(some 102),none,(.call (.c (.fn (.func aQ) [] [])) [(.t 10),(.t 101)])⟩]) (.lv [10])) (.seq (.ops [⟨(some 103),none,(.call (.c (.fn (.func dc) [] [])) [(.t 10)])⟩,⟨(some 8),none,(.op (.mv (.t 103)))⟩]) .ret))] (uS (uS (uS Env.leaf 11 (.int .i64 st)) 10 (.ptr H.length 0)) 0 (.str s)) (b.heap H)=some (.ret (.str (Bk s)),H):=by
   intro b st h1 h2 h3 h4
   have hbn:b = .nil→s.drop st=[]:=fun e=>by
    have h5:=PG (h4 e)
    rw [h5] at h3
    exact (List.append_eq_nil_iff.1 h3).2
   have a1:=Q5 M hB H b (s:=s.drop st) (by simp;omega) hbn
   have a2:=b.wr_str (s.drop st) hbn
   have a3:=UC M hB H (b.wr (s.drop st)) (by rw [a2];simp;omega) (fun n e=>by cases b<;>simp [BL.wr] at e)
   rw [a2,h3] at a3
   have q1:=xx (s:=s) (k:=.i64) h1
   have hcut:∀ b:BL,dG H (b.heap H):=fun b=>by cases b<;>exact cut_app H _
   have htk:∀ b:BL,(b.heap H).take H.length=H:=fun b=>by cases b<;>simp [BL.heap]
   simp (maxSteps:=3000000) (maxDischargeDepth:=6) +contextual -implicitDefEqProofs only [amA M,amB,↓aj,↓ab,↓al,↓ak,Nat.reduceBEq,Nat.reduceAdd,env,ao,jd,q1,a1,a3,hcut,htk]
  by_cases hg:s.length-n=0
  ·have hall:∀ x∈s,x=43:=by
    have:s.count 43=s.length:=by rw [Lib.countByte] at hc;omega
    exact fun x hx=>((List.count_eq_length.1 this) x hx).symm
   have hgr:=Q4 M hB hX hF H
   obtain ⟨st',b',g1,g2,g3,g4,g5⟩:=rpl M hN hF hS hX hB hs (H:=H) (H0:=H) n [.c (.seq (.seq (.ops [⟨(some 99),none,(.op (.mv (.t 0)))⟩,⟨(some 100),none,(.op (.mv (.t 11)))⟩,⟨(some 101),none,(.op (.sls (.t 99) (some (.t 100)) none))⟩,⟨(some 102),none,(.call (.c (.fn (.func aQ) [] [])) [(.t 10),(.t 101)])⟩]) (.lv [10])) (.seq (.ops [⟨(some 103),none,(.call (.c (.fn (.func dc) [] [])) [(.t 10)])⟩,⟨(some 8),none,(.op (.mv (.t 103)))⟩]) .ret))] n 0 0 .nil (H++[qN (.ptr H.length 0) (.slice .nil 1 [])]) (by omega) (by omega) (Nat.zero_le _) (Nat.le_refl _) hc (fun _=>hall)
   have g6:=fin b' st' g1 g3 g2 g4
   simp only [kv_cons,kv_nil,Int.ofNat_zero,PF,M7] at g5
   rw [hg,z0] at w3
   rw [← g6,← g5]
   simp (maxSteps:=3000000) (maxDischargeDepth:=6) +contextual -implicitDefEqProofs only [amA M,amB,↓aj,↓ab,↓al,↓ak,Nat.reduceBEq,Nat.reduceAdd,env,ao,jd,amG,AV.cell,Nat.reduceMul,Nat.reduceLeDiff,hct,z0,z1,q5,q6,q7,q8,q9,hn,w1,w2,w3,hgr]
  ·have hgr:=S1 M hB hX hF hY H (n:=s.length-n) (by omega) (by omega)
   obtain ⟨st',b',g1,g2,g3,g4,g5⟩:=rpl M hN hF hS hX hB hs (H:=H) (H0:=H) n [.c (.seq (.seq (.ops [⟨(some 99),none,(.op (.mv (.t 0)))⟩,⟨(some 100),none,(.op (.mv (.t 11)))⟩,⟨(some 101),none,(.op (.sls (.t 99) (some (.t 100)) none))⟩,⟨(some 102),none,(.call (.c (.fn (.func aQ) [] [])) [(.t 10),(.t 101)])⟩]) (.lv [10])) (.seq (.ops [⟨(some 103),none,(.call (.c (.fn (.func dc) [] [])) [(.t 10)])⟩,⟨(some 8),none,(.op (.mv (.t 103)))⟩]) .ret))] n 0 0 (.room (s.length-n)) (H++[qN (.ptr H.length 0) (.rslice (H.length+1) 0 0 1 true),.cells (List.replicate (s.length-n) .unk) dF]) (by omega) (by omega) (Nat.zero_le _) (Nat.le_refl _) hc (fun e=>by cases e)
   have g6:=fin b' st' g1 g3 g2 g4
   simp only [kv_cons,kv_nil,Int.ofNat_zero,PF,M7] at g5
   rw [← g6,← g5]
   simp (maxSteps:=3000000) (maxDischargeDepth:=6) +contextual -implicitDefEqProofs only [amA M,amB,↓aj,↓ab,↓al,↓ak,Nat.reduceBEq,Nat.reduceAdd,env,ao,jd,amG,AV.cell,Nat.reduceMul,Nat.reduceLeDiff,hct,z0,z1,q5,q6,q7,q8,q9,hn,w1,w2,w3,hgr]
theorem Lt(hN:cS E)(hF:qg E)(hS:SpE E)(hX:oZ M)(hY:C9 M)(hB:pb E){s:Str}(hs:s.length≤1000000)(H:List ae) :
  M.run po [.str s,.str [43],.str []] H=some (.ret (.str (Bk s)),H):=by
 rw [aZ M hF.strings_ReplaceAll rfl (c:=py) rfl,py]
 simp (maxSteps:=3000000) (maxDischargeDepth:=6) +contextual -implicitDefEqProofs only [amA M,amB,↓aj,↓ab,↓al,↓ak,Nat.reduceBEq,Nat.reduceAdd,env,ao,DO,PH M hN hF hS hX hY hB hs]
end
section
attribute [local congr] aG ct bm aH a7 aN aI aA aC aO aP
variable{E:bB}(M:cT cU E)
def VK(q:Int):Nat→bV→Option AV:=fun _ f=>sel (f.slot == q) (some (.str f.word)) none
def Q8(l:List bV)(q:Int):Option Str:=(l.find? fun f=>f.slot == q).map (·.word)
theorem M8(q:Int)(H:List ae)(x:Option Out):∀ (l:List bV) (i:Nat),orE (fI (VK q) i l) H x=match Q8 l q with
  |some w=>some (.ret (.str w),H)
  |none=>x
 |[],_=>rfl
 |f::l,i=>by
  rw [uv,show VK q i f=sel (f.slot == q) (some (.str f.word)) none from rfl,JM,JL,G4,G3,G5,M8 q H x l]
  simp only [Q8,List.find?_cons]
  cases f.slot == q<;>rfl
def Mk(o:Option (List Str)):Str:=
 match o with
 |none=>[]
 |some r=>sel (decide ((24:Int)<((Bk (r.getLastD [])).length:Int))) [] (Bk (r.getLastD []))
def jB(l:Lex)(x:aF)(s:br)(q:Int):Str:=
 match Q8 x.forms.l q with
 |some w=>w
 |none=>Mk (xA l x s)
theorem Lu(v:Str):∀ (l:List bA) (o:List Str) (u:Str) (r:List Str),u.length≤1000→CD v (o++[u]) u l=some r→∃ r' u',r=r'++[u']∧u'.length≤1000∧r.length=o.length+1+l.length
 |[],o,u,r,hu,h=>by
  obtain rfl:=Option.some.inj h
  exact ⟨o,u,rfl,hu,by simp⟩
 |x::l,o,u,r,hu,h=>by
  rw [CD] at h
  cases hd:decide (((uM v x u).length:Int)≤512) with
  |false=>rw [hd] at h;simp [sel] at h
  |true=>
   rw [hd] at h
   obtain ⟨r',u',h1,h2,h3⟩:=Lu v l (o++[u]) (uM v x u) r (by have:=of_decide_eq_true hd;omega) h
   exact ⟨r',u',h1,h2,by rw [h3];simp;omega⟩
theorem PI{l:Lex}(hk:bG l=0){e q:Int}{x:aF}{c:a6}{s:br}(hA:At l e q x c s){r:List Str}(h:xA l x s=some r):∃ r' u',r=r'++[u']∧u'.length≤1000∧r.length≤100:=by
 unfold xA at h
 cases ho:Ls x.lem s with
 |none=>rw [ho] at h;cases h
 |some u=>
  rw [ho] at h
  have hul:u.length≤1000:=by
   have:=PC (ED hA.ent.lem) hA.sok
   unfold Ls at ho
   revert ho
   cases decide ((x.lem.length:Int)<s.cut) with
   |true=>simp [sel]
   |false=>intro ho;rw [← Option.some.inj ho];omega
  obtain ⟨r',u',h1,h2,h3⟩:=Lu l.vowels l.spells.l [] u r hul h
  have:=FI hk
  exact ⟨r',u',h1,h2,by simp at h3;omega⟩
theorem mfl{H H0:List ae}{e q:Int}{x:aF}{n0:Nat}(hx0:x.ok n0)(hn:n0≤H.length){p:Nat}(hpl:p<H.length)(hc:dG H0 H)(k:List Fra):∀ (n i:Nat),i+n=(x.forms.l).length →
  M.go dv H0 (.c gP :: .lp ⟨(some [1,2,3,20,21,22]),[],true⟩ gP H :: .blk 0 :: .c (.lv [1,2,3])::k) (kv [(1,.int .i64 e),(2,.int .i64 q),(3,.ptr p 0),(20,.slice x.forms.tag 2 (x.forms.l.map bV.row)),(21,.int .i64 x.forms.l.length),(22,.int .i64 i)]) H =
   orE (fI (VK q) i (x.forms.l.drop i)) (H.take H0.length) (M.go dv H0 k (kv [(1,.int .i64 e),(2,.int .i64 q),(3,.ptr p 0)]) H)
 |0,i,h=>by
  have e:i=(x.forms.l).length:=by omega
  subst e
  rw [aw M gP.eq_1]
  simp (maxSteps:=3000000) (maxDischargeDepth:=6) +contextual -implicitDefEqProofs only [amA M,amB,↓aj,↓ab,↓al,↓ak,Nat.reduceBEq,Nat.reduceAdd,env,ao,gb,Nat.lt_irrefl,List.drop_length]
 |n+1,i,h=>by
  have hi:i<(x.forms.l).length:=by omega
  have hx:(x.forms.l)[i]?=some (x.forms.l)[i]:=List.getElem?_eq_getElem hi
  have hd:((x.forms.l).drop i)=(x.forms.l)[i]::(x.forms.l).drop (i+1):=List.drop_eq_getElem_cons hi
  have hm:(x.forms.l)[i]∈(x.forms.l):=List.getElem_mem hi
  have ih:=mfl (H:=H) (H0:=H0) (e:=e) (q:=q) (x:=x) (n0:=n0) (hx0:=hx0) (hn:=hn) (p:=p) (hpl:=hpl) hc k n (i+1)  (by omega)
  simp only [kv_cons,kv_nil] at ih
  have w2:Wk H.length (.ptr p 0) (.ptr p 0):=wk_ptr hpl
  have w3:Wk H.length (.slice x.forms.tag 2 (x.forms.l.map bV.row)) (.slice x.forms.tag 2 (x.forms.l.map bV.row)):=(hx0.forms.mono hn (fun _ h=>h.mono hn)).wk (fun _ h=>h.wk)
  rw [aw M gP.eq_1]
  simp (maxSteps:=3000000) (maxDischargeDepth:=6) +contextual -implicitDefEqProofs only [amA M,amB,↓aj,↓ab,↓al,↓ak,Nat.reduceBEq,Nat.reduceAdd,env,ao,gb,hx,hd,hi,ih,amG,AV.cell,w2,w3,cY hi hx0.forms.len,bz hi,H9,hc,VK]
theorem PJ(r':List Str)(u':Str){t:Tag}(h:(r'++[u']).length≤100):Bx 1 (.slice t 1 ((r'++[u']).map gd)) (.int .i64 (IntKind.i64.wrap (((r'++[u']).length:Int)-1)))=some (.vptr 1 ((r'++[u']).map gd) r'.length 0):=by
 have e:IntKind.i64.wrap (((r'++[u']).length:Int)-1)=(r'.length:Int):=by
  simp only [List.length_append,List.length_cons,List.length_nil] at h ⊢
  rw [eC (by omega) (by omega)];omega
 rw [e]
 exact bz (by simp)
theorem PK(r':List Str)(u':Str):(r'++[u'])[r'.length]?=some u':=by simp
theorem UE(r':List Str)(u':Str):(r'++[u']).getLastD []=u':=by simp
theorem Lv(hN:cS E)(hW:WdE M)(hE:iz E)(hS:SpE E)(hX:oZ M)(hY:C9 M)(hB:pb E)(hF:qg E){l:Lex}(hl:l.ok 0)(hk:bG l=0){e q:Int}{x:aF}{c:a6}{s:br}(hA:At l e q x c s)(H:List ae) :
  M.run eV [.agg l.row,.int .i64 e,.int .i64 q] H=some (.ret (.str (jB l x s q)),H):=by
 rw [aZ M hF.morph_language_form rfl (c:=oA) rfl,oA]
 have hx0:=hl.entries.all x (List.mem_of_getElem? hA.ex)
 have h1:=fun k=>mfl M (H:=H++[.cells l.row aD]) (H0:=H) (e:=e) (q:=q) hx0 (Nat.zero_le _) (p:=H.length) (by simp) (cut_app H _) k x.forms.l.length 0 (by omega)
 simp only [kv_cons,kv_nil,Int.ofNat_zero,List.drop_zero,M8] at h1
 have hsl:=fun H=>Hz M hW hE hF hl e q H
 simp only [hA.sl hk,Option.getD_some,Option.isSome_some] at hsl
 have hst:=fun H=>S0 M hN hS hX hB hF hl (Uo hk) hA (by have:=FI hk;omega) H
 have hsw:∀ n,WkL n s.row s.row:=fun n=>(((hl.classes.all c hA.cm).slots.all s (List.mem_of_getElem? hA.sx)).mono (Nat.zero_le n)).wk
 cases hi:Q8 x.forms.l q with
 |some w=>
  have e1:jB l x s q=w:=by simp [jB,hi]
  rw [e1]
  simp only [hi] at h1
  simp (maxSteps:=3000000) (maxDischargeDepth:=6) +contextual -implicitDefEqProofs only [amA M,amB,↓aj,↓ab,↓al,↓ak,Nat.reduceBEq,Nat.reduceAdd,env,ao,gb,amG,AV.cell,Nat.reduceMul,Nat.reduceLeDiff,h1,hA.ex,gz hA.e0 hA.el,cj,eU]
 |none=>
  have e1:jB l x s q=Mk (xA l x s):=by simp [jB,hi]
  rw [e1]
  simp only [hi] at h1
  cases hr:xA l x s with
  |none=>
   simp only [hr,PD,Option.getD_none,Option.isSome_none,List.map_nil] at hst
   simp (maxSteps:=3000000) (maxDischargeDepth:=6) +contextual -implicitDefEqProofs only [amA M,amB,↓aj,↓ab,↓al,↓ak,Nat.reduceBEq,Nat.reduceAdd,env,ao,gb,amG,AV.cell,Nat.reduceMul,Nat.reduceLeDiff,h1,hsl,hst,hA.ex,gz hA.e0 hA.el,cj,eU,iS,Mk]
  |some r=>
   obtain ⟨r',u',g1,g2,g3⟩:=PI hk hA hr
   subst g1
   simp only [hr,PD,Option.getD_some,Option.isSome_some] at hst
   have hra:=fun H=>Lt M hN hF hS hX hY hB (s:=u') (by omega) H
   cases hd:decide ((24:Int)<((Bk u').length:Int)) with
   |true=>
    have e2:Mk (some (r'++[u']))=[]:=by simp only [Mk,UE,hd,sel]
    rw [e2]
    simp (maxSteps:=3000000) (maxDischargeDepth:=6) +contextual -implicitDefEqProofs only [amA M,amB,↓aj,↓ab,↓al,↓ak,Nat.reduceBEq,Nat.reduceAdd,env,ao,gb,amG,AV.cell,Nat.reduceMul,Nat.reduceLeDiff,h1,hsl,hst,hra,hd,PJ r' u' g3,PK,hA.ex,gz hA.e0 hA.el,cj,eU,iS,OY]
   |false=>
    have e2:Mk (some (r'++[u']))=Bk u':=by simp only [Mk,UE,hd,sel]
    rw [e2]
    simp (maxSteps:=3000000) (maxDischargeDepth:=6) +contextual -implicitDefEqProofs only [amA M,amB,↓aj,↓ab,↓al,↓ak,Nat.reduceBEq,Nat.reduceAdd,env,ao,gb,amG,AV.cell,Nat.reduceMul,Nat.reduceLeDiff,h1,hsl,hst,hra,hd,PJ r' u' g3,PK,hA.ex,gz hA.e0 hA.el,cj,eU,iS,OY]
end
section
attribute [local congr] aG ct bm aH a7 aN aI aA aC aO aP
variable{E:bB}(M:cT cU E)
def Ej(l:Lex)(e q:Int):AV:=
 match xy l e q,Hy l e with
 |some s,some x=>.tuple [.str (jB l x s q),.int .u8 (sel (jB l x s q == []) 7 0)]
 |_,_=>.tuple [.str [],.int .u8 (Bj l e q)]
theorem UF(hN:cS E)(hW:WdE M)(hE:iz E)(hS:SpE E)(hX:oZ M)(hY:C9 M)(hB:pb E)(hF:qg E){l:Lex}(hl:l.ok 0)(e q:Int)(H:List ae) :
  M.run vC [.agg l.row,.int .i64 e,.int .i64 q] H=some (.ret (Ej l e q),H):=by
 rw [aZ M hF.morph_Form rfl (c:=BJ) rfl,BJ]
 have ha:=fun H=>M5 M hN hW hE hF hl e q H
 by_cases hk:bG l=0
 ·cases hsl:slF l e q with
  |none=>
   have e1:Cg l e q = .tuple [.agg Jd.row,.agg Cf.row,.int .u8 7]:=by simp [Cg,xy,Bj,hk,hsl,Mj]
   have e2:Ej l e q = .tuple [.str [],.int .u8 7]:=by simp [Ej,xy,Bj,hk,hsl]
   rw [e1] at ha;rw [e2]
   simp (maxSteps:=3000000) (maxDischargeDepth:=6) +contextual -implicitDefEqProofs only [amA M,amB,↓aj,↓ab,↓al,↓ak,Nat.reduceBEq,Nat.reduceAdd,env,ao,vH,amG,AV.cell,Nat.reduceMul,Nat.reduceLeDiff,ha,b70,cj,iS,wk_tuple]
  |some s=>
   obtain ⟨x,c,hA⟩:=RL hk hsl
   have e1:Cg l e q = .tuple [.agg l.row,.agg s.row,.int .u8 0]:=by simp [Cg,xy,Bj,hk,hsl,Mj]
   have e2:Ej l e q = .tuple [.str (jB l x s q),.int .u8 (sel (jB l x s q == []) 7 0)]:=by simp [Ej,xy,hk,hsl,hA.ent']
   have hf:=fun H=>Lv M hN hW hE hS hX hY hB hF hl hk hA H
   rw [e1] at ha;rw [e2]
   cases hw:jB l x s q == [] with
   |true=>
    rw [eq_of_beq hw] at hf ⊢
    simp (maxSteps:=3000000) (maxDischargeDepth:=6) +contextual -implicitDefEqProofs only [amA M,amB,↓aj,↓ab,↓al,↓ak,Nat.reduceBEq,Nat.reduceAdd,env,ao,vH,amG,AV.cell,Nat.reduceMul,Nat.reduceLeDiff,ha,hf,beq_self_eq_true,b70,b00,cj,iS,wk_tuple,sel]
   |false=>
    simp (maxSteps:=3000000) (maxDischargeDepth:=6) +contextual -implicitDefEqProofs only [amA M,amB,↓aj,↓ab,↓al,↓ak,Nat.reduceBEq,Nat.reduceAdd,env,ao,vH,amG,AV.cell,Nat.reduceMul,Nat.reduceLeDiff,ha,hf,hw,b70,b00,cj,iS,wk_tuple,sel]
 ·have e0:(bG l == 0)=false:=by simpa using hk
  have e1:Cg l e q = .tuple [.agg Jd.row,.agg Cf.row,.int .u8 (bG l)]:=by simp [Cg,xy,Bj,hk,Mj]
  have e2:Ej l e q = .tuple [.str [],.int .u8 (bG l)]:=by simp [Ej,xy,Bj,hk]
  rw [e1] at ha;rw [e2]
  simp (maxSteps:=3000000) (maxDischargeDepth:=6) +contextual -implicitDefEqProofs only [amA M,amB,↓aj,↓ab,↓al,↓ak,Nat.reduceBEq,Nat.reduceAdd,env,ao,vH,amG,AV.cell,Nat.reduceMul,Nat.reduceLeDiff,ha,e0,cj,iS,wk_tuple]
end
section
attribute [local congr] aG ct bm aH a7 aN aI aA aC aO aP
variable{E:bB}(M:cT cU E)
theorem PL{l:Lex}(hk:bG l=0){e:Int}(he:0≤e){x:aF}(hx:l.entries.l[e.toNat]?=some x){c:a6}(hc:yW l x c){i:Nat}{s:br}(hs:c.slots.l[i]?=some s):At l e (i:Int) x c s:=by
 have hcm:c∈l.classes.l:=List.mem_of_find?_eq_some hc.cls
 exact ⟨he,by omega,(List.getElem?_eq_some_iff.1 hx).1,hx,hc,hcm,by simpa using (List.getElem?_eq_some_iff.1 hs).1,by simpa using hs,Wh (RK hk hcm (List.mem_of_getElem? hs))⟩
theorem M9(hW:WdE M)(hE:iz E)(hF:qg E){l:Lex}(hl:l.ok 0){e:Int}(he:0≤e){x:aF}(hx:l.entries.l[e.toNat]?=some x){c:a6}(hc:yW l x c)(H:List ae) :
  M.run jD [.agg l.row,.int .i64 e] H=some (.ret (.int .i64 c.slots.l.length),H):=by
 rw [aZ M hF.morph_language_slots rfl (c:=mT) rfl,mT]
 have hcl:=fun H=>pO M hE hl hc.cls (H:=H) (Nat.zero_le _)
 have hw:=fun H T L=>NT hW (g:=fG) (first:=[]) (cap:=[]) (args:=[.agg l.row,.str x.cls]) (v:=.tuple [.agg c.row,.bool true]) hcl H T L
 simp (maxSteps:=3000000) (maxDischargeDepth:=6) +contextual -implicitDefEqProofs only [amA M,amB,↓aj,↓ab,↓al,↓ak,Nat.reduceBEq,Nat.reduceAdd,env,ao,BN,amG,AV.cell,Nat.reduceMul,Nat.reduceLeDiff,hx,gz he (List.getElem?_eq_some_iff.1 hx).1,An hW,hcl,hw,cj,eU,ku]
theorem EE{l:Lex}(hk:bG l=0){x:aF}{c:a6}(hc:yW l x c):c.slots.l.length≤24:=by
 have hcm:c∈l.classes.l:=List.mem_of_find?_eq_some hc.cls
 obtain ⟨k,hk2⟩:=List.getElem?_of_mem hcm
 have h2:=(jW (rU hk).1).2 k c hk2
 unfold Ga at h2
 have h3:=(fF (by decide) (fF (by decide) (fF (by decide) h2).2).2)
 have:=of_decide_eq_false (fF (by decide) (fF (by decide) (fF (by decide) h2).2).2).1
 omega
end
section
set_option linter.defProp false
structure b4 where
 e:Int
 q:Int
 w:Str
def b4.row(x:b4):List AV:=[.int .i64 x.e,.int .i64 x.q,.str x.w]
theorem Na:(∀ x:b4,o3 3 (b4.row x)=some (b4.row x))∧(∀ x:b4,b8 none (b4.row x) 0=some (.int .i64 x.e))∧(∀ x:b4,b8 none (b4.row x) 1=some (.int .i64 x.q))∧(∀ x:b4,b8 none (b4.row x) 2=some (.str x.w))∧(∀ x:b4,(b4.row x).length=3)∧(∀ x:b4,(b4.row x).all AV.cell=true)∧(∀ x:b4,∀ c0 c1 c2:AV,aJ [c0,c1,c2] 0 (b4.row x)=b4.row x)∧(∀ x:b4,∀ y:b4,aJ (b4.row y) 0 (b4.row x)=b4.row x)∧(∀ x:b4,∀ (y:Int),aJ (b4.row x) 0 [.int .i64 y]=b4.row { x with e:=y })∧(∀ x:b4,∀ (y:Int),aJ (b4.row x) 1 [.int .i64 y]=b4.row { x with q:=y })∧(∀ x:b4,∀ (y:Str),aJ (b4.row x) 2 [.str y]=b4.row { x with w:=y })∧(∀ x:b4,(b4.row x).map AV.strip=b4.row x)∧(∀ x:b4,(b4.row x).take 3=b4.row x)∧(∀ x:b4,(b4.row x).drop 3=[]):=
 by refine ⟨?_, ?_, ?_, ?_, ?_, ?_, ?_, ?_, ?_, ?_, ?_, ?_, ?_, ?_⟩<;>(intros;first | rfl | (simp only [b4.row];rfl) | (simp only [b4.row,iY];rfl))
structure b4.ok (n:Nat) (x:b4):Prop where
 e:I64 x.e
 q:I64 x.q
 w:x.w.length≤bH
theorem b4.ok.mono{n m:Nat}{x:b4}(h:x.ok n)(hn:n≤m):x.ok m:=⟨h.e,h.q,h.w⟩
theorem b4.ok.wk{n:Nat}{x:b4}(h:x.ok n):WkL n x.row x.row:=⟨wk_int _ _ _,wk_int _ _ _,wk_str _ _,trivial⟩
structure bL where
 first:a8
 w:Str
def bL.row(x:bL):List AV:=a8.row x.first++[.str x.w]
theorem Q9:(∀ x:bL,o3 4 (bL.row x)=some (bL.row x))∧(∀ x:bL,o3 3 (bL.row x)=some (a8.row x.first))∧(∀ x:bL,b8 none (bL.row x) 3=some (.str x.w))∧(∀ x:bL,(bL.row x).length=4)∧(∀ x:bL,(bL.row x).all AV.cell=true)∧(∀ x:bL,∀ c0 c1 c2 c3:AV,aJ [c0,c1,c2,c3] 0 (bL.row x)=bL.row x)∧(∀ x:bL,∀ y:bL,aJ (bL.row y) 0 (bL.row x)=bL.row x)∧(∀ x:bL,∀ (y:a8),aJ (bL.row x) 0 (a8.row y)=bL.row { x with first:=y })∧(∀ x:bL,∀ (y:Str),aJ (bL.row x) 3 [.str y]=bL.row { x with w:=y })∧(∀ x:bL,(bL.row x).map AV.strip=bL.row x)∧(∀ x:bL,(bL.row x).take 4=bL.row x)∧(∀ x:bL,(bL.row x).drop 4=[]):=
 by refine ⟨?_, ?_, ?_, ?_, ?_, ?_, ?_, ?_, ?_, ?_, ?_, ?_⟩<;>(intros;first | rfl | (simp only [bL.row,a8.row];rfl) | (simp only [bL.row,a8.row,iY];rfl))
structure bL.ok (n:Nat) (x:bL):Prop where
 first:x.first.ok n
 w:x.w.length≤bH
theorem bL.ok.mono{n m:Nat}{x:bL}(h:x.ok n)(hn:n≤m):x.ok m:=⟨h.first.mono hn,h.w⟩
theorem bL.ok.wk{n:Nat}{x:bL}(h:x.ok n):WkL n x.row x.row:=KC (h.first.wk) ⟨wk_str _ _,trivial⟩
end
section
attribute [local congr] aG ct bm aH a7 aN aI aA aC aO aP
variable{E:bB}(M:cT cU E)
structure N1 (E:bB):Prop where
 morph_language_opens:E.fn jK=some fN
 morph_language_build:E.fn sd=some mS
 morph_Build:E.fn y0=some ze
 truchmanref02_linked:E.fn si=some np
theorem irr_len{l:Lex}{x:aF}{c:a6}(h:yW l x c){q:Int}{w:Str}(hi:Q8 x.forms.l q=some w):w.length≤24:=by
 simp only [Q8,Option.map_eq_some_iff] at hi
 obtain ⟨f,hf,rfl⟩:=hi
 obtain ⟨k,hk⟩:=List.getElem?_of_mem (List.mem_of_find?_eq_some hf)
 have:=rT h.forms k f hk
 rw [Nat.zero_add] at this
 unfold MV at this
 have h3:=(fF (by decide) (fF (by decide) (fF (by decide) this).2).2).1
 cases hw:f.word == [] with
 |true=>rw [eq_of_beq hw];simp
 |false=>
  rw [hw] at h3
  exact ED (by simpa using h3)
theorem UG(o:Option (List Str)):(Mk o).length≤24:=by
 unfold Mk
 split
 ·simp
 ·rename_i r
  cases hd:decide ((24:Int)<((Bk (r.getLastD [])).length:Int)) with
  |true=>simp [sel]
  |false=>have:=of_decide_eq_false hd;simp only [sel];omega
theorem RR{l:Lex}{x:aF}{c:a6}(h:yW l x c)(s:br)(q:Int):(jB l x s q).length≤24:=by
 unfold jB
 split
 ·rename_i w hw;exact irr_len h hw
 ·exact UG _
theorem UH{l:Lex}(hk:bG l=0){k:dK}(h:k∈l.links.l):k.glue.length≤6:=by
 obtain ⟨j,hj⟩:=List.getElem?_of_mem h
 have h5:=(jW (rU hk).2.2.2).2 j k hj
 unfold MW at h5
 split at h5
 ·exact absurd h5 (by decide)
 ·have:=(fF (by decide) h5).1
  simp only [Bool.not_eq_false',qf,Bool.and_eq_true,decide_eq_true_eq] at this
  omega
def UI(x:aF)(s:br)(k:dK):Bool:=x.cls == k.cls&&Gi k.feats.l (vo x s)
theorem JQ{l:Lex}{e q:Int}{x:aF}{c:a6}{s:br}(hA:At l e q x c s):(vo x s).length≤bH:=by
 have hm:=hA.uni
 rw [Eb,hA.ent.short.2,hA.sok.feats.2] at hm
 have hl:=EC _ _ _ _ (Nat.le_refl _) hm
 have h8:=hA.ent.short.1
 have h9:=hA.sok.feats.1
 simp only [bH];omega
theorem S2(hE:iz E)(hU:uN E){srt:List aq→List aq}(hO:vw M srt)(hP:Srt srt)(hF:qg E)(hV:N1 E){l:Lex}{e q:Int}{x:aF}{c:a6}{s:br}(hA:At l e q x c s){k:dK}{n:Nat}(hk:k.ok n)(H:List ae) :
  M.run jK [.agg l.row,.int .i64 e,.agg s.row,.agg k.row] H=some (.ret (.bool (UI x s k)),H):=by
 rw [aZ M hV.morph_language_opens rfl (c:=ni) rfl,ni]
 have h1:=fun H=>Gk M hU hO hP hF hA H
 have h2:=fun H=>vW M hE hU (a:=k.feats) (b:=⟨.any,vo x s⟩) hk.feats.len (JQ hA) H
 simp only at h2
 unfold UI
 cases hc:x.cls == k.cls with
 |true=>
  simp (maxSteps:=3000000) (maxDischargeDepth:=6) +contextual -implicitDefEqProofs only [amA M,amB,↓aj,↓ab,↓al,↓ak,Nat.reduceBEq,Nat.reduceAdd,env,ao,sq,amG,AV.cell,Nat.reduceMul,Nat.reduceLeDiff,h1,h2,hc,hA.ex,gz hA.e0 hA.el,cj,eU,FA,iS]
 |false=>
  simp (maxSteps:=3000000) (maxDischargeDepth:=6) +contextual -implicitDefEqProofs only [amA M,amB,↓aj,↓ab,↓al,↓ak,Nat.reduceBEq,Nat.reduceAdd,env,ao,sq,amG,AV.cell,Nat.reduceMul,Nat.reduceLeDiff,h1,h2,hc,hA.ex,gz hA.e0 hA.el,cj,eU,FA,iS]
end
section
attribute [local congr] aG ct bm aH a7 aN aI aA aC aO aP
variable{E:bB}(M:cT cU E)
end
section
attribute [local congr] aG ct bm aH a7 aN aI aA aC aO aP
variable{E:bB}(M:cT cU E)
structure VM (E:bB):Prop where
 morph_Bundle:E.fn wC=some lR
 morph_Generate:E.fn tI=some eK
def PM(l:Lex)(b:List aq):Int:=sel (!(bG l == 0)) (bG l) (s6 l b)
theorem Ra(hN:cS E)(hE:iz E)(hG:VM E){l:Lex}(hl:l.ok 0){b:Sl aq}(hb:b.ok 0 (aq.ok 0))(H:List ae) :
  M.run wC [.agg l.row,.slice b.tag 2 (b.l.map aq.row)] H=some (.ret (.int .u8 (PM l b.l)),H):=by
 rw [aZ M hG.morph_Bundle rfl (c:=wK) rfl,wK]
 unfold PM
 cases hk:bG l == 0 with
 |false=>
  simp (maxSteps:=3000000) (maxDischargeDepth:=6) +contextual -implicitDefEqProofs only [amA M,amB,↓aj,↓ab,↓al,↓ak,Nat.reduceBEq,Nat.reduceAdd,env,ao,DJ,amG,AV.cell,Nat.reduceMul,Nat.reduceLeDiff,rS M hN hE hl,Nat.zero_le,hk,cj,sel]
 |true=>
  simp (maxSteps:=3000000) (maxDischargeDepth:=6) +contextual -implicitDefEqProofs only [amA M,amB,↓aj,↓ab,↓al,↓ak,Nat.reduceBEq,Nat.reduceAdd,env,ao,DJ,amG,AV.cell,Nat.reduceMul,Nat.reduceLeDiff,rS M hN hE hl,Cd M hE hl hb,Nat.zero_le,hk,cj,sel]
end
section
attribute [local congr] aG ct bm aH a7 aN aI aA aC aO aP
variable{E:bB}(M:cT cU E)
def PN(l:Lex)(fe:List aq)(x:aF)(i:Nat)(s:br)(o:List Str):List Str:=
 sel (!(jB l x s i == [])&&Gi fe (vo x s) && !(o.any fun t=>jB l x s i == t)) (o++[jB l x s i]) o
def IF(l:Lex)(fe:List aq)(x:aF):Nat→List br→List Str→List Str
 |_,[],o=>o
 |i,s::t,o=>IF l fe x (i+1) t (PN l fe x i s o)
def xB(l:Lex)(fe:List aq)(lem:Str):List aF→List Str→Bool→List Str×Bool
 |[],o,b=>(o,b)
 |x::t,o,b=>sel (x.lem == lem) (xB l fe lem t (IF l fe x 0 (match Bg l x.cls with | some c=>c.slots.l | none=>[]) o) true) (xB l fe lem t o b)
theorem PO(l:Lex)(fe:List aq)(x:aF)(i:Nat)(s:br)(o:List Str):(PN l fe x i s o).length≤o.length+1:=by
 unfold PN
 cases (!(jB l x s i == [])&&Gi fe (vo x s) && !(o.any fun t=>jB l x s i == t))<;>simp [sel]
theorem Lw(l:Lex)(fe:List aq)(x:aF):∀ (t:List br) (i:Nat) (o:List Str),(IF l fe x i t o).length≤o.length+t.length
 |[],_,_=>Nat.le_refl _
 |s::t,i,o=>by
  have h1:=Lw l fe x t (i+1) (PN l fe x i s o)
  have h2:=PO l fe x i s o
  rw [IF,List.length_cons];omega
theorem UJ{H0:List ae}(n m:Nat)(T:TypeId)(x:ae)(L:List ae):dG (H0++[.tok n T,x]) (H0++(.tok m T::x::L)):=⟨by simp,fun i y hi hy=>by
 rw [List.length_append] at hi
 by_cases h:i<H0.length
 ·rw [List.getElem?_append_left h] at hy ⊢;exact .inl hy
 ·by_cases h2:i=H0.length
  ·subst h2
   rw [dW] at hy
   obtain rfl:=Option.some.inj hy
   exact .inr trivial
  ·obtain rfl:i=H0.length+1:=by simp at hi;omega
   rw [hp_getk] at hy ⊢
   exact .inl hy⟩
theorem EF(H0:List ae)(x y:ae)(L:List ae):(H0++(x::y::L)).take (H0.length+2)=H0++[x,y]:=by
 rw [show H0++(x::y::L)=(H0++[x,y])++L by simp,show H0.length+2=(H0++[x,y]).length by simp,List.take_left]
theorem gnl(hN:cS E)(hW:WdE M)(hE:iz E)(hS:SpE E)(hX:oZ M)(hY:C9 M)(hB:pb E)(hF:qg E)(hU:uN E){srt:List aq→List aq}(hO:vw M srt)(hP:Srt srt){l:Lex}(hl:l.ok 0)(hk:bG l=0)
  {lem:Str}{fe:Sl aq} (hfe:fe.ok 0 (aq.ok 0)) {e:Nat}{x:aF} (hx:l.entries.l[e]?=some x) {c:a6} (hc:yW l x c) {e2:Int}
  {H H0:List ae}{x0:ae}{p:Nat}{T:TypeId} (hp:H[p]?=some (.cells l.row T)) {fd:Bool} (k:List Fra):∀ (n i:Nat) (o:List Str) (He:List ae),He=H++[.tok (o.length*1) bj,x0]→i+n=c.slots.l.length→o.length+n≤10000→c.slots.l.length≤1000 →
  M.go eK H0 (.c fq :: .lp ⟨(some [1,2,9,10,11,12,27,28,29,40,41]),[(10,1,bj)],true⟩ fq He :: .blk 2 :: .c (.lv [1,2,9,10,11,27,28,29])::k) (kv [(1,.str lem),(2,.slice fe.tag 2 (fe.l.map aq.row)),(9,.ptr p 0),(10,.slice (.own H.length) 1 (o.map gd)),(11,.bool fd),(12,.int .i64 e),(27,.slice l.entries.tag 4 (l.entries.l.map aF.row)),(28,.int .i64 l.entries.l.length),(29,.int .i64 e2),(40,.int .i64 c.slots.l.length),(41,.int .i64 i)]) (H++[.tok (o.length*1) bj,x0]) =
   M.go eK H0 k (kv [(1,.str lem),(2,.slice fe.tag 2 (fe.l.map aq.row)),(9,.ptr p 0),(10,.slice (.own H.length) 1 ((IF l fe.l x i (c.slots.l.drop i) o).map gd)),(11,.bool fd),(27,.slice l.entries.tag 4 (l.entries.l.map aF.row)),(28,.int .i64 l.entries.l.length),(29,.int .i64 e2)]) (H++[.tok ((IF l fe.l x i (c.slots.l.drop i) o).length*1) bj,x0])
 |0,i,o,He,hHe,h,ho,hcl=>by
  have e:i=c.slots.l.length:=by omega
  subst e
  rw [List.drop_length,IF]
  rw [aw M fq.eq_1]
  simp (maxSteps:=3000000) (maxDischargeDepth:=6) +contextual -implicitDefEqProofs only [amA M,amB,↓aj,↓ab,↓al,↓ak,Nat.reduceBEq,Nat.reduceAdd,env,ao,dY,Nat.lt_irrefl]
 |n+1,i,o,He,hHe,h,ho,hcl=>by
  subst hHe
  have hi:i<c.slots.l.length:=by omega
  have hs:c.slots.l[i]?=some c.slots.l[i]:=List.getElem?_eq_getElem hi
  have hd:c.slots.l.drop i=c.slots.l[i]::c.slots.l.drop (i+1):=List.drop_eq_getElem_cons hi
  generalize c.slots.l[i]=s at hs hd
  have hA:At l (e:Int) (i:Int) x c s:=PL hk (by omega) (by simpa using hx) hc hs
  have hsl:=fun H=>Hz M hW hE hF hl e i H
  simp only [hA.sl hk,Option.getD_some,Option.isSome_some] at hsl
  have hf:=fun H=>Lv M hN hW hE hS hX hY hB hF hl hk hA H
  have hlf:=fun H=>Gk M hU hO hP hF hA H
  have hsu:=fun H=>vW M hE hU (a:=fe) (b:=⟨.any,vo x s⟩) hfe.len (JQ hA) H
  simp only at hsu
  have hp':=fun L=>dg (L:=L) hp
  have hpl:=(List.getElem?_eq_some_iff.1 hp).1
  have hct:=fun v H'=>vT M hE (v:=v) (tg:=.own H.length) (l:=o) (by simp only [bH];omega) H'
  have w1:Wk (H.length+2) (.ptr p 0) (.ptr p 0):=wk_ptr (by omega)
  have w2:Wk (H.length+2) (.slice fe.tag 2 (fe.l.map aq.row)) (.slice fe.tag 2 (fe.l.map aq.row)):=(hfe.mono (Nat.zero_le _) (fun _ h=>h.mono (Nat.zero_le _))).wk (fun _ h=>h.wk)
  have w3:Wk (H.length+2) (.slice l.entries.tag 4 (l.entries.l.map aF.row)) (.slice l.entries.tag 4 (l.entries.l.map aF.row)):=(hl.entries.mono (Nat.zero_le _) (fun _ h=>h.mono (Nat.zero_le _))).wk (fun _ h=>h.wk)
  have w4:=fun l:List Str=>wk_slice (n:=H.length+2) (esz:=1) (tag:=.own H.length) (show H.length<H.length+2 by omega) (JP _ l)
  have hws:=cY hi (show c.slots.l.length≤bH by simp only [bH];omega)
  have hcc:=fun m L=>UJ (H0:=H) (o.length*1) m bj x0 L
  rw [hd,IF]
  have hgl:=PO l fe.l x i s o
  have ih:=gnl hN hW hE hS hX hY hB hF hU hO hP hl hk (lem:=lem) hfe hx hc (e2:=e2) (H0:=H0) (x0:=x0) hp (fd:=fd) k n (i+1) (PN l fe.l x i s o) _ rfl (by omega) (by omega) hcl
  simp only [kv_cons,kv_nil] at ih ⊢
  revert ih
  unfold PN
  generalize jB l x s i=w at hf
  intro ih
  cases hw:w == [] with
  |true=>
   simp only [hw,Bool.not_true,Bool.false_and,sel] at ih ⊢
   rw [aw M fq.eq_1]
   simp (maxSteps:=3000000) (maxDischargeDepth:=6) +contextual -implicitDefEqProofs only [amA M,amB,↓aj,↓ab,↓al,↓ak,Nat.reduceBEq,Nat.reduceAdd,env,ao,dY,amG,AV.cell,Nat.reduceMul,Nat.reduceLeDiff,hi,hsl,hf,hw,hp',ih,w1,w2,w3,w4,hcc,EF,hws,cj,iS]
  |false=>
   cases hsb:Gi fe.l (vo x s) with
   |false=>
    simp only [hw,hsb,Bool.and_false,Bool.false_and,sel] at ih ⊢
    rw [hsb] at hsu
    rw [aw M fq.eq_1]
    simp (maxSteps:=3000000) (maxDischargeDepth:=6) +contextual -implicitDefEqProofs only [amA M,amB,↓aj,↓ab,↓al,↓ak,Nat.reduceBEq,Nat.reduceAdd,env,ao,dY,amG,AV.cell,Nat.reduceMul,Nat.reduceLeDiff,hi,hsl,hf,hw,hlf,hsu,hp',ih,w1,w2,w3,w4,hcc,EF,hws,cj,iS]
   |true=>
    rw [hsb] at hsu
    have hct2:=fun H'=>hct w H'
    cases ha:o.any (fun t=>w == t) with
    |true=>
     simp only [hw,hsb,ha,Bool.not_true,Bool.and_false,sel] at ih ⊢
     rw [ha] at hct2
     rw [aw M fq.eq_1]
     simp (maxSteps:=3000000) (maxDischargeDepth:=6) +contextual -implicitDefEqProofs only [amA M,amB,↓aj,↓ab,↓al,↓ak,Nat.reduceBEq,Nat.reduceAdd,env,ao,dY,amG,AV.cell,Nat.reduceMul,Nat.reduceLeDiff,hi,hsl,hf,hw,hlf,hsu,hct2,hp',ih,w1,w2,w3,w4,hcc,EF,hws,cj,iS]
    |false=>
     simp only [hw,hsb,ha,Bool.not_false,Bool.and_true,sel] at ih ⊢
     rw [ha] at hct2
     have ap:=fun L=>HA (row:=gd) (l:=o) (x:=w) (r:=[.str w]) (sz:=1) (bytes:=16) (e:=bj) H L rfl rfl rfl (by omega) (by omega)
     rw [aw M fq.eq_1]
     simp (maxSteps:=3000000) (maxDischargeDepth:=6) +contextual -implicitDefEqProofs only [amA M,amB,↓aj,↓ab,↓al,↓ak,Nat.reduceBEq,Nat.reduceAdd,env,ao,dY,amG,AV.cell,Nat.reduceMul,Nat.reduceLeDiff,hi,hsl,hf,hw,hlf,hsu,hct2,ap,hp',ih,w1,w2,w3,w4,hcc,EF,hws,cj,iS]
end
section
attribute [local congr] aG ct bm aH a7 aN aI aA aC aO aP
variable{E:bB}(M:cT cU E)
theorem Lx{l:Lex}(hk:bG l=0)(fe:List aq)(lem:Str):∀ (t:List aF) (o:List Str) (b:Bool),(∀ x∈t,∃ c,yW l x c)→(xB l fe lem t o b).1.length≤o.length+24*t.length
 |[],_,_,_=>Nat.le_refl _
 |x::t,o,b,h=>by
  obtain ⟨c,hc⟩:=h x (by simp)
  have hs:=EE hk hc
  have ht:=fun y hy=>h y (List.mem_cons_of_mem _ hy)
  rw [xB,hc.cls,List.length_cons]
  have h2:=Lw l fe x c.slots.l 0 o
  cases x.lem == lem with
  |true=>have h1:=Lx hk fe lem t (IF l fe x 0 c.slots.l o) true ht;simp only [sel];omega
  |false=>have h1:=Lx hk fe lem t o b ht;simp only [sel];omega
theorem RT{l:Lex}(hk:bG l=0):∀ x∈l.entries.l,∃ c,yW l x c:=fun x hx=>by
 obtain ⟨k,hk2⟩:=List.getElem?_of_mem hx
 exact Gj hk hk2
theorem gno(hN:cS E)(hW:WdE M)(hE:iz E)(hS:SpE E)(hX:oZ M)(hY:C9 M)(hB:pb E)(hF:qg E)(hU:uN E){srt:List aq→List aq}(hO:vw M srt)(hP:Srt srt){l:Lex}(hl:l.ok 0)(hk:bG l=0)
  {lem:Str}{fe:Sl aq} (hfe:fe.ok 0 (aq.ok 0)) {H H0:List ae}{p:Nat}{T:TypeId} (hp:H[p]?=some (.cells l.row T)) (k:List Fra):∀ (n i:Nat) (o:List Str) (fd:Bool) (He:List ae),He=H++[.tok (o.length*1) bj]→i+n=l.entries.l.length→o.length+24*n≤9000 →
  M.go eK H0 (.c iI :: .lp ⟨(some [1,2,9,10,11,27,28,29]),[(10,1,bj)],true⟩ iI He :: .blk 0 :: .c (.lv [10,11])::k) (kv [(1,.str lem),(2,.slice fe.tag 2 (fe.l.map aq.row)),(9,.ptr p 0),(10,.slice (.own H.length) 1 (o.map gd)),(11,.bool fd),(27,.slice l.entries.tag 4 (l.entries.l.map aF.row)),(28,.int .i64 l.entries.l.length),(29,.int .i64 i)]) (H++[.tok (o.length*1) bj]) =
   M.go eK H0 k (kv [(10,.slice (.own H.length) 1 ((xB l fe.l lem (l.entries.l.drop i) o fd).1.map gd)),(11,.bool (xB l fe.l lem (l.entries.l.drop i) o fd).2)]) (H++[.tok ((xB l fe.l lem (l.entries.l.drop i) o fd).1.length*1) bj])
 |0,i,o,fd,He,hHe,h,ho=>by
  have e:i=l.entries.l.length:=by omega
  subst e
  rw [List.drop_length,xB]
  rw [aw M iI.eq_1]
  simp (maxSteps:=3000000) (maxDischargeDepth:=6) +contextual -implicitDefEqProofs only [amA M,amB,↓aj,↓ab,↓al,↓ak,Nat.reduceBEq,Nat.reduceAdd,env,ao,dY,Nat.lt_irrefl]
 |n+1,i,o,fd,He,hHe,h,ho=>by
  subst hHe
  have hi:i<l.entries.l.length:=by omega
  have hx:l.entries.l[i]?=some l.entries.l[i]:=List.getElem?_eq_getElem hi
  have hd:l.entries.l.drop i=l.entries.l[i]::l.entries.l.drop (i+1):=List.drop_eq_getElem_cons hi
  generalize l.entries.l[i]=x at hx hd
  obtain ⟨c,hc⟩:=Gj hk hx
  have hsl:=EE hk hc
  have hp':=fun L=>dg (L:=L) hp
  have hpl:=(List.getElem?_eq_some_iff.1 hp).1
  have hss:=fun H=>M9 M hW hE hF hl (e:=(i:Int)) (by omega) (by simpa using hx) hc H
  have w1:Wk (H.length+1) (.ptr p 0) (.ptr p 0):=wk_ptr (by omega)
  have w2:Wk (H.length+1) (.slice fe.tag 2 (fe.l.map aq.row)) (.slice fe.tag 2 (fe.l.map aq.row)):=(hfe.mono (Nat.zero_le _) (fun _ h=>h.mono (Nat.zero_le _))).wk (fun _ h=>h.wk)
  have w3:Wk (H.length+1) (.slice l.entries.tag 4 (l.entries.l.map aF.row)) (.slice l.entries.tag 4 (l.entries.l.map aF.row)):=(hl.entries.mono (Nat.zero_le _) (fun _ h=>h.mono (Nat.zero_le _))).wk (fun _ h=>h.wk)
  have w4:=fun l:List Str=>wk_slice (n:=H.length+1) (esz:=1) (tag:=.own H.length) (by simp [pT]) (JP _ l)
  have hws:=cY hi hl.entries.len
  rw [hd,xB,hc.cls]
  cases hb:x.lem == lem with
  |false=>
   have ih:=gno hN hW hE hS hX hY hB hF hU hO hP hl hk (lem:=lem) hfe (H0:=H0) hp k n (i+1) o fd _ rfl (by omega) (by omega)
   simp only [kv_cons,kv_nil,sel] at ih ⊢
   rw [aw M iI.eq_1]
   simp (maxSteps:=3000000) (maxDischargeDepth:=6) +contextual -implicitDefEqProofs only [amA M,amB,↓aj,↓ab,↓al,↓ak,Nat.reduceBEq,Nat.reduceAdd,env,ao,dY,amG,AV.cell,Nat.reduceMul,Nat.reduceLeDiff,hi,hx,hb,hp',ih,w1,w2,w3,w4,ui,qM,hws,bz hi,cj,eU]
  |true=>
   have hgl:=Lw l fe.l x c.slots.l 0 o
   have ih:=gno hN hW hE hS hX hY hB hF hU hO hP hl hk (lem:=lem) hfe (H0:=H0) hp k n (i+1) (IF l fe.l x 0 c.slots.l o) true _ rfl (by omega) (by omega)
   have hin:=fun k=>gnl M hN hW hE hS hX hY hB hF hU hO hP hl hk (lem:=lem) hfe hx hc (e2:=(i:Int)) (H0:=H0) (x0:=.cells x.row dI) hp (fd:=true) k c.slots.l.length 0 o _ rfl (by omega) (by omega) (by omega)
   simp only [kv_cons,kv_nil,sel,Int.ofNat_zero,List.drop_zero] at ih hin ⊢
   rw [aw M iI.eq_1]
   simp (maxSteps:=3000000) (maxDischargeDepth:=6) +contextual -implicitDefEqProofs only [amA M,amB,↓aj,↓ab,↓al,↓ak,Nat.reduceBEq,Nat.reduceAdd,env,ao,dY,amG,AV.cell,Nat.reduceMul,Nat.reduceLeDiff,hi,hx,hb,hp',hss,hin,ih,w1,w2,w3,w4,ui,qM,hws,bz hi,cj,eU]
def WV(l:Lex)(lem:Str)(fe:List aq):AV:=
 sel (!(PM l fe == 0)) (.tuple [.slice .any 1 [],.int .u8 (PM l fe)]) (sel (xB l fe lem l.entries.l [] false).2 (.tuple [.slice .any 1 ((xB l fe lem l.entries.l [] false).1.map gd),.int .u8 0]) (.tuple [.slice .any 1 [],.int .u8 7]))
theorem Nb{l:Lex}{fe:List aq}(h:(PM l fe == 0)=true):bG l=0∧s6 l fe=0:=by
 have h:=eq_of_beq h
 unfold PM at h
 cases hk:bG l == 0 with
 |true=>rw [hk] at h;exact ⟨eq_of_beq hk,h⟩
 |false=>rw [hk] at h;have h2:bG l=0:=h;rw [h2] at hk;cases hk
theorem HB{l:Lex}(hk:bG l=0):l.entries.l.length≤128:=by
 have:=(jW (rU hk).2.1).1
 omega
theorem N2(hN:cS E)(hW:WdE M)(hE:iz E)(hS:SpE E)(hX:oZ M)(hY:C9 M)(hB:pb E)(hF:qg E)(hU:uN E){srt:List aq→List aq}(hO:vw M srt)(hP:Srt srt)(hG:VM E){l:Lex}(hl:l.ok 0){lem:Str}{fe:Sl aq}(hfe:fe.ok 0 (aq.ok 0))(H:List ae) :
  M.run tI [.agg l.row,.str lem,.slice fe.tag 2 (fe.l.map aq.row)] H=some (.ret (WV l lem fe.l),H):=by
 rw [aZ M hG.morph_Generate rfl (c:=tN) rfl,tN]
 unfold WV
 have hbu:=fun H=>Ra M hN hE hG hl hfe H
 cases hb:PM l fe.l == 0 with
 |false=>
  simp (maxSteps:=3000000) (maxDischargeDepth:=6) +contextual -implicitDefEqProofs only [amA M,amB,↓aj,↓ab,↓al,↓ak,Nat.reduceBEq,Nat.reduceAdd,env,ao,dY,amG,AV.cell,Nat.reduceMul,Nat.reduceLeDiff,hbu,hb,cj,hJ,wk_tuple,sel]
 |true=>
  obtain ⟨hk,hb2⟩:=Nb hb
  have hel:=HB hk
  have h1:=fun k=>gno M hN hW hE hS hX hY hB hF hU hO hP hl hk (lem:=lem) hfe (H:=H++[.cells l.row az,.cells l.row aD]) (H0:=H) (p:=H.length+1) (T:=aD) (by rw [hp_getk];rfl) k l.entries.l.length 0 [] false _ rfl (by omega) (by simp;omega)
  simp only [kv_cons,kv_nil,Int.ofNat_zero,List.drop_zero,List.length_append,List.length_cons,List.length_nil,Nat.zero_add,Nat.reduceAdd,List.append_assoc,List.cons_append,List.nil_append,List.map_nil,Nat.zero_mul] at h1
  generalize xB l fe.l lem l.entries.l [] false=r at h1
  cases hr:r.2 with
  |true=>
   rw [hr] at h1
   simp only [sel]
   simp (maxSteps:=3000000) (maxDischargeDepth:=6) +contextual -implicitDefEqProofs only [amA M,amB,↓aj,↓ab,↓al,↓ak,Nat.reduceBEq,Nat.reduceAdd,env,ao,dY,amG,AV.cell,Nat.reduceMul,Nat.reduceLeDiff,hbu,hb,h1,cj,Uy,implies_true,cut_app,wk_tuple]
  |false=>
   rw [hr] at h1
   simp only [sel]
   simp (maxSteps:=3000000) (maxDischargeDepth:=6) +contextual -implicitDefEqProofs only [amA M,amB,↓aj,↓ab,↓al,↓ak,Nat.reduceBEq,Nat.reduceAdd,env,ao,dY,amG,AV.cell,Nat.reduceMul,Nat.reduceLeDiff,hbu,hb,h1,cj,hJ,cut_app,wk_tuple]
theorem Nc{l:Lex}(hk:bG l=0){e q:Int}{x:aF}{c:a6}{s:br}(hA:At l e q x c s):xz l e q = .tuple [.slice .any 2 ((vo x s).map aq.row),.int .u8 0]:=by
 simp [xz,ID,xy,Bj,hk,hA.sl hk,hA.ent']
end
section
attribute [local congr] aG ct bm aH a7 aN aI aA aC aO aP
variable{E:bB}(M:cT cU E)
structure HC (E:bB):Prop where
 slices_Clone_api_First_api_First:E.fn dm=some cu
 internal_stringslite_CutPrefix:E.fn ib=some cN
 strings_CutPrefix:E.fn pZ=some iy
 morph_analyses:E.fn lK=some eM
 morph_language_shapes:E.fn lJ=some ca
 morph_language_openings:E.fn kx=some bP
 morph_language_analyze:E.fn k6=some de
 morph_Analyze:E.fn ji=some kB
theorem N3{α:Type}{row:α→List AV}{sz:Nat}:∀ (m:List α),(∀ x∈m,(row x).length=sz∧(row x).all AV.cell=true)→oe sz (m.map row)=true
 |[],_=>rfl
 |x::m,h=>by
  have h1:=h x (by simp)
  have h2:=N3 m fun y hy=>h y (by simp [hy])
  simp only [oe,List.map_cons,List.all_cons,Bool.and_eq_true] at h2 ⊢
  exact ⟨⟨by simpa using h1.1,h1.2⟩,h2⟩
theorem Gl{α:Type}{row:α→List AV}:∀ (m:List α),(∀ x∈m,(row x).map AV.strip=row x)→(m.map row).map (·.map AV.strip)=m.map row
 |[],_=>rfl
 |x::m,h=>by
  simp only [List.map_cons]
  rw [h x (by simp),← List.map_cons]
  exact congrArg _ (Gl m fun y hy=>h y (by simp [hy]))
theorem PP{α:Type}{row:α→List AV}{l m:List α}{tg:Tag}{sz bytes:Nat}{e:TypeId}(H L:List ae)(hm:∀ x∈m,(row x).length=sz∧(row x).all AV.cell=true)(hs:∀ x∈m,(row x).map AV.strip=row x)
  (hl:(l.length+m.length)*bytes≤140737488355328) (hl2:l.length+m.length≤4611686018427387904) :
  rap false (H++(.tok (l.length*sz) e::L)) e sz bytes false (.slice (.own H.length) sz (l.map row)) (.slice tg sz (m.map row))=some (.slice (.own H.length) sz ((l++m).map row),H++(.tok ((l++m).length*sz) e::L)):=by
 have hr:=N3 m hm
 have h3:=Gl m hs
 simp only [rap,Dv,CE,if_true,List.length_map,or_true,hl,hl2,hr,and_true,true_and]
 cases m with
 |nil=>simp
 |cons x m=>
  simp only [List.map_cons] at h3 ⊢
  simp only [dW,List.getElem?_cons_zero,and_true,if_true,hp_set0,List.set_cons_zero,h3,List.map_append,List.map_cons,List.length_append,List.length_cons,List.length_map,Nat.add_mul]
theorem VN{α:Type}{row:α→List AV}{m:List α}{tg:Tag}{sz bytes:Nat}{e:TypeId}(H:List ae)(h0:m≠[])(hm:∀ x∈m,(row x).length=sz∧(row x).all AV.cell=true)(hs:∀ x∈m,(row x).map AV.strip=row x)
  (hl:m.length*bytes≤140737488355328) (hl2:m.length≤4611686018427387904) :
  rap false H e sz bytes false (.slice .full sz []) (.slice tg sz (m.map row))=some (.slice (.own H.length) sz (m.map row),H++[.tok (m.length*sz) e]):=by
 have hr:=N3 m hm
 have h3:=Gl m hs
 simp only [rap,Dv,CE,if_true,List.length_map,List.length_nil,Nat.zero_add,true_or,or_true,hl,hl2,hr,and_true,true_and]
 cases m with
 |nil=>exact absurd rfl h0
 |cons x m=>
  simp only [List.map_cons] at h3 ⊢
  simp only [or_true,if_true,List.length_cons,List.length_map,h3,List.nil_append] at hl hl2 hr ⊢
theorem Ly(m:List a8):(∀ x∈m,(a8.row x).length=3∧(a8.row x).all AV.cell=true)∧(∀ x∈m,(a8.row x).map AV.strip=a8.row x):=⟨fun _ _=>⟨rfl,rfl⟩,fun _ _=>rfl⟩
theorem HD(n:Nat)(x:b4):WkL n (b4.row x) (b4.row x):=⟨wk_int _ _ _,wk_int _ _ _,wk_str _ _,trivial⟩
theorem Lz(n:Nat)(x:a8):WkL n (a8.row x) (a8.row x):=⟨wk_int _ _ _,wk_int _ _ _,wk_int _ _ _,trivial⟩
theorem JR(n:Nat)(x:bL):WkL n (bL.row x) (bL.row x):=⟨wk_int _ _ _,wk_int _ _ _,wk_int _ _ _,wk_str _ _,trivial⟩
theorem uj{α:Type}{row:α→List AV}(h:∀ n x,WkL n (row x) (row x))(n:Nat)(l:List α):mI n (l.map row):=by
 rw [rowsWk_map];exact fun x _=>h n x
theorem VO:req .sl (.slice .nil 3 []) (.slice .nil 0 [])=some true:=rfl
theorem WW{α:Type}{row:α→List AV}{l:List α}{tg:Tag}(h:l≠[])(sz:Nat):req .sl (.slice tg sz (l.map row)) (.slice .nil 0 [])=some false:=by
 cases l with
 |nil=>exact absurd rfl h
 |cons x l=>cases tg<;>rfl
theorem LA(hA:HC E)(H:List ae):M.run dm [.slice .nil 3 []] H=some (.ret (.slice .nil 3 []),H):=by
 rw [aZ M hA.slices_Clone_api_First_api_First rfl (c:=dt) rfl,dt]
 simp (maxSteps:=3000000) (maxDischargeDepth:=6) +contextual -implicitDefEqProofs only [amA M,amB,↓aj,↓ab,↓al,↓ak,Nat.reduceBEq,Nat.reduceAdd,env,ao,j1,VO,Option.map_some]
theorem LB(hA:HC E){l:List a8}(hl:l≠[])(hn:l.length≤1000)(tg:Tag)(H:List ae):M.run dm [.slice tg 3 (l.map a8.row)] H=some (.ret (.slice (.own H.length) 3 (l.map a8.row)),H++[.tok (l.length*3) dH]):=by
 rw [aZ M hA.slices_Clone_api_First_api_First rfl (c:=dt) rfl,dt]
 have ap:=VN (row:=a8.row) (m:=l) (tg:=tg) (sz:=3) (bytes:=24) (e:=dH) H hl (Ly l).1 (Ly l).2 (by omega) (by omega)
 simp (maxSteps:=3000000) (maxDischargeDepth:=6) +contextual -implicitDefEqProofs only [amA M,amB,↓aj,↓ab,↓al,↓ak,Nat.reduceBEq,Nat.reduceAdd,env,ao,j1,amG,AV.cell,Nat.reduceMul,Nat.reduceLeDiff,WW hl,Option.map_some,ap]
end
end Go.Am
