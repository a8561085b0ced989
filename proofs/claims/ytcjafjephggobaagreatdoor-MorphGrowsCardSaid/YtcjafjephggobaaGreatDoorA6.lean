import Derived.Test.YtcjafjephggobaaGreatDoorA5
import Derived.Lib.Bytealg
/-
  Part 6 of the tool: an abstract machine over the model, proved sound, and what it says of the functions that the law reaches. Condition: none but those that each theorem names.
-/
set_option linter.unusedVariables false
set_option linter.unusedSimpArgs false
set_option maxRecDepth 100000
set_option maxHeartbeats 4000000
namespace Go.Am
open Go.RowKit
section
attribute [local congr] aF ca bg aG aZ aL aH aA aC aM aN
variable{E:bt}(M:cK cU E)
def VV(l:Lex):Prop:=∀ c∈l.classes.l,∀ s∈c.slots.l,s.feats.l.length≤8∧ze s.feats.l=true
theorem TK{l:Lex}(h:BN l=0):VV l:=fun c hc s hs=>by
 obtain ⟨k,hk⟩:=List.getElem?_of_mem hc
 have h1:=(jR h).2 k c hk
 unfold FU at h1
 revert h1
 cases (!Ks c.name) with
 |true=>intro h;simp [sel] at h
 |false=>
  cases (List.any _ _) with
  |true=>intro h;simp [sel] at h
  |false=>
   cases (decide ((24:Int)<(c.slots.l.length:Int))) with
   |true=>intro h;simp [sel] at h
   |false=>
    cases ((c.slots.l.length:Int) == 0) with
    |true=>intro h;simp [sel] at h
    |false=>
     intro h1
     obtain ⟨j,hj⟩:=List.getElem?_of_mem hs
     have h2:=(jR h1).2 j s hj
     unfold IJ at h2
     revert h2
     cases (decide (s.cut<0)||decide (24<s.cut) || !qZ qY s.pre || !qZ qY s.add) with
     |true=>intro h;simp [sel] at h
     |false=>intro h;exact bundle_ok h
end
section
attribute [local congr] aF ca bg aG aZ aL aH aA aC aM aN
variable{E:bt}(M:cK cU E)
def MD(p:UInt8):Str→Bool
 |[]=>true
 |c::t => !decide ((c.toNat:Int)≤(p.toNat:Int))&&MD c t
def Wv:Str→Bool
 |[]=>true
 |c::t=>MD c t
theorem So{α:Type}{b l:List α}{i:Nat}{x:α}(hd:b.drop (i+1)=x::l):b[i+1]?=some x∧b.drop (i+1+1)=l:=by
 constructor
 ·have:=List.getElem?_drop (xs:=b) (i:=i+1) (j:=0)
  rw [hd] at this;simpa using this.symm
 ·have:(b.drop (i+1)).drop 1=l:=by rw [hd];rfl
  rwa [List.drop_drop] at this
theorem O1(v:Str):∀ (t:Str) (i:Nat) (p:UInt8),v[i]?=some p→v.drop (i+1)=t→w7 (fun i c=>sel (Sg v i c) 1 0) (i+1) t=sel (t.all qY&&MD p t) 0 1
 |[],_,_,_,_=>rfl
 |c::t,i,p,h,hd=>by
  obtain ⟨h2,hd2⟩:=So hd
  rw [w7,O1 v t (i+1) c h2 hd2,Mz h,List.all_cons,MD]
  cases qY c<;>cases decide ((c.toNat:Int)≤(p.toNat:Int))<;>cases t.all qY<;>cases MD c t<;>rfl
theorem Vf(l:Lex):Ql l=sel (ofF [] l.vowels) (sel (Wv l.vowels) 0 1) 1:=by
 rw [Ql,Ri]
 cases hv:l.vowels with
 |nil=>rfl
 |cons c t=>
  rw [w7,O1 (c::t) t 0 c rfl rfl,My,List.all_cons,Wv]
  cases qY c<;>cases t.all qY<;>cases MD c t<;>rfl
theorem TL(s:Str):ofF [43] s=s.all Fj:=by
 unfold ofF
 congr 1;funext c
 simp only [List.any_cons,List.any_nil,Bool.or_false,Fj]
 congr 1
 rw [Bool.eq_iff_iff];simp;omega
theorem TM(s:Str):ofF [43,35,86,67] s=s.all II:=by
 unfold ofF
 congr 1;funext c
 simp only [List.any_cons,List.any_nil,Bool.or_false,II,Fj,Bool.or_assoc]
 congr 1
 rw [Bool.eq_iff_iff];simp;omega
theorem Ec(p:UInt8→Bool)(s:Str):qZ p s=(!decide ((6:Int)<(s.length:Int))&&s.all p):=by
 unfold qZ;congr 1;rw [Bool.eq_iff_iff];simp
theorem TN(x:bz):DM x=sel (x.frm == []||(!ofF [43] x.frm||(!ofF [43] x.to||(!ofF [43,35,86,67] x.left || !ofF [43,35,86,67] x.right)))) 1
  (sel (decide ((6:Int)<(x.frm.length:Int))||(decide ((6:Int)<(x.to.length:Int))||(decide ((6:Int)<(x.left.length:Int))||decide ((6:Int)<(x.right.length:Int))))) 1 0):=by
 rw [DM,TL,TL,TM,TM,Ec,Ec,Ec,Ec]
 cases x.frm == []<;>cases x.frm.all Fj<;>cases x.to.all Fj<;>cases x.left.all II<;>cases x.right.all II<;>cases decide ((6:Int)<(x.frm.length:Int))<;>cases decide ((6:Int)<(x.to.length:Int))<;>cases decide ((6:Int)<(x.left.length:Int))<;>cases decide ((6:Int)<(x.right.length:Int))<;>rfl
end
section
attribute [local congr] aF ca bg aG aZ aL aH aA aC aM aN
variable{E:bt}(M:cK cU E)
theorem W9(e:Int)(i:Nat)(l:List Int):w7 (fun _ e=>e) i (e::l)=sel (!(e == 0)) e (w7 (fun _ e=>e) (i+1) l):=rfl
theorem Xa(i:Nat):w7 (fun _ (e:Int)=>e) i []=0:=rfl
end
section
attribute [local congr] aF ca bg aG aZ aL aH aA aC aM aN
variable{E:bt}(M:cK cU E)
abbrev w64(n:Int):Int:=IntKind.i64.wrap n
theorem O2{H L:List ab}{k k':IntKind}{a b:Int}{T T':TypeId}(L2:List ab):dL (H++(.cells [.int k a] T::L)) (H++(.cells [.int k' b] T'::(L++L2))):=
 ⟨by simp,fun i x hi hx=>by
  rcases Nat.lt_trichotomy i H.length with h | h | h
  ·left;rw [List.getElem?_append_left h] at hx ⊢;exact hx
  ·subst h;rw [ej] at hx;right
   obtain rfl:_=x:=by simpa using hx
   intro c hc
   simp only [List.mem_singleton] at hc
   subst hc;exact wk_int _ _ _
  ·left
   obtain ⟨j,rfl⟩:∃ j,i=H.length+(j+1):=⟨i-H.length-1,by omega⟩
   rw [hp_getk] at hx ⊢
   simp only [List.getElem?_cons_succ] at hx ⊢
   have:j<L.length:=by simp at hi;omega
   rwa [List.getElem?_append_left this] at hx⟩
theorem H7{H:List ab}{k k':IntKind}{a b:Int}{T T':TypeId}(L2:List ab):dL (H++[.cells [.int k a] T]) (H++(.cells [.int k' b] T'::L2)):=O2 (L:=[]) L2
theorem Sp{H L:List ab}{k k':IntKind}{a b:Int}{T T':TypeId}:dL (H++(.cells [.int k a] T::L)) (H++(.cells [.int k' b] T'::L)):=by
 have:=O2 (H:=H) (L:=L) (k:=k) (k':=k') (a:=a) (b:=b) (T:=T) (T':=T') []
 rwa [List.append_nil] at this
theorem Ww(H L:List ab)(y:ab):(H++(y::L)).take (H.length+(L.length+1))=H++(y::L):=List.take_of_length_le (by simp)
theorem Qp(H L:List ab)(y:ab):(H++(y::L)).take (H.length+1)=H++[y]:=by
 rw [List.take_append];simp
 exact List.take_of_length_le (by omega)
def TO(m:Int)(f:au):Int:=w64 (m+w64 (w64 (1+(f.name.length:Int))+(f.value.length:Int)))
def KL(m:Int)(b:List au):Int:=w64 ((b.take 100).foldl TO m+(b.length:Int))
theorem NH{n m:Nat}(h:m=min 100 n):(decide (m<n)&&decide ((m:Int)<100))=false:=by
 rw [Bool.eq_false_iff];simp;omega
theorem Qq{i m n:Nat}(h:m=min 100 n)(hi:i<m):decide ((i:Int)<100)=true:=decide_eq_true (by omega)
theorem gr1{H H0:List ab}{L:List ab}{T:TypeId}{b Lf:List au}(hM:Lf.length=min 100 b.length)(hL:∀ k,k<Lf.length→b[k]?=Lf[k]?){tg:Tag}(k:List Fra):∀ (n i:Nat) (m:Int) (He:List ab),i+n=Lf.length →
  M.go cM H0 (.c fK :: .lp ⟨(some [0,1,3]),[],false⟩ fK He :: .blk 0 :: .c (.lv [0,1])::k) (kv [(0,.slice tg 2 (b.map au.row)),(1,.ptr H.length 0),(3,.int .i64 i)]) (H++(.cells [.int .i64 m] T::L)) =
   (M.go cM H0 k (kv [(0,.slice tg 2 (b.map au.row)),(1,.ptr H.length 0)]) (H++(.cells [.int .i64 ((Lf.drop i).foldl TO m)] T::L)))
 |0,i,m,He,h=>by
  have e:i=Lf.length:=by omega
  subst e
  rw [aw M fK.eq_1]
  simp (maxSteps:=3000000) (maxDischargeDepth:=6) +contextual -implicitDefEqProofs only [amA M,amB,↓aj,↓ae,↓al,↓ak,Nat.reduceBEq,Nat.reduceAdd,env,ao,lK,Nat.lt_irrefl,List.drop_length,NH hM,List.foldl_nil]
 |n+1,i,m,He,h=>by
  have hi:i<Lf.length:=by omega
  have hx:Lf[i]?=some Lf[i]:=List.getElem?_eq_getElem hi
  have hd:(Lf.drop i)=Lf[i]::Lf.drop (i+1):=List.drop_eq_getElem_cons hi
  have hm:Lf[i]∈Lf:=List.getElem_mem hi
  have ih:=fun m He=>gr1 (H:=H) (H0:=H0) (L:=L) (T:=T) (b:=b) (Lf:=Lf) (hM:=hM) (hL:=hL) (tg:=tg) k n (i+1) m He (by omega)
  simp only [kv_cons,kv_nil] at ih
  have hib:i<b.length:=by omega
  have hxb:=(hL i hi).trans hx
  rw [aw M fK.eq_1]
  simp (maxSteps:=3000000) (maxDischargeDepth:=6) +contextual -implicitDefEqProofs only [amA M,amB,↓aj,↓ae,↓al,↓ak,Nat.reduceBEq,Nat.reduceAdd,env,ao,lK,hx,hd,hi,ih,amG,AV.cell,hib,hxb,Qq hM hi,bp hib,yp,de (n:=100) (show i<100 by omega) (by simp [bE]),List.foldl_cons,TO]
theorem FX(hg:E.fn gy=some cM){b:List au}{tg:Tag}(H L:List ab)(m:Int)(T:TypeId) :
  M.run gy [.slice tg 2 (b.map au.row),.ptr H.length 0] (H++(.cells [.int .i64 m] T::L))=some (.ret (.tuple []),H++(.cells [.int .i64 (KL m b)] T::L)):=by
 rw [a6 M hg rfl (c:=lJ) rfl,lJ]
 have h1:=fun k He=>gr1 M (H:=H) (H0:=H++(.cells [.int .i64 m] T::L)) (L:=L) (T:=T) (b:=b) (Lf:=b.take 100) (by simp) (KK b 100) (tg:=tg) k (b.take 100).length 0 m He (by omega)
 simp only [kv_cons,kv_nil,Int.ofNat_zero,List.drop_zero] at h1
 simp (maxSteps:=3000000) (maxDischargeDepth:=6) +contextual -implicitDefEqProofs only [amA M,amB,↓aj,↓ae,↓al,↓ak,Nat.reduceBEq,Nat.reduceAdd,env,ao,lK,amG,AV.cell,Nat.reduceMul,Nat.reduceLeDiff,h1,Sp,Ww,wk_tuple,KL,lr_row1,List.set_cons_zero]
end
section
attribute [local congr] aF ca bg aG aZ aL aH aA aC aM aN
variable{E:bt}(M:cK cU E)
structure FY (E:bt):Prop where
 truchmanlaw02_Great_1:E.fn gy=some cM
 truchmanlaw02_Great:E.fn iy=some aP
abbrev sQ(m:Int):ab:=.cells [.int .i64 m] zT
abbrev zf(n:Nat):AV:=.fn (.func gy) [] [.ptr n 0]
def Wx(m:Int)(s:Str):Int:=w64 (m+w64 (1+(s.length:Int)))
def Qr(m:Int)(t:bF):Int:=w64 ((t.values.l.take 100).foldl Wx (w64 (m+w64 (1+(t.name.length:Int))))+(t.values.l.length:Int))
theorem gl0{H H0:List ab}{l:Lex}{p:Nat}{T:TypeId}(hp:H[p]?=some (.cells l.row T)){i0:Nat}{t:bF}(ht:l.traits.l[i0]?=some t){Lf:List Str}(hM:Lf.length=min 100 t.values.l.length)(hL:∀ k,k<Lf.length→t.values.l[k]?=Lf[k]?)(k:List Fra):∀ (n i:Nat) (m:Int) (He:List ab),i+n=Lf.length →
  M.go aP H0 (.c gA :: .lp ⟨(some [1,3,4,5,6]),[],false⟩ gA He :: .blk 2 :: .c (.lv [1,3,4,5])::k) (kv [(1,.ptr p 0),(3,.ptr H.length 0),(4,zf H.length),(5,.int .i64 i0),(6,.int .i64 i)]) (H++[sQ m]) =
   (M.go aP H0 k (kv [(1,.ptr p 0),(3,.ptr H.length 0),(4,zf H.length),(5,.int .i64 i0)]) (H++[sQ ((Lf.drop i).foldl Wx m)]))
 |0,i,m,He,h=>by
  have e:i=Lf.length:=by omega
  subst e
  rw [aw M gA.eq_1]
  simp (maxSteps:=3000000) (maxDischargeDepth:=6) +contextual -implicitDefEqProofs only [amA M,amB,↓aj,↓ae,↓al,↓ak,Nat.reduceBEq,Nat.reduceAdd,env,ao,bh,Nat.lt_irrefl,List.drop_length,NH hM,List.foldl_nil,dE hp,dZ,bp (List.getElem?_eq_some_iff.1 ht).1,ht,uC]
 |n+1,i,m,He,h=>by
  have hi:i<Lf.length:=by omega
  have hx:Lf[i]?=some Lf[i]:=List.getElem?_eq_getElem hi
  have hd:(Lf.drop i)=Lf[i]::Lf.drop (i+1):=List.drop_eq_getElem_cons hi
  have hm:Lf[i]∈Lf:=List.getElem_mem hi
  have ih:=fun m He=>gl0 (H:=H) (H0:=H0) (l:=l) (p:=p) (T:=T) (hp:=hp) (i0:=i0) (t:=t) (ht:=ht) (Lf:=Lf) (hM:=hM) (hL:=hL) k n (i+1) m He (by omega)
  simp only [kv_cons,kv_nil] at ih
  have hib:i<t.values.l.length:=by omega
  have hxb:=(hL i hi).trans hx
  rw [aw M gA.eq_1]
  simp (maxSteps:=3000000) (maxDischargeDepth:=6) +contextual -implicitDefEqProofs only [amA M,amB,↓aj,↓ae,↓al,↓ak,Nat.reduceBEq,Nat.reduceAdd,env,ao,bh,hx,hd,hi,ih,amG,AV.cell,Nat.reduceMul,Nat.reduceLeDiff,dE hp,dZ,bp (List.getElem?_eq_some_iff.1 ht).1,ht,uC,Tv,hib,hxb,Qq hM hi,bp hib,de (n:=100) (show i<100 by omega) (by simp [bE]),List.foldl_cons,Wx]
theorem gl1{H H0:List ab}{l:Lex}{n0:Nat}(hl:l.ok n0){p:Nat}{T:TypeId}(hp:H[p]?=some (.cells l.row T))(k:List Fra):∀ (n i:Nat) (m:Int) (He:List ab),i+n=(l.traits.l).length →
  M.go aP H0 (.c gB :: .lp ⟨(some [1,3,4,5]),[],false⟩ gB He :: .blk 0 :: .c (.lv [1,3,4])::k) (kv [(1,.ptr p 0),(3,.ptr H.length 0),(4,zf H.length),(5,.int .i64 i)]) (H++[sQ m]) =
   (M.go aP H0 k (kv [(1,.ptr p 0),(3,.ptr H.length 0),(4,zf H.length)]) (H++[sQ ((l.traits.l.drop i).foldl Qr m)]))
 |0,i,m,He,h=>by
  have e:i=(l.traits.l).length:=by omega
  subst e
  rw [aw M gB.eq_1]
  simp (maxSteps:=3000000) (maxDischargeDepth:=6) +contextual -implicitDefEqProofs only [amA M,amB,↓aj,↓ae,↓al,↓ak,Nat.reduceBEq,Nat.reduceAdd,env,ao,bh,Nat.lt_irrefl,List.drop_length,List.foldl_nil,dE hp,dZ]
 |n+1,i,m,He,h=>by
  have hi:i<(l.traits.l).length:=by omega
  have hx:(l.traits.l)[i]?=some (l.traits.l)[i]:=List.getElem?_eq_getElem hi
  have hd:((l.traits.l).drop i)=(l.traits.l)[i]::(l.traits.l).drop (i+1):=List.drop_eq_getElem_cons hi
  have hm:(l.traits.l)[i]∈(l.traits.l):=List.getElem_mem hi
  have ih:=fun m He=>gl1 (H:=H) (H0:=H0) (l:=l) (n0:=n0) (hl:=hl) (p:=p) (T:=T) (hp:=hp) k n (i+1) m He (by omega)
  simp only [kv_cons,kv_nil] at ih
  have h0:=fun m k He=>gl0 M (H0:=H0) hp (i0:=i) hx (Lf:=l.traits.l[i].values.l.take 100) (by simp) (KK _ 100) k (l.traits.l[i].values.l.take 100).length 0 m He (by omega)
  simp only [kv_cons,kv_nil,Int.ofNat_zero,List.drop_zero] at h0
  rw [aw M gB.eq_1]
  simp (maxSteps:=3000000) (maxDischargeDepth:=6) +contextual -implicitDefEqProofs only [amA M,amB,↓aj,↓ae,↓al,↓ak,Nat.reduceBEq,Nat.reduceAdd,env,ao,bh,hx,hd,hi,ih,amG,AV.cell,Nat.reduceMul,Nat.reduceLeDiff,dE hp,dZ,bp hi,uC,h0,de hi hl.traits.len,List.foldl_cons,Qr]
def TP(m:Int)(s:bB):Int:=KL (w64 (m+w64 (w64 (1+(s.pre.length:Int))+(s.add.length:Int)))) s.feats.l
def TQ(c:a8):Bool:=decide ((12:Int)<(c.slots.l.length:Int))&&decide ((c.slots.l.length:Int)≤24)||decide ((60:Int)<(c.slots.l.length:Int))
def Qs(m:Int)(c:a8):Int:=c.slots.l.foldl TP (w64 (m+w64 (1+(c.name.length:Int))))
theorem gl2{H H0:List ab}(hg:FY E){l:Lex}{n0:Nat}(hl:l.ok n0){p:Nat}{T:TypeId}(hp:H[p]?=some (.cells l.row T)){i0:Nat}{c:a8}(hci:l.classes.l[i0]?=some c)(k:List Fra):∀ (n i:Nat) (m:Int),i+n=(c.slots.l).length →
  M.go aP H0 (.c gC :: .lp ⟨(some [1,3,4,7,8]),[],true⟩ gC (H++[sQ m]) :: .blk 6 :: .c (.lv [1,3,4,7])::k) (kv [(1,.ptr p 0),(3,.ptr H.length 0),(4,zf H.length),(7,.int .i64 i0),(8,.int .i64 i)]) (H++[sQ m]) =
   (M.go aP H0 k (kv [(1,.ptr p 0),(3,.ptr H.length 0),(4,zf H.length),(7,.int .i64 i0)]) (H++[sQ ((c.slots.l.drop i).foldl TP m)]))
 |0,i,m,h=>by
  have e:i=(c.slots.l).length:=by omega
  subst e
  rw [aw M gC.eq_1]
  simp (maxSteps:=3000000) (maxDischargeDepth:=6) +contextual -implicitDefEqProofs only [amA M,amB,↓aj,↓ae,↓al,↓ak,Nat.reduceBEq,Nat.reduceAdd,env,ao,bh,Nat.lt_irrefl,List.drop_length,List.foldl_nil,dE hp,dZ,bp (List.getElem?_eq_some_iff.1 hci).1,hci,ko]
 |n+1,i,m,h=>by
  have hi:i<(c.slots.l).length:=by omega
  have hx:(c.slots.l)[i]?=some (c.slots.l)[i]:=List.getElem?_eq_getElem hi
  have hd:((c.slots.l).drop i)=(c.slots.l)[i]::(c.slots.l).drop (i+1):=List.drop_eq_getElem_cons hi
  have hm:(c.slots.l)[i]∈(c.slots.l):=List.getElem_mem hi
  have ih:=fun m=>gl2 (H:=H) (H0:=H0) (hg:=hg) (l:=l) (n0:=n0) (hl:=hl) (p:=p) (T:=T) (hp:=hp) (i0:=i0) (c:=c) (hci:=hci) k n (i+1) m (by omega)
  simp only [kv_cons,kv_nil] at ih
  have hco:=hl.classes.all c (List.mem_of_getElem? hci)
  have hpl:=(List.getElem?_eq_some_iff.1 hp).1
  have w1:Wk (H.length+1) (.ptr p 0) (.ptr p 0):=wk_ptr (by omega)
  have w2:Wk (H.length+1) (.ptr H.length 0) (.ptr H.length 0):=wk_ptr (by omega)
  have w3:Wk (H.length+1) (zf H.length) (zf H.length):=wk_fn trivial ⟨wk_ptr (by omega),trivial⟩
  rw [aw M gC.eq_1]
  simp (maxSteps:=3000000) (maxDischargeDepth:=6) +contextual -implicitDefEqProofs only [amA M,amB,↓aj,↓ae,↓al,↓ak,Nat.reduceBEq,Nat.reduceAdd,env,ao,bh,hx,hd,hi,ih,amG,AV.cell,Nat.reduceMul,Nat.reduceLeDiff,dE hp,w1,w2,w3,H7,Qp,dZ,bp (List.getElem?_eq_some_iff.1 hci).1,hci,ko,bp hi,o4,FX M hg.truchmanlaw02_Great_1,de hi hco.slots.len,List.foldl_cons,TP]
theorem gl3{H H0:List ab}(hg:FY E){l:Lex}{n0:Nat}(hl:l.ok n0){p:Nat}{T:TypeId}(hp:H[p]?=some (.cells l.row T))(hc:dL H0 H)(k:List Fra):∀ (n i:Nat) (m:Int),i+n=(l.classes.l).length →
  M.go aP H0 (.c gD :: .lp ⟨(some [1,3,4,7]),[],true⟩ gD (H++[sQ m]) :: .blk 4 :: .c (.lv [1,3,4])::k) (kv [(1,.ptr p 0),(3,.ptr H.length 0),(4,zf H.length),(7,.int .i64 i)]) (H++[sQ m]) =
   sel ((l.classes.l.drop i).any TQ) (some (.ret (.bool true),H.take H0.length)) (M.go aP H0 k (kv [(1,.ptr p 0),(3,.ptr H.length 0),(4,zf H.length)]) (H++[sQ ((l.classes.l.drop i).foldl Qs m)]))
 |0,i,m,h=>by
  have e:i=(l.classes.l).length:=by omega
  subst e
  rw [aw M gD.eq_1]
  simp (maxSteps:=3000000) (maxDischargeDepth:=6) +contextual -implicitDefEqProofs only [amA M,amB,↓aj,↓ae,↓al,↓ak,Nat.reduceBEq,Nat.reduceAdd,env,ao,bh,Nat.lt_irrefl,List.drop_length,List.foldl_nil,List.any_nil,dE hp,dZ]
 |n+1,i,m,h=>by
  have hi:i<(l.classes.l).length:=by omega
  have hx:(l.classes.l)[i]?=some (l.classes.l)[i]:=List.getElem?_eq_getElem hi
  have hd:((l.classes.l).drop i)=(l.classes.l)[i]::(l.classes.l).drop (i+1):=List.drop_eq_getElem_cons hi
  have hm:(l.classes.l)[i]∈(l.classes.l):=List.getElem_mem hi
  have ih:=fun m=>gl3 (H:=H) (H0:=H0) (hg:=hg) (l:=l) (n0:=n0) (hl:=hl) (p:=p) (T:=T) (hp:=hp) hc k n (i+1) m (by omega)
  simp only [kv_cons,kv_nil] at ih
  have hco:=hl.classes.all _ hm
  have hpl:=(List.getElem?_eq_some_iff.1 hp).1
  have w1:Wk (H.length+1) (.ptr p 0) (.ptr p 0):=wk_ptr (by omega)
  have w2:Wk (H.length+1) (.ptr H.length 0) (.ptr H.length 0):=wk_ptr (by omega)
  have w3:Wk (H.length+1) (zf H.length) (zf H.length):=wk_fn trivial ⟨wk_ptr (by omega),trivial⟩
  have h0:=fun m k=>gl2 M (H0:=H0) hg hl hp (i0:=i) hx k l.classes.l[i].slots.l.length 0 m (by omega)
  simp only [kv_cons,kv_nil,Int.ofNat_zero,List.drop_zero] at h0
  rw [aw M gD.eq_1]
  simp (maxSteps:=3000000) (maxDischargeDepth:=6) +contextual -implicitDefEqProofs only [amA M,amB,↓aj,↓ae,↓al,↓ak,Nat.reduceBEq,Nat.reduceAdd,env,ao,bh,hx,hd,hi,ih,amG,AV.cell,Nat.reduceMul,Nat.reduceLeDiff,dE hp,w1,w2,w3,H7,Qp,dZ,bp hi,ko,h0,de hi hl.classes.len,List.foldl_cons,List.any_cons,Qs,TQ,hc]
  generalize (decide ((12:Int)<(l.classes.l[i].slots.l.length:Int))&&decide ((l.classes.l[i].slots.l.length:Int)≤24)||decide ((60:Int)<(l.classes.l[i].slots.l.length:Int)))=b
  cases b<;>simp only [slc,Bool.true_or,Bool.false_or]
end
section
attribute [local congr] aF ca bg aG aZ aL aH aA aC aM aN
variable{E:bt}(M:cK cU E)
def irN(m:Int)(f:bW):Int:=w64 (m+(f.word.length:Int))
def Qt(m:Int)(x:aK):Int:=(x.forms.l.take 100).foldl irN (KL (w64 (m+w64 (w64 (w64 (1+(x.lem.length:Int))+(x.cls.length:Int))+(x.forms.l.length:Int)))) x.feats.l)
theorem gl4{H H0:List ab}{x:aK}{T2:TypeId}{p i0:Nat}{Lf:List bW}(hM:Lf.length=min 100 x.forms.l.length)(hL:∀ k,k<Lf.length→x.forms.l[k]?=Lf[k]?)(k:List Fra):∀ (n i:Nat) (m:Int) (He:List ab),i+n=Lf.length →
  M.go aP H0 (.c gE :: .lp ⟨(some [1,3,4,10,11,12]),[],false⟩ gE He :: .blk 10 :: .c (.lv [1,3,4,10])::k) (kv [(1,.ptr p 0),(3,.ptr H.length 0),(4,zf H.length),(10,.int .i64 i0),(11,.ptr (H.length+1) 0),(12,.int .i64 i)]) (H++[sQ m,.cells x.row T2]) =
   (M.go aP H0 k (kv [(1,.ptr p 0),(3,.ptr H.length 0),(4,zf H.length),(10,.int .i64 i0)]) (H++[sQ ((Lf.drop i).foldl irN m),.cells x.row T2]))
 |0,i,m,He,h=>by
  have e:i=Lf.length:=by omega
  subst e
  rw [aw M gE.eq_1]
  simp (maxSteps:=3000000) (maxDischargeDepth:=6) +contextual -implicitDefEqProofs only [amA M,amB,↓aj,↓ae,↓al,↓ak,Nat.reduceBEq,Nat.reduceAdd,env,ao,bh,Nat.lt_irrefl,List.drop_length,NH hM,List.foldl_nil,gS]
 |n+1,i,m,He,h=>by
  have hi:i<Lf.length:=by omega
  have hx:Lf[i]?=some Lf[i]:=List.getElem?_eq_getElem hi
  have hd:(Lf.drop i)=Lf[i]::Lf.drop (i+1):=List.drop_eq_getElem_cons hi
  have hm:Lf[i]∈Lf:=List.getElem_mem hi
  have ih:=fun m He=>gl4 (H:=H) (H0:=H0) (x:=x) (T2:=T2) (p:=p) (i0:=i0) (Lf:=Lf) (hM:=hM) (hL:=hL) k n (i+1) m He (by omega)
  simp only [kv_cons,kv_nil] at ih
  have hib:i<x.forms.l.length:=by omega
  have hxb:=(hL i hi).trans hx
  rw [aw M gE.eq_1]
  simp (maxSteps:=3000000) (maxDischargeDepth:=6) +contextual -implicitDefEqProofs only [amA M,amB,↓aj,↓ae,↓al,↓ak,Nat.reduceBEq,Nat.reduceAdd,env,ao,bh,hx,hd,hi,ih,amG,AV.cell,Nat.reduceMul,Nat.reduceLeDiff,gS,HF,hib,hxb,Qq hM hi,bp hib,de (n:=100) (show i<100 by omega) (by simp [bE]),List.foldl_cons,irN]
theorem gl5{H H0:List ab}(hg:FY E){l:Lex}{n0:Nat}(hl:l.ok n0){p:Nat}{T:TypeId}(hp:H[p]?=some (.cells l.row T))(k:List Fra):∀ (n i:Nat) (m:Int),i+n=(l.entries.l).length →
  M.go aP H0 (.c gF :: .lp ⟨(some [1,3,4,10]),[],true⟩ gF (H++[sQ m]) :: .blk 8 :: .c (.lv [1,3,4])::k) (kv [(1,.ptr p 0),(3,.ptr H.length 0),(4,zf H.length),(10,.int .i64 i)]) (H++[sQ m]) =
   (M.go aP H0 k (kv [(1,.ptr p 0),(3,.ptr H.length 0),(4,zf H.length)]) (H++[sQ ((l.entries.l.drop i).foldl Qt m)]))
 |0,i,m,h=>by
  have e:i=(l.entries.l).length:=by omega
  subst e
  rw [aw M gF.eq_1]
  simp (maxSteps:=3000000) (maxDischargeDepth:=6) +contextual -implicitDefEqProofs only [amA M,amB,↓aj,↓ae,↓al,↓ak,Nat.reduceBEq,Nat.reduceAdd,env,ao,bh,Nat.lt_irrefl,List.drop_length,List.foldl_nil,dE hp,dZ]
 |n+1,i,m,h=>by
  have hi:i<(l.entries.l).length:=by omega
  have hx:(l.entries.l)[i]?=some (l.entries.l)[i]:=List.getElem?_eq_getElem hi
  have hd:((l.entries.l).drop i)=(l.entries.l)[i]::(l.entries.l).drop (i+1):=List.drop_eq_getElem_cons hi
  have hm:(l.entries.l)[i]∈(l.entries.l):=List.getElem_mem hi
  have ih:=fun m=>gl5 (H:=H) (H0:=H0) (hg:=hg) (l:=l) (n0:=n0) (hl:=hl) (p:=p) (T:=T) (hp:=hp) k n (i+1) m (by omega)
  simp only [kv_cons,kv_nil] at ih
  have hpl:=(List.getElem?_eq_some_iff.1 hp).1
  have w1:Wk (H.length+1) (.ptr p 0) (.ptr p 0):=wk_ptr (by omega)
  have w2:Wk (H.length+1) (.ptr H.length 0) (.ptr H.length 0):=wk_ptr (by omega)
  have w3:Wk (H.length+1) (zf H.length) (zf H.length):=wk_fn trivial ⟨wk_ptr (by omega),trivial⟩
  have h0:=fun m k He=>gl4 M (H:=H) (H0:=H0) (x:=l.entries.l[i]) (T2:=dY) (p:=p) (i0:=i) (Lf:=l.entries.l[i].forms.l.take 100) (by simp) (KK _ 100) k (l.entries.l[i].forms.l.take 100).length 0 m He (by omega)
  simp only [kv_cons,kv_nil,Int.ofNat_zero,List.drop_zero] at h0
  rw [aw M gF.eq_1]
  simp (maxSteps:=3000000) (maxDischargeDepth:=6) +contextual -implicitDefEqProofs only [amA M,amB,↓aj,↓ae,↓al,↓ak,Nat.reduceBEq,Nat.reduceAdd,env,ao,bh,hx,hd,hi,ih,amG,AV.cell,Nat.reduceMul,Nat.reduceLeDiff,dE hp,w1,w2,w3,H7,Qp,dZ,bp hi,gS,h0,FX M hg.truchmanlaw02_Great_1,de hi hl.entries.len,List.foldl_cons,Qt]
def Qu(m:Int)(x:bz):Int:=w64 (m+w64 (w64 (w64 ((x.frm.length:Int)+(x.to.length:Int))+(x.left.length:Int))+(x.right.length:Int)))
def TR(m:Int)(x:dH):Int:=KL (w64 (m+w64 ((x.cls.length:Int)+(x.glue.length:Int)))) x.feats.l
theorem gl6{H H0:List ab}{l:Lex}{n0:Nat}(hl:l.ok n0){p:Nat}{T:TypeId}(hp:H[p]?=some (.cells l.row T))(k:List Fra):∀ (n i:Nat) (m:Int) (He:List ab),i+n=(l.spells.l).length →
  M.go aP H0 (.c gG :: .lp ⟨(some [1,3,4,13]),[],false⟩ gG He :: .blk 12 :: .c (.lv [1,3,4])::k) (kv [(1,.ptr p 0),(3,.ptr H.length 0),(4,zf H.length),(13,.int .i64 i)]) (H++[sQ m]) =
   (M.go aP H0 k (kv [(1,.ptr p 0),(3,.ptr H.length 0),(4,zf H.length)]) (H++[sQ ((l.spells.l.drop i).foldl Qu m)]))
 |0,i,m,He,h=>by
  have e:i=(l.spells.l).length:=by omega
  subst e
  rw [aw M gG.eq_1]
  simp (maxSteps:=3000000) (maxDischargeDepth:=6) +contextual -implicitDefEqProofs only [amA M,amB,↓aj,↓ae,↓al,↓ak,Nat.reduceBEq,Nat.reduceAdd,env,ao,bh,Nat.lt_irrefl,List.drop_length,List.foldl_nil,dE hp,dZ]
 |n+1,i,m,He,h=>by
  have hi:i<(l.spells.l).length:=by omega
  have hx:(l.spells.l)[i]?=some (l.spells.l)[i]:=List.getElem?_eq_getElem hi
  have hd:((l.spells.l).drop i)=(l.spells.l)[i]::(l.spells.l).drop (i+1):=List.drop_eq_getElem_cons hi
  have hm:(l.spells.l)[i]∈(l.spells.l):=List.getElem_mem hi
  have ih:=fun m He=>gl6 (H:=H) (H0:=H0) (l:=l) (n0:=n0) (hl:=hl) (p:=p) (T:=T) (hp:=hp) k n (i+1) m He (by omega)
  simp only [kv_cons,kv_nil] at ih
  rw [aw M gG.eq_1]
  simp (maxSteps:=3000000) (maxDischargeDepth:=6) +contextual -implicitDefEqProofs only [amA M,amB,↓aj,↓ae,↓al,↓ak,Nat.reduceBEq,Nat.reduceAdd,env,ao,bh,hx,hd,hi,ih,amG,AV.cell,Nat.reduceMul,Nat.reduceLeDiff,dE hp,dZ,bp hi,yA,de hi hl.spells.len,List.foldl_cons,Qu]
theorem gl7{H H0:List ab}(hg:FY E){l:Lex}{n0:Nat}(hl:l.ok n0){p:Nat}{T:TypeId}(hp:H[p]?=some (.cells l.row T))(k:List Fra):∀ (n i:Nat) (m:Int) (He:List ab),i+n=(l.links.l).length →
  M.go aP H0 (.c gH :: .lp ⟨(some [1,3,4,14]),[],false⟩ gH He :: .blk 14 :: .c (.lv [3])::k) (kv [(1,.ptr p 0),(3,.ptr H.length 0),(4,zf H.length),(14,.int .i64 i)]) (H++[sQ m]) =
   (M.go aP H0 k (kv [(3,.ptr H.length 0)]) (H++[sQ ((l.links.l.drop i).foldl TR m)]))
 |0,i,m,He,h=>by
  have e:i=(l.links.l).length:=by omega
  subst e
  rw [aw M gH.eq_1]
  simp (maxSteps:=3000000) (maxDischargeDepth:=6) +contextual -implicitDefEqProofs only [amA M,amB,↓aj,↓ae,↓al,↓ak,Nat.reduceBEq,Nat.reduceAdd,env,ao,bh,Nat.lt_irrefl,List.drop_length,List.foldl_nil,dE hp,dZ]
 |n+1,i,m,He,h=>by
  have hi:i<(l.links.l).length:=by omega
  have hx:(l.links.l)[i]?=some (l.links.l)[i]:=List.getElem?_eq_getElem hi
  have hd:((l.links.l).drop i)=(l.links.l)[i]::(l.links.l).drop (i+1):=List.drop_eq_getElem_cons hi
  have hm:(l.links.l)[i]∈(l.links.l):=List.getElem_mem hi
  have ih:=fun m He=>gl7 (H:=H) (H0:=H0) (hg:=hg) (l:=l) (n0:=n0) (hl:=hl) (p:=p) (T:=T) (hp:=hp) k n (i+1) m He (by omega)
  simp only [kv_cons,kv_nil] at ih
  rw [aw M gH.eq_1]
  simp (maxSteps:=3000000) (maxDischargeDepth:=6) +contextual -implicitDefEqProofs only [amA M,amB,↓aj,↓ae,↓al,↓ak,Nat.reduceBEq,Nat.reduceAdd,env,ao,bh,hx,hd,hi,ih,amG,AV.cell,Nat.reduceMul,Nat.reduceLeDiff,dE hp,dZ,bp hi,Fb,FX M hg.truchmanlaw02_Great_1,de hi hl.links.len,List.foldl_cons,TR]
def TS(l:Lex):Bool:=
 decide ((60:Int)<(l.entries.l.length:Int))&&decide ((l.entries.l.length:Int)≤128)||decide ((200:Int)<(l.entries.l.length:Int))||decide ((40:Int)<(l.traits.l.length:Int))||decide ((40:Int)<(l.classes.l.length:Int))||decide ((40:Int)<(l.spells.l.length:Int))||decide ((40:Int)<(l.links.l.length:Int)) ||
  (l.classes.l.any TQ||decide (6000<l.links.l.foldl TR (l.spells.l.foldl Qu (l.entries.l.foldl Qt (l.classes.l.foldl Qs (l.traits.l.foldl Qr (l.vowels.length:Int)))))))
theorem Ed(hg:FY E){l:Lex}{n:Nat}(hl:l.ok n)(H:List ab):M.run iy [.agg l.row] H=some (.ret (.bool (TS l)),H):=by
 rw [a6 M hg.truchmanlaw02_Great rfl (c:=n9) rfl,n9]
 have hp:(H++[ab.cells l.row az])[H.length]?=some (.cells l.row az):=by rw [ej];rfl
 have h1:=fun m k He=>gl1 M (H0:=H) hl hp k l.traits.l.length 0 m He (by omega)
 have h3:=fun m k=>gl3 M (H0:=H) hg hl hp (cut_app H _) k l.classes.l.length 0 m (by omega)
 have h5:=fun m k=>gl5 M (H0:=H) hg hl hp k l.entries.l.length 0 m (by omega)
 have h6:=fun m k He=>gl6 M (H0:=H) hl hp k l.spells.l.length 0 m He (by omega)
 have h7:=fun m k He=>gl7 M (H0:=H) hg hl hp k l.links.l.length 0 m He (by omega)
 simp only [kv_cons,kv_nil,Int.ofNat_zero,List.drop_zero,lo_app3,Ny,lo_app0,lo_len,lo_len1,lo_len0,Nat.zero_add,hp_take] at h1 h3 h5 h6 h7
 simp (maxSteps:=3000000) (maxDischargeDepth:=6) +contextual -implicitDefEqProofs only [amA M,amB,↓aj,↓ae,↓al,↓ak,Nat.reduceBEq,Nat.reduceAdd,env,ao,bh,amG,AV.cell,Nat.reduceMul,Nat.reduceLeDiff,h1,h3,h5,h6,h7,dZ,TS,Bool.or_assoc]
end
section
attribute [local congr] aF ca bg aG aZ aL aH aA aC aM aN
variable{E:bt}(M:cK cU E)
structure qy (M:cK cU E):Prop where
 index:∀ (s:Str) (c:UInt8) (H:List ab),M.run dn [.str s,.int .u8 c.toNat] H=some (.ret (.int .i64 (Lib.indexByte s c)),H)
 same:∀ (i o:Nat) (H:List ab),M.run gz [.ptr i o] H=some (.ret (.ptr i o),H)
structure ra (E:bt):Prop where
 strings_Builder_WriteString:E.fn aR=some cJ
 strings_Builder_WriteByte:E.fn fb=some c9
 strings_Builder_String:E.fn db=some dR
 strings_Builder_Len:E.fn n4=some eY
 strings_Builder_copyCheck:E.fn cj=some da
abbrev gl(s:Str):List (List AV):=s.map fun b=>[.int .u8 (b.toNat:Int)]
abbrev bTok(w:Str):ab:=.tok w.length dG
abbrev j3(a:AV)(n:Nat)(w:Str)(T:TypeId):ab:=.cells [a,.slice (.own n) 1 (gl w)] T
theorem Qv(s:Str):nV 1 (gl s)=true:=by simp [nV,gl,AV.cell]
theorem G7:∀ s:Str,qH (gl s)=some s
 |[]=>rfl
 |c::s=>by
  have:=G7 s
  simp only [gl] at this ⊢
  simp only [List.map_cons,qH,this,Option.map_some]
  congr 2
  simp
theorem O3:∀ s:Str,D9 (gl s)=true
 |[]=>rfl
 |c::s=>by
  have:=O3 s
  simp only [gl] at this ⊢
  simp only [List.map_cons,D9,this,Bool.and_true,Bool.and_eq_true,decide_eq_true_eq]
  have:=c.toNat_lt
  omega
theorem ME(w s:Str):gl (w++s)=gl w++(gl s).map (·.map AV.strip):=by
 simp only [gl,List.map_append,List.map_map]
 congr 1
theorem TT(H L:List ab){w s:Str}(h:w.length+s.length≤140737488355328)(x:AV)(hx:∀ H,Cg H 1 true x=some (gl s)) :
  rap false (H++(bTok w::L)) dG 1 1 true (.slice (.own H.length) 1 (gl w)) x=some (.slice (.own H.length) 1 (gl (w++s)),H++(bTok (w++s)::L)):=by
 have h1:(gl w).length=w.length:=by simp [gl]
 have h2:(gl s).length=s.length:=by simp [gl]
 have hc:(w.length+s.length)*1≤140737488355328∧w.length+s.length≤4611686018427387904∧nV 1 (gl s)=true:=⟨by omega,by omega,Qv s⟩
 rw [ME]
 cases s with
 |nil=>simp [rap,C8,hx,h1,gl,nV];simp at h;omega
 |cons c s=>
  simp only [rap,C8,hx,h1,h2,or_true,true_and,hc,if_true,and_self]
  simp only [gl,List.map_cons,ej,List.getElem?_cons_zero,hp_set0,List.set_cons_zero,Nat.mul_one,List.length_cons,List.length_map,and_self,if_true,List.length_append,bTok]
theorem Vg(s:Str)(H:List ab):Cg H 1 true (.str s)=some (gl s):=by simp [Cg]
theorem Qw(H L:List ab){w s:Str}(h:w.length+s.length≤140737488355328) :
  rap false (H++(bTok w::L)) dG 1 1 true (.slice (.own H.length) 1 (gl w)) (.str s)=some (.slice (.own H.length) 1 (gl (w++s)),H++(bTok (w++s)::L)):=TT H L h _ (Vg s)
theorem Rk(H L:List ab){w:Str}{c:UInt8}(h:w.length+1≤140737488355328) :
  rap false (H++(bTok w::L)) dG 1 1 false (.slice (.own H.length) 1 (gl w)) (.slice .full 1 [[.int .u8 (c.toNat:Int)]])=some (.slice (.own H.length) 1 (gl (w++[c])),H++(bTok (w++[c])::L)):=by
 have h1:(gl w).length=w.length:=by simp [gl]
 have hc:(w.length+1)*1≤140737488355328∧w.length+1≤4611686018427387904:=⟨by omega,by omega⟩
 simp only [rap,C8,Cg,h1,or_true,if_true,List.length_cons,List.length_nil,Nat.zero_add,true_and,hc,and_self]
 simp [nV,AV.cell,ej,hp_set0,ME,gl,AV.strip,h1,List.map_append]
theorem VW(H L:List ab)(w:Str)(hw:w.length≤9223372036854775807):Nh (H++(bTok w::L)) dG (.sdp H.length (gl w)) (.int .i64 (w.length:Int))=some (.str w):=by
 cases w with
 |nil=>simp [gl,Nh]
 |cons c w=>
  have h1:=G7 (c::w)
  have h2:=O3 (c::w)
  simp only [gl,List.map_cons] at h1 h2 ⊢
  simp only [Nh,ej,List.getElem?_cons_zero,h1,h2]
  rw [if_pos]
  exact ⟨trivial,trivial,Nat.le_refl _,hw,trivial⟩
theorem VX(n:Nat)(w:Str):RF (.slice (.own n) 1 (gl w))=some (.sdp n (gl w)):=by cases w<;>rfl
theorem G8{H L:List ab}{n n':Nat}{T T' T1 T2:TypeId}{cs cs':List AV}(h:WkL (H.length+(L.length+1+1)) cs' cs'):dL (H++(.tok n T :: .cells cs T1::L)) (H++(.tok n' T' :: .cells cs' T2::L)):=
 ⟨by simp,fun i x hi hx=>by
  rcases Nat.lt_trichotomy i H.length with hl | hl | hl
  ·left;rw [List.getElem?_append_left hl] at hx ⊢;exact hx
  ·subst hl;rw [ej] at hx;right
   obtain rfl:_=x:=by simpa using hx
   trivial
  ·obtain ⟨j,rfl⟩:∃ j,i=H.length+(j+1):=⟨i-H.length-1,by omega⟩
   rw [hp_getk] at hx ⊢
   cases j with
   |zero=>
    right
    obtain rfl:_=x:=by simpa using hx
    intro c hc
    obtain ⟨k,hk⟩:=List.getElem?_of_mem hc
    obtain ⟨y,h1,h2⟩:=h.get k c hk
    rw [hk] at h1;cases h1
    simpa [Nat.add_assoc] using h2
   |succ j=>left;simpa using hx⟩
theorem uv(H L:List ab)(x y:ab):(H++(x::y::L)).take (H.length+(L.length+1+1))=H++(x::y::L):=List.take_of_length_le (by simp)
theorem O4(n:Nat)(w:Str):mA n (gl w):=by
 rw [rowsWk_map];exact fun _ _=>⟨wk_int _ _ _,trivial⟩
theorem TU(H L:List ab)(w:Str):WkL (H.length+(L.length+1+1)) [.ptr (H.length+1) 0,.slice (.own H.length) 1 (gl w)] [.ptr (H.length+1) 0,.slice (.own H.length) 1 (gl w)]:=
 ⟨wk_ptr (by omega),wk_slice (show H.length<_ by omega) (O4 _ _),trivial⟩
theorem qU:(∀ (a:Env) (H:List ab) (x:RX),rop a H (.usl x)=cB H (RF (rx a x)))∧(∀ (a:Env) (H:List ab) (e:TypeId) (x n:RX),rop a H (.ust e x n)=cB H (Nh H e (rx a x) (rx a n)))∧(∀ (a:Env) (H:List ab) (x:RX),rop a H (.cvu x)=cB H (PS H (rx a x)))∧(∀ (a:Env) (H:List ab) (u:TypeId) (sz:Nat) (x:RX),rop a H (.cvf u sz x)=cB H (PT H u sz (rx a x))) ∧
 (∀ (a:Env) (H:List ab) (cs:List AV) (e:TypeId) (j:Nat) (T:TypeId),rop a H (.nwb cs e j T)=some (.ptr (H.length+1) 0,H++[.tok 0 T,.cells (cs.set j (.slice (.own H.length) 1 [])) e])):=
 ⟨fun _ _ _=>rfl,fun _ _ _ _ _=>rfl,fun _ _ _=>rfl,fun _ _ _ _ _=>rfl,fun _ _ _ _ _ _=>rfl⟩
theorem O5:req .ptr .nilp .nilp=some true:=rfl
theorem KM(i o:Nat):req .ptr (.ptr i o) .nilp=some false:=rfl
theorem O6(i o:Nat):req .ptr (.ptr i o) (.ptr i o)=some true:=by simp [req]
theorem Xb(H L:List ab)(x:ab)(a b:AV)(T:TypeId):PS (H++(x :: .cells [a,b] T::L)) (.ptr (H.length+1) 0)=some (.ptr (H.length+1) 0):=by
 simp [PS,hp_getk]
theorem Xc(H L:List ab)(x:ab)(a b:AV)(T:TypeId):PT (H++(x :: .cells [a,b] T::L)) T 2 (.ptr (H.length+1) 0)=some (.ptr (H.length+1) 0):=by
 simp [PT,hp_getk]
theorem DU(hB:ra E)(hX:qy M)(H L:List ab)(w:Str) :
  M.run cj [.ptr (H.length+1) 0] (H++(bTok w::j3 .nilp H.length w bq::L))=some (.ret (.tuple []),H++(bTok w::j3 (.ptr (H.length+1) 0) H.length w bq::L)):=by
 rw [a6 M hB.strings_Builder_copyCheck rfl (c:=bT) rfl,bT]
 have h1:=hX.same (H.length+1) 0
 have hw:=TU H L w
 simp (maxSteps:=3000000) (maxDischargeDepth:=6) +contextual -implicitDefEqProofs only [amA M,amB,↓aj,↓ae,↓al,↓ak,Nat.reduceBEq,Nat.reduceAdd,env,ao,gP,amG,AV.cell,Nat.reduceMul,Nat.reduceLeDiff,h1,qU,O5,rnc,Xb,Xc,G8 hw,uv,wk_tuple]
theorem DV(hB:ra E)(H L:List ab)(w:Str)(T:TypeId) :
  M.run cj [.ptr (H.length+1) 0] (H++(bTok w::j3 (.ptr (H.length+1) 0) H.length w T::L))=some (.ret (.tuple []),H++(bTok w::j3 (.ptr (H.length+1) 0) H.length w T::L)):=by
 rw [a6 M hB.strings_Builder_copyCheck rfl (c:=bT) rfl,bT]
 simp (maxSteps:=3000000) (maxDischargeDepth:=6) +contextual -implicitDefEqProofs only [amA M,amB,↓aj,↓ae,↓al,↓ak,Nat.reduceBEq,Nat.reduceAdd,env,ao,gP,KM,O6,rnc,uv,wk_tuple]
theorem H8(hB:ra E)(hX:qy M)(H L:List ab){w s:Str}{T:TypeId}(h:w.length+s.length≤140737488355328) :
  M.run aR [.ptr (H.length+1) 0,.str s] (H++(bTok w::j3 .nilp H.length w bq::L))=some (.ret (.tuple [.int .i64 s.length,.nilif]),H++(bTok (w++s)::j3 (.ptr (H.length+1) 0) H.length (w++s) bq::L)):=by
 rw [a6 M hB.strings_Builder_WriteString rfl (c:=cI) rfl,cI]
 have hw:=TU H L (w++s)
 simp (maxSteps:=3000000) (maxDischargeDepth:=6) +contextual -implicitDefEqProofs only [amA M,amB,↓aj,↓ae,↓al,↓ak,Nat.reduceBEq,Nat.reduceAdd,env,ao,er,amG,AV.cell,Nat.reduceMul,Nat.reduceLeDiff,(DU M hB hX),rnc,Qw _ _ h,G8 hw,uv,wk_tuple]
theorem KN(hB:ra E)(hX:qy M)(H L:List ab){w:Str}{c:UInt8}{T:TypeId}(h:w.length+1≤140737488355328) :
  M.run fb [.ptr (H.length+1) 0,.int .u8 c.toNat] (H++(bTok w::j3 .nilp H.length w bq::L))=some (.ret .nilif,H++(bTok (w++[c])::j3 (.ptr (H.length+1) 0) H.length (w++[c]) bq::L)):=by
 rw [a6 M hB.strings_Builder_WriteByte rfl (c:=fg) rfl,fg]
 have hw:=TU H L (w++[c])
 simp (maxSteps:=3000000) (maxDischargeDepth:=6) +contextual -implicitDefEqProofs only [amA M,amB,↓aj,↓ae,↓al,↓ak,Nat.reduceBEq,Nat.reduceAdd,env,ao,oQ,amG,AV.cell,Nat.reduceMul,Nat.reduceLeDiff,(DU M hB hX),rnc,Rk _ _ h,G8 hw,uv,wk_tuple]
theorem H9(hB:ra E)(hX:qy M)(H L:List ab){w s:Str}{T:TypeId}(h:w.length+s.length≤140737488355328) :
  M.run aR [.ptr (H.length+1) 0,.str s] (H++(bTok w::j3 (.ptr (H.length+1) 0) H.length w T::L))=some (.ret (.tuple [.int .i64 s.length,.nilif]),H++(bTok (w++s)::j3 (.ptr (H.length+1) 0) H.length (w++s) T::L)):=by
 rw [a6 M hB.strings_Builder_WriteString rfl (c:=cI) rfl,cI]
 have hw:=TU H L (w++s)
 simp (maxSteps:=3000000) (maxDischargeDepth:=6) +contextual -implicitDefEqProofs only [amA M,amB,↓aj,↓ae,↓al,↓ak,Nat.reduceBEq,Nat.reduceAdd,env,ao,er,amG,AV.cell,Nat.reduceMul,Nat.reduceLeDiff,(DV M hB),rnc,Qw _ _ h,G8 hw,uv,wk_tuple]
theorem KO(hB:ra E)(hX:qy M)(H L:List ab){w:Str}{c:UInt8}{T:TypeId}(h:w.length+1≤140737488355328) :
  M.run fb [.ptr (H.length+1) 0,.int .u8 c.toNat] (H++(bTok w::j3 (.ptr (H.length+1) 0) H.length w T::L))=some (.ret .nilif,H++(bTok (w++[c])::j3 (.ptr (H.length+1) 0) H.length (w++[c]) T::L)):=by
 rw [a6 M hB.strings_Builder_WriteByte rfl (c:=fg) rfl,fg]
 have hw:=TU H L (w++[c])
 simp (maxSteps:=3000000) (maxDischargeDepth:=6) +contextual -implicitDefEqProofs only [amA M,amB,↓aj,↓ae,↓al,↓ak,Nat.reduceBEq,Nat.reduceAdd,env,ao,oQ,amG,AV.cell,Nat.reduceMul,Nat.reduceLeDiff,(DV M hB),rnc,Rk _ _ h,G8 hw,uv,wk_tuple]
theorem O7(hB:ra E)(H L:List ab){w:Str}{a:AV}{T:TypeId}(hw:w.length≤9223372036854775807) :
  M.run db [.ptr (H.length+1) 0] (H++(bTok w::j3 a H.length w T::L))=some (.ret (.str w),H++(bTok w::j3 a H.length w T::L)):=by
 rw [a6 M hB.strings_Builder_String rfl (c:=gk) rfl,gk]
 simp (maxSteps:=3000000) (maxDischargeDepth:=6) +contextual -implicitDefEqProofs only [amA M,amB,↓aj,↓ae,↓al,↓ak,Nat.reduceBEq,Nat.reduceAdd,env,ao,lj,qU,rnc,VX,VW H _ w hw,uv]
theorem TV(hB:ra E)(H L:List ab){w:Str}{a:AV}{T:TypeId} :
  M.run n4 [.ptr (H.length+1) 0] (H++(bTok w::j3 a H.length w T::L))=some (.ret (.int .i64 w.length),H++(bTok w::j3 a H.length w T::L)):=by
 rw [a6 M hB.strings_Builder_Len rfl (c:=oI) rfl,oI]
 simp (maxSteps:=3000000) (maxDischargeDepth:=6) +contextual -implicitDefEqProofs only [amA M,amB,↓aj,↓ae,↓al,↓ak,Nat.reduceBEq,Nat.reduceAdd,env,ao,Cz,rnc,uv]
end
section
attribute [local congr] aF ca bg aG aZ aL aH aA aC aM aN
variable{E:bt}(M:cK cU E)
structure SpE (E:bt):Prop where
 internal_stringslite_HasPrefix:E.fn fc=some bX
 internal_stringslite_IndexByte:E.fn cL=some bY
 morph_language_left:E.fn nZ=some dy
 morph_language_match:E.fn jE=some eC
 morph_language_right:E.fn mF=some c8
 morph_language_spell:E.fn mE=some c7
 strings_HasPrefix:E.fn pN=some fQ
 strings_IndexByte:E.fn pO=some fR
theorem w9{s:Str}{k:IntKind}{i:Nat}(h:i≤s.length):Ng (.str s) (some (.int k (i:Int))) none=some (.str (s.drop i)):=by
 simp [Ng,fm,h]
 exact List.take_of_length_le (by simp)
theorem TW{s:Str}{k:IntKind}{i:Nat}(h:i≤s.length):Ng (.str s) none (some (.int k (i:Int)))=some (.str (s.take i)):=by
 simp [Ng,fm,h]
theorem TX{s:Str}{k k':IntKind}{i j:Nat}(h:i≤j)(hj:j≤s.length):Ng (.str s) (some (.int k (i:Int))) (some (.int k' (j:Int)))=some (.str ((s.drop i).take (j-i))):=by
 simp [Ng,fm,h,hj]
def jJ(s p:Str):Bool:=decide (p.length≤s.length)&&(s.take p.length == p)
theorem DW(hS:SpE E)(s p:Str)(H:List ab):M.run fc [.str s,.str p] H=some (.ret (.bool (jJ s p)),H):=by
 rw [a6 M hS.internal_stringslite_HasPrefix rfl (c:=ie) rfl,ie]
 cases hd:decide (p.length≤s.length) with
 |true=>
  have hle:p.length≤s.length:=of_decide_eq_true hd
  simp (maxSteps:=3000000) (maxDischargeDepth:=6) +contextual -implicitDefEqProofs only [amA M,amB,↓aj,↓ae,↓al,↓ak,Nat.reduceBEq,Nat.reduceAdd,env,ao,kK,jJ,hd,TW hle]
 |false=>
  simp (maxSteps:=3000000) (maxDischargeDepth:=6) +contextual -implicitDefEqProofs only [amA M,amB,↓aj,↓ae,↓al,↓ak,Nat.reduceBEq,Nat.reduceAdd,env,ao,kK,jJ,hd]
theorem tR(hS:SpE E)(s p:Str)(H:List ab):M.run pN [.str s,.str p] H=some (.ret (.bool (jJ s p)),H):=by
 have h1:=DW M hS s p H
 rw [a6 M hS.strings_HasPrefix rfl (c:=pR) rfl,pR]
 simp (maxSteps:=3000000) (maxDischargeDepth:=6) +contextual -implicitDefEqProofs only [amA M,amB,↓aj,↓ae,↓al,↓ak,Nat.reduceBEq,Nat.reduceAdd,env,ao,Et,h1]
theorem MF:∀ (s:Str) (c:UInt8),decide ((0:Int)≤Lib.indexByte s c)=s.any fun d=>d == c
 |[],c=>rfl
 |d::s,c=>by
  rw [Lib.indexByte,List.any_cons,← MF s c]
  cases h:d == c with
  |true=>simp
  |false=>
   have hg:=Lib.indexByte_ge s c
   simp only [Bool.false_or]
   by_cases h2:Lib.indexByte s c = -1
   ·simp [h2]
   ·have:(Lib.indexByte s c == -1)=false:=by simpa using h2
    simp only [this]
    rw [Bool.eq_iff_iff];simp;omega
theorem LS(hS:SpE E)(hX:qy M)(s:Str)(c:UInt8)(H:List ab):M.run pO [.str s,.int .u8 c.toNat] H=some (.ret (.int .i64 (Lib.indexByte s c)),H):=by
 have h1:M.run cL [.str s,.int .u8 c.toNat] H=some (.ret (.int .i64 (Lib.indexByte s c)),H):=by
  rw [a6 M hS.internal_stringslite_IndexByte rfl (c:=dK) rfl,dK]
  simp (maxSteps:=3000000) (maxDischargeDepth:=6) +contextual -implicitDefEqProofs only [amA M,amB,↓aj,↓ae,↓al,↓ak,Nat.reduceBEq,Nat.reduceAdd,env,ao,kL,hX.index]
 rw [a6 M hS.strings_IndexByte rfl (c:=pS) rfl,pS]
 simp (maxSteps:=3000000) (maxDischargeDepth:=6) +contextual -implicitDefEqProofs only [amA M,amB,↓aj,↓ae,↓al,↓ak,Nat.reduceBEq,Nat.reduceAdd,env,ao,Eu,h1]
def Rl(s:Str)(at_:Int):Option UInt8:=if at_<0 then none else s[at_.toNat]?
def isV(v:Str)(c:UInt8):Bool:=v.any fun d=>d == c
def DX(v:Str)(p:UInt8)(s:Str)(at_:Int):Bool:=
 match Rl s at_ with
 |none=>((p.toNat:Int) == 35)&&((at_ == -1)||(at_ == (s.length:Int)))
 |some c=>sel ((p.toNat:Int) == 67) (qY c && !isV v c) (sel ((p.toNat:Int) == 86) (qY c&&isV v c) (p.toNat == c.toNat))
theorem MG(hN:dW E)(hS:SpE E)(hX:qy M){l:Lex}(p:UInt8)(s:Str)(at_:Int)(H:List ab) :
  M.run jE [.agg l.row,.int .u8 p.toNat,.str s,.int .i64 at_] H=some (.ret (.bool (DX l.vowels p s at_)),H):=by
 rw [a6 M hS.morph_language_match rfl (c:=ni) rfl,ni]
 by_cases h:at_<0
 ·have e:Rl s at_=none:=if_pos h
  have hd:decide (at_<0)=true:=decide_eq_true h
  simp (maxSteps:=3000000) (maxDischargeDepth:=6) +contextual -implicitDefEqProofs only [amA M,amB,↓aj,↓ae,↓al,↓ak,Nat.reduceBEq,Nat.reduceAdd,env,ao,nj,hd,DX,e,cut_app]
 ·obtain ⟨j,rfl⟩:∃ j:Nat,at_=(j:Int):=⟨at_.toNat,by omega⟩
  have e:Rl s (j:Int)=s[j]? := by simp [Rl,h]
  by_cases hj:j<s.length
  ·have hx:s[j]?=some s[j]:=List.getElem?_eq_getElem hj
   have hd:decide (s.length≤j)=false:=decide_eq_false (by omega)
   simp (maxSteps:=3000000) (maxDischargeDepth:=6) +contextual -implicitDefEqProofs only [amA M,amB,↓aj,↓ae,↓al,↓ak,Nat.reduceBEq,Nat.reduceAdd,env,ao,nj,TI,hd,hx,DX,e,dZ,cut_app,LS M hS hX,MF,ns M hN.letter,isV]
  ·have hx:s[j]?=none:=List.getElem?_eq_none (by omega)
   have hd:decide (s.length≤j)=true:=decide_eq_true (by omega)
   simp (maxSteps:=3000000) (maxDischargeDepth:=6) +contextual -implicitDefEqProofs only [amA M,amB,↓aj,↓ae,↓al,↓ak,Nat.reduceBEq,Nat.reduceAdd,env,ao,nj,TI,hd,hx,DX,e,cut_app]
def TY{α:Type}(f:Nat→α→Bool):Nat→List α→Bool
 |_,[]=>true
 |i,x::l=>f i x&&TY f (i+1) l
def Sq{α:Type}(f:Nat→α→Bool):Nat→α→Option AV:=fun i x=>sel (f i x) none (some (.bool false))
theorem FZ{α:Type}(f:Nat→α→Bool)(H:List ab)(x:Option Out):∀ (l:List α) (i:Nat),orE (fD (Sq f) i l) H x=sel (TY f i l) x (some (.ret (.bool false),H))
 |[],_=>rfl
 |y::l,i=>by
  rw [ua,Rc,FZ f H x l,TY]
  unfold Sq
  cases f i y<;>rfl
theorem spl{H H0:List ab}(hN:dW E)(hS:SpE E)(hX:qy M){l:Lex}{q:Str}{s:Str}{a:Nat}(ha:a≤bE){L:Str}(hLl:L.length=q.length)(hqs:q.length≤bE)(hL:∀ k,k<L.length→q[q.length-1-k]?=L[k]?){p:Nat}{T:TypeId}(hp:H[p]?=some (.cells l.row T))(hc:dL H0 H)(k:List Fra):∀ (n i:Nat) (He:List ab),i+n=L.length →
  M.go dy H0 (.c gO :: .lp ⟨(some [1,2,3,4,11,12]),[],false⟩ gO He :: .blk 0 :: .c (.lv [])::k) (kv [(1,.str q),(2,.str s),(3,.int .i64 a),(4,.ptr p 0),(11,.int .i64 L.length),(12,.int .i64 i)]) H =
   orE (fD (Sq fun k c=>DX l.vowels c s ((a:Int)-1-(k:Int))) i (L.drop i)) (H.take H0.length) (M.go dy H0 k .leaf H)
 |0,i,He,h=>by
  have e:i=L.length:=by omega
  subst e
  rw [aw M gO.eq_1]
  simp (maxSteps:=3000000) (maxDischargeDepth:=6) +contextual -implicitDefEqProofs only [amA M,amB,↓aj,↓ae,↓al,↓ak,Nat.reduceBEq,Nat.reduceAdd,env,ao,oH,Nat.lt_irrefl,List.drop_length]
 |n+1,i,He,h=>by
  have hi:i<L.length:=by omega
  have hx:L[i]?=some L[i]:=List.getElem?_eq_getElem hi
  have hd:(L.drop i)=L[i]::L.drop (i+1):=List.drop_eq_getElem_cons hi
  have hm:L[i]∈L:=List.getElem_mem hi
  have ih:=fun He=>spl (H:=H) (H0:=H0) (hN:=hN) (hS:=hS) (hX:=hX) (l:=l) (q:=q) (s:=s) (a:=a) (ha:=ha) (L:=L) (hLl:=hLl) (hqs:=hqs) (hL:=hL) (p:=p) (T:=T) (hp:=hp) hc k n (i+1)  He (by omega)
  simp only [kv_cons,kv_nil] at ih
  have hq:=(hL i hi).trans hx
  have e1:IntKind.i64.wrap ((q.length:Int)-1)=((q.length-1:Nat):Int):=U6 (by omega) hqs
  have e2:IntKind.i64.wrap (((q.length-1:Nat):Int)-(i:Int))=((q.length-1-i:Nat):Int):=by
   simp only [bE] at hqs;rw [ep (by omega) (by omega)];omega
  have e3:IntKind.i64.wrap ((a:Int)-1)=(a:Int)-1:=by simp only [bE] at ha;exact ep (by omega) (by omega)
  have e4:IntKind.i64.wrap ((a:Int)-1-(i:Int))=(a:Int)-1-(i:Int):=by simp only [bE] at ha hqs;exact ep (by omega) (by omega)
  rw [aw M gO.eq_1]
  simp (maxSteps:=3000000) (maxDischargeDepth:=6) +contextual -implicitDefEqProofs only [amA M,amB,↓aj,↓ae,↓al,↓ak,Nat.reduceBEq,Nat.reduceAdd,env,ao,oH,hx,hd,hi,ih,hq,e1,e2,e3,e4,hp,dZ,MG M hN hS hX,de hi (show L.length≤bE by omega),Sq,hc]
def O8(v p s:Str)(a:Nat):Bool:=TY (fun k c=>DX v c s ((a:Int)-1-(k:Int))) 0 p.reverse
theorem Vh(q:Str):∀ k,k<q.reverse.length→q[q.length-1-k]?=q.reverse[k]? := fun k hk=>by
 rw [List.getElem?_reverse (by simpa using hk)]
theorem TZ(hN:dW E)(hS:SpE E)(hX:qy M){l:Lex}{q:Str}(hq:q.length≤bE)(s:Str){a:Nat}(ha:a≤bE)(H:List ab) :
  M.run nZ [.agg l.row,.str q,.str s,.int .i64 a] H=some (.ret (.bool (O8 l.vowels q s a)),H):=by
 rw [a6 M hS.morph_language_left rfl (c:=oG) rfl,oG]
 have h1:=fun k He=>spl M hN hS hX (H:=H++[.cells l.row aE]) (H0:=H) (l:=l) (q:=q) (s:=s) ha (L:=q.reverse) (by simp) hq (Vh q) (p:=H.length) (T:=aE) (by rw [ej];rfl) (cut_app H _) k q.reverse.length 0 He (by omega)
 simp only [kv_cons,kv_nil,Int.ofNat_zero,List.drop_zero,FZ,List.length_reverse] at h1
 simp (maxSteps:=3000000) (maxDischargeDepth:=6) +contextual -implicitDefEqProofs only [amA M,amB,↓aj,↓ae,↓al,↓ak,Nat.reduceBEq,Nat.reduceAdd,env,ao,oH,h1,O8,cut_app]
theorem spr{H H0:List ab}(hN:dW E)(hS:SpE E)(hX:qy M){l:Lex}{q:Str}{s:Str}{a:Nat}(ha:a+q.length≤bE){p:Nat}{T:TypeId}(hp:H[p]?=some (.cells l.row T))(hc:dL H0 H)(k:List Fra):∀ (n i:Nat) (He:List ab),i+n=q.length →
  M.go c8 H0 (.c gj :: .lp ⟨(some [1,2,3,4,11,12]),[],false⟩ gj He :: .blk 0 :: .c (.lv [])::k) (kv [(1,.str q),(2,.str s),(3,.int .i64 a),(4,.ptr p 0),(11,.int .i64 q.length),(12,.int .i64 i)]) H =
   orE (fD (Sq fun k c=>DX l.vowels c s ((a+k:Nat):Int)) i (q.drop i)) (H.take H0.length) (M.go c8 H0 k .leaf H)
 |0,i,He,h=>by
  have e:i=q.length:=by omega
  subst e
  rw [aw M gj.eq_1]
  simp (maxSteps:=3000000) (maxDischargeDepth:=6) +contextual -implicitDefEqProofs only [amA M,amB,↓aj,↓ae,↓al,↓ak,Nat.reduceBEq,Nat.reduceAdd,env,ao,nh,Nat.lt_irrefl,List.drop_length]
 |n+1,i,He,h=>by
  have hi:i<q.length:=by omega
  have hx:q[i]?=some q[i]:=List.getElem?_eq_getElem hi
  have hd:(q.drop i)=q[i]::q.drop (i+1):=List.drop_eq_getElem_cons hi
  have hm:q[i]∈q:=List.getElem_mem hi
  have ih:=fun He=>spr (H:=H) (H0:=H0) (hN:=hN) (hS:=hS) (hX:=hX) (l:=l) (q:=q) (s:=s) (a:=a) (ha:=ha) (p:=p) (T:=T) (hp:=hp) hc k n (i+1)  He (by omega)
  simp only [kv_cons,kv_nil] at ih
  have e1:IntKind.i64.wrap ((a:Int)+(i:Int))=((a+i:Nat):Int):=by simp only [bE] at ha;rw [ep (by omega) (by omega)];omega
  rw [aw M gj.eq_1]
  simp (maxSteps:=3000000) (maxDischargeDepth:=6) +contextual -implicitDefEqProofs only [amA M,amB,↓aj,↓ae,↓al,↓ak,Nat.reduceBEq,Nat.reduceAdd,env,ao,nh,hx,hd,hi,ih,e1,hp,dZ,MG M hN hS hX,de hi (show q.length≤bE by omega),Sq,hc]
def NI(v p s:Str)(a:Nat):Bool:=TY (fun k c=>DX v c s ((a+k:Nat):Int)) 0 p
theorem Sr(hN:dW E)(hS:SpE E)(hX:qy M){l:Lex}{q:Str}(s:Str){a:Nat}(ha:a+q.length≤bE)(H:List ab) :
  M.run mF [.agg l.row,.str q,.str s,.int .i64 a] H=some (.ret (.bool (NI l.vowels q s a)),H):=by
 rw [a6 M hS.morph_language_right rfl (c:=ng) rfl,ng]
 have h1:=fun k He=>spr M hN hS hX (H:=H++[.cells l.row aE]) (H0:=H) (l:=l) (q:=q) (s:=s) ha (p:=H.length) (T:=aE) (by rw [ej];rfl) (cut_app H _) k q.length 0 He (by omega)
 simp only [kv_cons,kv_nil,Int.ofNat_zero,List.drop_zero,FZ] at h1
 simp (maxSteps:=3000000) (maxDischargeDepth:=6) +contextual -implicitDefEqProofs only [amA M,amB,↓aj,↓ae,↓al,↓ak,Nat.reduceBEq,Nat.reduceAdd,env,ao,nh,h1,NI,cut_app]
end
section
attribute [local congr] aF ca bg aG aZ aL aH aA aC aM aN
variable{E:bt}(M:cK cU E)
def Vi(v:Str)(x:bz)(s:Str)(i:Nat):Bool:=jJ (s.drop i) x.frm&&(O8 v x.left s i&&NI v x.right s (i+x.frm.length))
def Ji(v:Str)(x:bz)(s:Str):Nat→Nat→Str→Str
 |0,_,w=>w
 |n+1,i,w=>match s[i]? with
  |none=>w
  |some c=>match Vi v x s i with
   |true=>Ji v x s n (i+x.frm.length) (w++x.to)
   |false=>Ji v x s n (i+1) (w++[c])
def AR(v:Str)(x:bz)(s:Str):Str:=Ji v x s (s.length+1) 0 []
theorem KP(v:Str)(x:bz)(s:Str)(ht:x.to.length≤6):∀ (n i:Nat) (w:Str),(Ji v x s n i w).length≤w.length+6*n
 |0,i,w=>by simp only [Ji];omega
 |n+1,i,w=>by
  unfold Ji
  split
  ·omega
  ·split
   ·have:=KP v x s ht n (i+x.frm.length) (w++x.to)
    simp only [List.length_append] at this
    omega
   ·rename_i c _ _ _
    have:=KP v x s ht n (i+1) (w++[c])
    simp only [List.length_append,List.length_singleton] at this
    omega
theorem Ss(v:Str)(x:bz)(s:Str)(ht:x.to.length≤6):(AR v x s).length≤6*(s.length+1):=by
 have:=KP v x s ht (s.length+1) 0 []
 simpa [AR] using this
theorem Ia(hB:ra E)(hX:qy M)(H L:List ab){w s:Str}{a:AV}(ha:a = .nilp∨a = .ptr (H.length+1) 0)(h:w.length+s.length≤140737488355328) :
  M.run aR [.ptr (H.length+1) 0,.str s] (H++(bTok w::j3 a H.length w bq::L))=some (.ret (.tuple [.int .i64 s.length,.nilif]),H++(bTok (w++s)::j3 (.ptr (H.length+1) 0) H.length (w++s) bq::L)):=by
 rcases ha with rfl | rfl
 ·exact H8 M (T:=0) hB hX H L h
 ·exact H9 M hB hX H L h
theorem KQ(hB:ra E)(hX:qy M)(H L:List ab){w:Str}{c:UInt8}{a:AV}(ha:a = .nilp∨a = .ptr (H.length+1) 0)(h:w.length+1≤140737488355328) :
  M.run fb [.ptr (H.length+1) 0,.int .u8 c.toNat] (H++(bTok w::j3 a H.length w bq::L))=some (.ret .nilif,H++(bTok (w++[c])::j3 (.ptr (H.length+1) 0) H.length (w++[c]) bq::L)):=by
 rcases ha with rfl | rfl
 ·exact KN M (T:=0) hB hX H L h
 ·exact KO M hB hX H L h
theorem spw(hN:dW E)(hS:SpE E)(hX:qy M)(hB:ra E){l:Lex}{x:bz}{n0:Nat}(hx0:x.ok n0)(h0:x.frm≠[])(ht:x.to.length≤6)(hfr:x.frm.length≤6)(hri:x.right.length≤6){s:Str}(hs:s.length≤1000000)
  {H H0:List ab}{p q:Nat}{T T2:TypeId} (hp:H[p]?=some (.cells l.row T)) (hq:H[q]?=some (.cells x.row T2)):∀ (n i:Nat) (w:Str) (a:AV),(a = .nilp∨a = .ptr (H.length+1) 0)→s.length<i+n→i≤s.length+6→w.length≤6*i →
  ∃ a',∀ (k:List Fra) (He:List ab),M.go c7 H0 (.c dO :: .lp ⟨(some [2,3,4,8,9]),[],false⟩ dO He :: .blk 0 :: .c (.lv [8])::k) (kv [(2,.str s),(3,.ptr p 0),(4,.ptr q 0),(8,.ptr (H.length+1) 0),(9,.int .i64 i)]) (H++[bTok w,j3 a H.length w bq]) =
   M.go c7 H0 k (kv [(8,.ptr (H.length+1) 0)]) (H++[bTok (Ji l.vowels x s n i w),j3 a' H.length (Ji l.vowels x s n i w) bq])
 |0,i,w,a,ha,hn,hi,hw=>by
  refine ⟨a,fun k He => ?_⟩
  have e:¬ i<s.length:=by omega
  rw [Ji]
  rw [aw M dO.eq_1]
  simp (maxSteps:=3000000) (maxDischargeDepth:=6) +contextual -implicitDefEqProofs only [amA M,amB,↓aj,↓ae,↓al,↓ak,Nat.reduceBEq,Nat.reduceAdd,env,ao,eA,e]
 |n+1,i,w,a,ha,hn,hi,hw=>by
  have hp':=fun L=>dE (L:=L) hp
  have hq':=fun L=>dE (L:=L) hq
  by_cases h:i<s.length
  ·have hx:s[i]?=some s[i]:=List.getElem?_eq_getElem h
   have hf:0<x.frm.length:=by cases hxf:x.frm with
    |nil=>exact absurd hxf h0
    |cons a b=>simp
   have l1:=fun H=>TZ M hN hS hX (l:=l) hx0.left s (show i≤bE by simp only [bE];omega) H
   have r1:=fun H=>Sr M hN hS hX (l:=l) (q:=x.right) s (show (i+x.frm.length)+x.right.length≤bE by simp only [bE];omega) H
   have e1:IntKind.i64.wrap ((i:Int)+(x.frm.length:Int))=((i+x.frm.length:Nat):Int):=by rw [ep (by omega) (by omega)];omega
   cases hA:Vi l.vowels x s i with
   |true=>
    obtain ⟨a',ih⟩:=spw hN hS hX hB hx0 h0 ht hfr hri hs hp hq n (i+x.frm.length) (w++x.to) (.ptr (H.length+1) 0) (.inr rfl) (by omega) (by omega) (by simp;omega)
    refine ⟨a',fun k He => ?_⟩
    simp only [kv_cons,kv_nil] at ih
    rw [Ji,hx,hA]
    simp only [Vi,Bool.and_eq_true] at hA
    have w1:=Ia M hB hX H [] (w:=w) (s:=x.to) ha (by omega)
    rw [aw M dO.eq_1]
    simp (maxSteps:=3000000) (maxDischargeDepth:=6) +contextual -implicitDefEqProofs only [amA M,amB,↓aj,↓ae,↓al,↓ak,Nat.reduceBEq,Nat.reduceAdd,env,ao,eA,h,hx,ih,hp',hq',dZ,yA,w9 (Nat.le_of_lt h),tR M hS,l1,r1,e1,hA.1,hA.2.1,hA.2.2,w1]
    all_goals exact ih _ _
   |false=>
    obtain ⟨a',ih⟩:=spw hN hS hX hB hx0 h0 ht hfr hri hs hp hq n (i+1) (w++[s[i]]) (.ptr (H.length+1) 0) (.inr rfl) (by omega) (by omega) (by simp;omega)
    refine ⟨a',fun k He => ?_⟩
    simp only [kv_cons,kv_nil] at ih
    rw [Ji,hx,hA]
    have w1:=KQ M hB hX H [] (w:=w) (c:=s[i]) ha (by omega)
    have hA2:(jJ (s.drop i) x.frm&&O8 l.vowels x.left s i&&NI l.vowels x.right s (i+x.frm.length))=false:=by rw [← hA,Vi,Bool.and_assoc]
    rw [aw M dO.eq_1]
    cases c1:jJ (s.drop i) x.frm with
    |false=>
     simp (maxSteps:=3000000) (maxDischargeDepth:=6) +contextual -implicitDefEqProofs only [amA M,amB,↓aj,↓ae,↓al,↓ak,Nat.reduceBEq,Nat.reduceAdd,env,ao,eA,h,hx,ih,hp',hq',dZ,yA,w9 (Nat.le_of_lt h),tR M hS,c1,w1,de h (show s.length≤bE by simp only [bE];omega)]
     all_goals exact ih _ _
    |true=>
     cases c2:O8 l.vowels x.left s i with
     |false=>
      simp (maxSteps:=3000000) (maxDischargeDepth:=6) +contextual -implicitDefEqProofs only [amA M,amB,↓aj,↓ae,↓al,↓ak,Nat.reduceBEq,Nat.reduceAdd,env,ao,eA,h,hx,ih,hp',hq',dZ,yA,w9 (Nat.le_of_lt h),tR M hS,l1,c1,c2,w1,de h (show s.length≤bE by simp only [bE];omega)]
      all_goals exact ih _ _
     |true=>
      rw [c1,c2] at hA2
      simp only [Bool.true_and] at hA2
      simp (maxSteps:=3000000) (maxDischargeDepth:=6) +contextual -implicitDefEqProofs only [amA M,amB,↓aj,↓ae,↓al,↓ak,Nat.reduceBEq,Nat.reduceAdd,env,ao,eA,h,hx,ih,hp',hq',dZ,yA,w9 (Nat.le_of_lt h),tR M hS,l1,r1,e1,c1,c2,hA2,w1,de h (show s.length≤bE by simp only [bE];omega)]
      all_goals exact ih _ _
  ·refine ⟨a,fun k He => ?_⟩
   have hx:s[i]?=none:=List.getElem?_eq_none (by omega)
   rw [Ji,hx]
   rw [aw M dO.eq_1]
   simp (maxSteps:=3000000) (maxDischargeDepth:=6) +contextual -implicitDefEqProofs only [amA M,amB,↓aj,↓ae,↓al,↓ak,Nat.reduceBEq,Nat.reduceAdd,env,ao,eA,h]
theorem St(hN:dW E)(hS:SpE E)(hX:qy M)(hB:ra E){l:Lex}{x:bz}{n0:Nat}(hx0:x.ok n0)(h0:x.frm≠[])(ht:x.to.length≤6)(hfr:x.frm.length≤6)(hri:x.right.length≤6){s:Str}(hs:s.length≤1000000)(H:List ab) :
  M.run mE [.agg l.row,.agg x.row,.str s] H=some (.ret (.tuple [.str (AR l.vowels x s),.bool (decide (((AR l.vowels x s).length:Int)≤512))]),H):=by
 rw [a6 M hS.morph_language_spell rfl (c:=nd) rfl,nd]
 have hlen:(AR l.vowels x s).length≤9223372036854775807:=by have:=Ss l.vowels x s ht;omega
 obtain ⟨a',h1⟩:=spw M hN hS hX hB hx0 h0 ht hfr hri hs (l:=l) (H:=H++[.cells l.row aE,.cells x.row eQ]) (H0:=H) (p:=H.length) (q:=H.length+1) (T:=aE) (T2:=eQ) (by rw [ej];rfl) (by rw [hp_getk];rfl) (s.length+1) 0 [] .nilp (.inl rfl) (by omega) (by omega) (by simp)
 have h2:=O7 M hB (H++[.cells l.row aE,.cells x.row eQ]) [] (a:=a') (T:=bq) hlen
 have h3:=TV M hB (H++[.cells l.row aE,.cells x.row eQ]) [] (w:=AR l.vowels x s) (a:=a') (T:=bq)
 rw [← AR] at h1
 simp only [kv_cons,kv_nil,Int.ofNat_zero,lo_app3,Ny,lo_app0,lo_len,lo_len1,lo_len0,Nat.zero_add,Nat.reduceAdd,Nat.add_assoc,(show bTok [] = .tok 0 dG from rfl),(show ∀ a n T,j3 a n [] T = .cells [a,.slice (.own n) 1 []] T from fun _ _ _=>rfl)] at h1 h2 h3
 simp (maxSteps:=3000000) (maxDischargeDepth:=6) +contextual -implicitDefEqProofs only [amA M,amB,↓aj,↓ae,↓al,↓ak,Nat.reduceBEq,Nat.reduceAdd,env,ao,eA,amG,AV.cell,Nat.reduceMul,Nat.reduceLeDiff,qU,Nat.add_assoc,h1,h2,h3,wk_tuple]
end
section
attribute [local congr] aF ca bg aG aZ aL aH aA aC aM aN
variable{E:bt}(M:cK cU E)
structure RSpE (E:bt):Prop where
 truchmanref02_matches:E.fn lI=some lX
 truchmanref02_applies:E.fn rm=some lW
 truchmanref02_rewrite:E.fn rl=some lV
end
section
attribute [local congr] aF ca bg aG aZ aL aH aA aC aM aN
variable{E:bt}(M:cK cU E)
theorem vA{s t:Str}(h:s.length+t.length<9223372036854775808):rP .add s t=some (.str (s++t)):=Wl h
structure T3 (l:Lex):Prop where
 vowels:l.vowels.all qY=true
 spells:∀ x∈l.spells.l,DM x=0
 short:VV l
theorem T4{l:Lex}(h:eE l=0):T3 l:=by
 unfold eE at h
 simp only [W9,Xa] at h
 rw [Vf,Ri] at h
 cases hv:l.vowels.all qY with
 |false=>rw [hv] at h;simp [sel] at h
 |true=>
  rw [hv] at h
  cases hi:Wv l.vowels with
  |false=>rw [hi] at h;simp [sel] at h
  |true=>
   rw [hi] at h
   simp only [sel,beq_self_eq_true,Bool.not_true] at h
   cases h1:FV l == 0 with
   |false=>rw [h1] at h;simp only [Bool.not_false] at h;rw [h] at h1;simp at h1
   |true=>
    rw [h1] at h;simp only [Bool.not_true] at h
    cases h2:BN l == 0 with
    |false=>rw [h2] at h;simp only [Bool.not_false] at h;rw [h] at h2;simp at h2
    |true=>
     rw [h2] at h;simp only [Bool.not_true] at h
     cases h3:DN l == 0 with
     |false=>rw [h3] at h;simp only [Bool.not_false] at h;rw [h] at h3;simp at h3
     |true=>
      rw [h3] at h;simp only [Bool.not_true] at h
      cases h4:DO l == 0 with
      |false=>rw [h4] at h;simp only [Bool.not_false] at h;rw [h] at h4;simp at h4
      |true=>
       refine ⟨hv,fun x hx => ?_,TK (eq_of_beq h2)⟩
       obtain ⟨k,hk⟩:=List.getElem?_of_mem hx
       exact (jR (eq_of_beq h4)).2 k x hk
theorem T5{x:bz}(h:DM x=0):x.frm≠[]∧x.to.length≤6∧x.frm.length≤6∧x.right.length≤6∧x.left.length≤6:=by
 rw [TN] at h
 cases c1:(x.frm == []||(!ofF [43] x.frm||(!ofF [43] x.to||(!ofF [43,35,86,67] x.left || !ofF [43,35,86,67] x.right)))) with
 |true=>rw [c1] at h;simp [sel] at h
 |false=>
  rw [c1] at h
  cases c2:(decide ((6:Int)<(x.frm.length:Int))||(decide ((6:Int)<(x.to.length:Int))||(decide ((6:Int)<(x.left.length:Int))||decide ((6:Int)<(x.right.length:Int))))) with
  |true=>rw [c2] at h;simp [sel] at h
  |false=>
   simp at c1 c2
   exact ⟨c1.1,by omega,by omega,by omega,by omega⟩
theorem jK{α:Type}{row:α→List AV}{l:List α}{tag:Tag}{sz:Nat}{k:IntKind}{r:Int}(h0:0≤r)(h:r.toNat<l.length):A8 sz (.slice tag sz (l.map row)) (.int k r)=some (.vptr sz (l.map row) r.toNat 0):=by
 have:=bp (row:=row) (tag:=tag) (sz:=sz) (k:=k) h
 rwa [Int.toNat_of_nonneg h0] at this
end
section
attribute [local congr] aF ca bg aG aZ aL aH aA aC aM aN
variable{E:bt}(M:cK cU E)
structure AS (E:bt):Prop where
 slices_Grow_api_Feat_api_Feat:E.fn fk=some cX
 slices_Concat_api_Feat_api_Feat:E.fn eK=some cC
 slices_Compact_api_Feat_api_Feat:E.fn ey=some aW
 morph_union:E.fn yG=some nU
 slices_Index_api_Feat_api_Feat:E.fn gV=some bJ
 slices_Contains_api_Feat_api_Feat:E.fn fX=some b8
 morph_Subsumes_1:E.fn mC=some iB
 morph_Subsumes:E.fn jO=some jP
 truchmanref02_Subsumes:E.fn qc=some ll
def bV(l:List au):List AV:=(l.map au.row).flatten
def nu(n:Nat):List AV:=(List.replicate n [AV.str [],AV.str []]).flatten
theorem pD(l:List au):(bV l).length=l.length*2:=by
 unfold bV
 induction l with
 |nil=>rfl
 |cons x l ih=>simp only [List.map_cons,List.flatten_cons,List.length_append,ih,List.length_cons];simp [au.row];omega
theorem Ee(a b:List au):bV (a++b)=bV a++bV b:=by simp [bV]
theorem Qx(n:Nat):(nu n).length=n*2:=by
 unfold nu;rw [List.length_flatten];simp
theorem IL(n:Nat):nu n=bV (List.replicate n ⟨[],[]⟩):=by simp [nu,bV,au.row]
theorem Su(hU:AS E)(H:List ab):M.run fk [.slice .nil 2 [],.int .i64 0] H=some (.ret (.slice .nil 2 []),H):=by
 rw [a6 M hU.slices_Grow_api_Feat_api_Feat rfl (c:=dV) rfl,dV]
 have w0:IntKind.i64.wrap 0=0:=by decide
 simp (maxSteps:=3000000) (maxDischargeDepth:=6) +contextual -implicitDefEqProofs only [amA M,amB,↓aj,↓ae,↓al,↓ak,Nat.reduceBEq,Nat.reduceAdd,env,ao,lq,Ob,List.length_nil,Int.ofNat_zero,Int.sub_self,w0,(show decide ((0:Int)<0)=false from rfl)]
theorem T6(hU:AS E){n:Nat}(h0:0<n)(hn:n≤4000000000)(H:List ab) :
  M.run fk [.slice .nil 2 [],.int .i64 n] H=some (.ret (.rslice H.length 0 0 2 true),H++[.cells (nu n) a7]):=by
 rw [a6 M hU.slices_Grow_api_Feat_api_Feat rfl (c:=dV) rfl,dV]
 have w0:IntKind.i64.wrap 0=0:=by decide
 have w1:IntKind.i64.wrap ((n:Int)-0)=(n:Int):=by rw [ep (by omega) (by omega)];omega
 have h1:decide ((n:Int)<0)=false:=decide_eq_false (by omega)
 have h2:decide ((n:Int) > 0)=true:=decide_eq_true (by omega)
 have e1:Cf 2 (.slice .nil 2 []) none (some (.int .i64 0)) none=some (.slice .nil 2 []):=rfl
 have e2:PU H a7 2 32 [.str [],.str []] (.slice .nil 2 []) (.int .i64 n)=some (.rslice H.length 0 n 2 true,H++[.cells (nu n) a7]):=by
  have a1:¬ (n:Int)=0:=by omega
  have a2:(0:Int)<n∧(n:Int).toNat*32≤140737488355328∧(n:Int)≤4611686018427387904:=by refine ⟨by omega, ?_,by omega⟩;simp;omega
  unfold PU;dsimp only;rw [if_neg a1,if_pos a2];rfl
 have e3:Cf 2 (.rslice H.length 0 n 2 true) none (some (.int .i64 0)) none=some (.rslice H.length 0 0 2 true):=by simp [Cf,fm]
 simp (maxSteps:=3000000) (maxDischargeDepth:=6) +contextual -implicitDefEqProofs only [amA M,amB,↓aj,↓ae,↓al,↓ak,Nat.reduceBEq,Nat.reduceAdd,env,ao,lq,amZ,Ob,List.length_nil,Int.ofNat_zero,Int.sub_self,w0,w1,h1,h2,e1,e2,e3]
theorem Sv{H:List ab}{n:Nat}{t:Tag}{a:List au}(h:a.length≤4000000000) :
  rap true (H++[.cells (nu n) a7]) a7 2 32 false (.rslice H.length 0 0 2 true) (.slice t 2 (a.map au.row))=some (.rslice (H.length+1) 0 a.length 2 true,H++[.dead,.cells (bV a) a7]):=by
 have hr:nV 2 (a.map au.row)=true:=by simp [nV,au.row,AV.cell]
 simp only [rap,Gv,Cg,or_true,if_true,hr,ej,List.length_map,Nat.zero_add,Nat.zero_mul,Nat.zero_le,true_and,List.take_zero,List.nil_append,hp_set0,List.length_append,List.length_cons,List.length_nil,List.getElem?_cons_zero,List.set_cons_zero]
 rw [if_pos ⟨by omega,by omega⟩]
 simp [bV]
theorem T7{H:List ab}{a b:List au}{t:Tag}(h:a.length+b.length≤4000000000) :
  rap true (H++[.dead,.cells (bV a) a7]) a7 2 32 false (.rslice (H.length+1) 0 a.length 2 true) (.slice t 2 (b.map au.row))=some (.rslice (H.length+2) 0 (a++b).length 2 true,H++[.dead,.dead,.cells (bV (a++b)) a7]):=by
 have hr:nV 2 (b.map au.row)=true:=by simp [nV,au.row,AV.cell]
 have hg:(H++[ab.dead,.cells (bV a) a7])[H.length+1]?=some (.cells (bV a) a7):=by rw [hp_getk];rfl
 have hs:(H++[ab.dead,.cells (bV a) a7]).set (H.length+1) .dead=H++[.dead,.dead]:=by
  rw [List.set_append_right _ _ (by omega)];simp
 simp only [rap,Gv,Cg,or_true,if_true,hr,hg,hs,List.length_map,true_and,List.length_append,List.length_cons,List.length_nil]
 rw [if_pos ⟨by rw [pD];exact Nat.le_refl _,by omega,by omega⟩]
 have e:(bV a).take (a.length*2)=bV a:=List.take_of_length_le (by rw [pD];exact Nat.le_refl _)
 rw [e,Ee]
 simp [bV]
theorem MH{H:List ab}{t:Tag}(ht:t = .nil∨t = .full){t2:Tag}:rap true H a7 2 32 false (.slice t 2 []) (.slice t2 2 [])=some (.slice .full 2 [],H):=by
 rcases ht with rfl | rfl<;>rfl
theorem Qy(hU:AS E){a b:List au}{ta tb:Tag}(h0:0<a.length+b.length)(h:a.length+b.length≤4000000000)(H:List ab) :
  M.run eK [.slice .full 1 [[.slice ta 2 (a.map au.row)],[.slice tb 2 (b.map au.row)]]] H=some (.ret (.rslice (H.length+2) 0 (a++b).length 2 true),H++[.dead,.dead,.cells (bV (a++b)) a7]):=by
 rw [a6 M hU.slices_Concat_api_Feat_api_Feat rfl (c:=dD) rfl,dD]
 have w1:IntKind.i64.wrap (0+(a.length:Int))=(a.length:Int):=by rw [ep (by omega) (by omega)];omega
 have w2:IntKind.i64.wrap ((a.length:Int)+(b.length:Int))=((a.length+b.length:Nat):Int):=by rw [ep (by omega) (by omega)];omega
 have w3:IntKind.i64.wrap (0+1)=1:=by decide
 have w4:IntKind.i64.wrap (1+1)=2:=by decide
 have d1:decide ((a.length:Int)<0)=false:=decide_eq_false (by omega)
 have d2:decide (((a.length+b.length:Nat):Int)<0)=false:=decide_eq_false (by omega)
 have i0:A8 1 (.slice .full 1 [[.slice ta 2 (a.map au.row)],[.slice tb 2 (b.map au.row)]]) (.int .i64 0)=some (.vptr 1 [[.slice ta 2 (a.map au.row)],[.slice tb 2 (b.map au.row)]] 0 0):=rfl
 have i1:A8 1 (.slice .full 1 [[.slice ta 2 (a.map au.row)],[.slice tb 2 (b.map au.row)]]) (.int .i64 1)=some (.vptr 1 [[.slice ta 2 (a.map au.row)],[.slice tb 2 (b.map au.row)]] 1 0):=rfl
 have n0:(([[.slice ta 2 (a.map au.row)],[.slice tb 2 (b.map au.row)]]:List (List AV)).length:Int)=2:=rfl
 have n1:decide ((0:Int)<2)=true:=rfl
 have n2:decide ((1:Int)<2)=true:=rfl
 have n3:decide ((2:Int)<2)=false:=rfl
 have g0:([[.slice ta 2 (a.map au.row)],[.slice tb 2 (b.map au.row)]]:List (List AV))[0]?=some [.slice ta 2 (a.map au.row)]:=rfl
 have g1:([[.slice ta 2 (a.map au.row)],[.slice tb 2 (b.map au.row)]]:List (List AV))[1]?=some [.slice tb 2 (b.map au.row)]:=rfl
 have l0:∀ x:AV,cD none [x] 0=some x:=fun _=>rfl
 simp (maxSteps:=3000000) (maxDischargeDepth:=6) +contextual -implicitDefEqProofs only [amA M,amB,↓aj,↓ae,↓al,↓ak,Nat.reduceBEq,Nat.reduceAdd,env,ao,kg,n0,n1,n2,n3,g0,g1,l0,aw M gh.eq_1,aw M gi.eq_1,w1,w2,w3,w4,d1,d2,i0,i1,T6 M hU h0 h,Sv (show a.length≤4000000000 by omega),T7 h]
end
section
attribute [local congr] aF ca bg aG aZ aL aH aA aC aM aN
variable{E:bt}(M:cK cU E)
def ddF:au→List au→List au
 |_,[]=>[]
 |p,q::t=>if (q.name == p.name&&q.value == p.value)=true then ddF q t else q::ddF q t
def jkF:List au→au→List au→List au
 |mid,p,[]=>mid++[p]
 |mid,p,q::t=>if (q.name == p.name&&q.value == p.value)=true then jkF (mid++[p]) q t else jkF ((mid++[p]).tail) q t
def yu:List au→List au
 |[]=>[]
 |x::l=>x::ddF x l
theorem Qz:∀ (t mid:List au) (p:au),(jkF mid p t).length+(ddF p t).length=mid.length+1+t.length
 |[],mid,p=>by simp [jkF,ddF]
 |q::t,mid,p=>by
  rw [jkF,ddF]
  split
  ·rw [Qz t (mid++[p]) q];simp;omega
  ·rw [List.length_cons,← Nat.add_assoc,Qz t ((mid++[p]).tail) q];simp;omega
theorem Ef(A B:List au)(q:au)(rest:List AV){n:Nat}(h:n=A.length*2):cD (some 2) (bV (A++q::B)++rest) n=some (.agg q.row):=by
 subst h
 have hl:=pD A
 have e:bV (A++q::B)++rest=bV A++(q.row++(bV B++rest)):=by rw [Ee];simp [bV]
 have hq:q.row.length=2:=rfl
 simp only [cD]
 rw [e,if_pos (by simp only [List.length_append,hl,hq];omega),← hl,List.drop_left,List.take_left' hq]
theorem F0:∀ (A x y rest:List AV),x.length=y.length→aO (A++(x++rest)) A.length y=A++(y++rest)
 |A,[],[],rest,_=>by simp [setRow_nil]
 |A,[],_::_,rest,h=>by cases h
 |A,_::_,[],rest,h=>by cases h
 |A,b::x,a::y,rest,h=>by
  rw [setRow_cons]
  have h2:(A++(b::x++rest)).set A.length a=(A++[a])++(x++rest):=by simp
  have:=F0 (A++[a]) x y rest (by simpa using h)
  rw [List.length_append,List.length_cons,List.length_nil,Nat.zero_add] at this
  rw [h2,this];simp
theorem QA(A B:List au)(m q:au)(rest:List AV){n:Nat}(h:n=A.length*2):aO (bV (A++m::B)++rest) n q.row=bV (A++q::B)++rest:=by
 subst h
 have e:∀ m:au,bV (A++m::B)++rest=bV A++(m.row++(bV B++rest)):=fun m=>by rw [Ee];simp [bV]
 rw [e,e,← pD A,F0 (bV A) m.row q.row (bV B++rest) rfl]
theorem KR{id off len n:Nat}{room:Bool}(h:n<len):A8 2 (.rslice id off len 2 room) (.int .i64 (n:Int))=some (.ptr id (off+n*2)):=by simp [A8,h]
theorem Eg{g:Option Nat}{H:List ab}{id n:Nat}{cs:List AV}{T:TypeId}(h:H[id]?=some (.cells cs T)):pw g H (.ptr id n)=cD g cs n:=by simp [pw,h]
theorem Rm{H:List ab}{id:Nat}(h:id<H.length)(o:ab):(H.set id o)[id]?=some o:=by simp [h]
theorem G9(n:Nat)(L:List au)(rest:List AV)(hr:∀ c∈rest,Wk n c c)(T:TypeId):Q3 n (.cells (bV L++rest) T):=fun c hc=>by
 rcases List.mem_append.1 hc with h | h
 ·unfold bV at h
  obtain ⟨r,hr1,hr2⟩:=List.mem_flatten.1 h
  obtain ⟨f,_,rfl⟩:=List.mem_map.1 hr1
  simp only [au.row,List.mem_cons,List.not_mem_nil,or_false] at hr2
  rcases hr2 with rfl | rfl<;>exact wk_str _ _
 ·exact hr c h
theorem cpi(hU:AS E){H H0:List ab}{id:Nat}(hid:id<H.length){T:TypeId}{rest:List AV}(k:List Fra){n off:Nat}(hn:n≤4000000000) :
  ∀ (t out mid:List au) (p:au) (k2:Nat) (He:List ab),out.length+mid.length+1=off+k2→out.length+mid.length+1+t.length=n→1≤k2 →
  M.go aW H0 (.c bZ :: .lp ⟨(some [0,3,4,5]),[],false⟩ bZ He :: .blk 2 :: .c (.lv [0,3])::k) (kv [(0,.rslice id 0 n 2 true),(3,.int .i64 out.length),(4,.rslice id (off*2) (n-off) 2 true),(5,.int .i64 k2)]) (H.set id (.cells (bV (out++(mid++p::t))++rest) T)) =
   M.go aW H0 k (kv [(0,.rslice id 0 n 2 true),(3,.int .i64 (out++ddF p t).length)]) (H.set id (.cells (bV ((out++ddF p t)++jkF mid p t)++rest) T))
 |[],out,mid,p,k2,He,h1,h2,h3=>by
  have d:decide (k2<n-off)=false:=decide_eq_false (by simp at h2;omega)
  have e:bV ((out++ddF p [])++jkF mid p [])=bV (out++(mid++[p])):=by simp [ddF,jkF]
  rw [e,show out++ddF p []=out by simp [ddF]]
  rw [aw M bZ.eq_1]
  simp (maxSteps:=3000000) (maxDischargeDepth:=6) +contextual -implicitDefEqProofs only [amA M,amB,↓aj,↓ae,↓al,↓ak,Nat.reduceBEq,Nat.reduceAdd,env,ao,ba,d,A9]
 |q::t,out,mid,p,k2,He,h1,h2,h3=>by
  simp only [List.length_cons] at h2
  have d:decide (k2<n-off)=true:=decide_eq_true (by omega)
  have b1:IntKind.i64.wrap ((k2:Int)-1)=((k2-1:Nat):Int):=by rw [ep (by omega) (by omega)];omega
  have b2:IntKind.i64.wrap ((k2:Int)+1)=((k2+1:Nat):Int):=by rw [ep (by omega) (by omega)];omega
  have b3:IntKind.i64.wrap ((out.length:Int)+1)=((out.length+1:Nat):Int):=by rw [ep (by omega) (by omega)];omega
  have i1:A8 2 (.rslice id (off*2) (n-off) 2 true) (.int .i64 (k2:Int))=some (.ptr id (off*2+k2*2)):=KR (by omega)
  have i2:A8 2 (.rslice id (off*2) (n-off) 2 true) (.int .i64 ((k2-1:Nat):Int))=some (.ptr id (off*2+(k2-1)*2)):=KR (by omega)
  have i3:A8 2 (.rslice id 0 n 2 true) (.int .i64 (out.length:Int))=some (.ptr id (0+out.length*2)):=KR (by omega)
  have hg:∀ c,(H.set id c)[id]?=some c:=fun c=>Rm hid c
  have l1:cD (some 2) (bV (out++(mid++p::q::t))++rest) (off*2+k2*2)=some (.agg q.row):=by
   have:=Ef (out++(mid++[p])) t q rest (n:=off*2+k2*2) (by simp;omega)
   simpa [List.append_assoc] using this
  have l2:cD (some 2) (bV (out++(mid++p::q::t))++rest) (off*2+(k2-1)*2)=some (.agg p.row):=by
   have:=Ef (out++mid) (q::t) p rest (n:=off*2+(k2-1)*2) (by simp;omega)
   simpa [List.append_assoc] using this
  cases hqp:(q.name == p.name&&q.value == p.value) with
  |true=>
   have ih:=fun He=>cpi hU (H:=H) (H0:=H0) hid (T:=T) (rest:=rest) k (off:=off) hn t out (mid++[p]) q (k2+1) He (by simp;omega) (by simp;omega) (by omega)
   simp only [kv_cons,kv_nil,List.append_assoc,List.cons_append,List.nil_append] at ih
   rw [ddF,if_pos hqp,jkF,if_pos hqp,List.append_assoc out (ddF q t)]
   rw [aw M bZ.eq_1]
   simp (maxSteps:=3000000) (maxDischargeDepth:=6) +contextual -implicitDefEqProofs only [amA M,amB,↓aj,↓ae,↓al,↓ak,Nat.reduceBEq,Nat.reduceAdd,env,ao,ba,d,A9,b1,b2,i1,i2,hg,l1,l2,Eg (hg _),DP,hqp,ih]
  |false=>
   have hne:¬ ((q.name == p.name&&q.value == p.value)=true):=by rw [hqp];simp
   obtain ⟨m0,mid',hm⟩:∃ m0 mid',mid++[p]=m0::mid':=by cases mid with
    |nil=>exact ⟨p,[],rfl⟩
    |cons a b=>exact ⟨a,b++[p],rfl⟩
   have hml:mid'.length=mid.length:=by have:=congrArg List.length hm;simp at this;omega
   have ih:=fun He=>cpi hU (H:=H) (H0:=H0) hid (T:=T) (rest:=rest) k (off:=off) hn t (out++[q]) mid' q (k2+1) He (by simp;omega) (by simp;omega) (by omega)
   have hst:aO (bV (out++(mid++p::q::t))++rest) (0+out.length*2) q.row=bV ((out++[q])++(mid'++q::t))++rest:=by
    have e1:out++(mid++p::q::t)=out++m0::(mid'++q::t):=by
     have:mid++p::q::t=(mid++[p])++q::t:=by simp
     rw [this,hm];rfl
    rw [e1,QA out (mid'++q::t) m0 q rest (by omega)];simp
   have hlen:0+out.length*2+2≤(bV (out++(mid++p::q::t))++rest).length:=by
    rw [List.length_append,pD];simp;omega
   rw [ddF,if_neg hne,jkF,if_neg hne,hm,List.tail_cons]
   simp only [kv_cons,kv_nil,List.length_append,List.length_cons,List.length_nil,Nat.zero_add] at ih
   rw [show out++q::ddF q t=(out++[q])++ddF q t by simp,show ((out++[q])++ddF q t).length=out.length+1+(ddF q t).length by simp;omega]
   have hss:∀ a b,(H.set id a).set id b=H.set id b:=fun a b=>by rw [List.set_set]
   rw [aw M bZ.eq_1]
   have hsto:stO 2 (H.set id (.cells (bV (out++(mid++p::q::t))++rest) T)) id (0+out.length*2) q.row (some (.cells (bV (out++(mid++p::q::t))++rest) T))=some (H.set id (.cells (bV ((out++[q])++(mid'++q::t))++rest) T)):=by
    simp only [stO]
    rw [if_pos ⟨rfl,hlen,rfl⟩,hst,hss]
   simp (maxSteps:=3000000) (maxDischargeDepth:=6) +contextual -implicitDefEqProofs only [amA M,amB,↓aj,↓ae,↓al,↓ak,Nat.reduceBEq,Nat.reduceAdd,env,ao,ba,d,A9,b1,b2,b3,i1,i2,i3,hg,l1,l2,Eg (hg _),DP,hqp,hsto,(show ∀ H,E6 (some H)=some (iY,H) from fun _=>rfl),ih]
theorem Vj{H0 H:List ab}(h:dL H0 H)(id:Nat){o:ab}(hw:Q3 H0.length o):dL H0 (H.set id o):=by
 refine ⟨by simpa using h.1,fun i x hi hx => ?_⟩
 rw [List.getElem?_set] at hx
 split at hx
 ·split at hx
  ·cases hx;exact .inr hw
  ·cases hx
 ·exact h.2 i x hi hx
def cpR(M:cK cU E)(H0:List ab)(k:List Fra)(id:Nat)(T:TypeId)(rest:List AV)(H:List ab)(n:Nat):List au→au→List au→Option Out
 |_,_,[]=>M.go aW H0 k (kv [(0,.rslice id 0 n 2 true)]) H
 |out,p,q::t=>if (q.name == p.name&&q.value == p.value)=true then
   some (.ret (.rslice id 0 (out++p::ddF q t).length 2 true),(H.set id (.cells (bV (out++p::ddF q t)++(nu (n-(out++p::ddF q t).length)++rest)) T)).take H0.length)
  else cpR M H0 k id T rest H n (out++[p]) q t
theorem cpo(hU:AS E){H H0:List ab}{id:Nat}(hid:id<H.length)(hi0:id<H0.length)(hc:dL H0 H){T:TypeId}{rest:List AV}(hr:∀ c∈rest,Wk H0.length c c)(k:List Fra){l:List au}(hn:l.length≤4000000000)(hx:H[id]?=some (.cells (bV l++rest) T)) :
  ∀ (t out:List au) (p:au) (He:List ab),l=out++p::t →
  M.go aW H0 (.c b4 :: .lp ⟨(some [0,3]),[],false⟩ b4 He :: .blk 0 :: .c (.lv [0])::k) (kv [(0,.rslice id 0 l.length 2 true),(3,.int .i64 (out.length+1:Nat))]) H=cpR M H0 k id T rest H l.length out p t
 |[],out,p,He,hl=>by
  have d:decide (out.length+1<l.length)=false:=decide_eq_false (by rw [hl];simp)
  rw [cpR]
  rw [aw M b4.eq_1]
  simp (maxSteps:=3000000) (maxDischargeDepth:=6) +contextual -implicitDefEqProofs only [amA M,amB,↓aj,↓ae,↓al,↓ak,Nat.reduceBEq,Nat.reduceAdd,env,ao,ba,d,A9]
 |q::t,out,p,He,hl=>by
  have hll:l.length=out.length+1+(t.length+1):=by rw [hl];simp;omega
  have d:decide (out.length+1<l.length)=true:=decide_eq_true (by omega)
  have b1:IntKind.i64.wrap (((out.length+1:Nat):Int)-1)=((out.length:Nat):Int):=by rw [ep (by omega) (by omega)];omega
  have b2:IntKind.i64.wrap (((out.length+1:Nat):Int)+1)=((out.length+1+1:Nat):Int):=by rw [ep (by omega) (by omega)];omega
  have i1:A8 2 (.rslice id 0 l.length 2 true) (.int .i64 ((out.length+1:Nat):Int))=some (.ptr id (0+(out.length+1)*2)):=KR (by omega)
  have i2:A8 2 (.rslice id 0 l.length 2 true) (.int .i64 ((out.length:Nat):Int))=some (.ptr id (0+out.length*2)):=KR (by omega)
  have l1:cD (some 2) (bV l++rest) (0+(out.length+1)*2)=some (.agg q.row):=by
   have:=Ef (out++[p]) t q rest (n:=0+(out.length+1)*2) (by simp)
   rw [hl];simpa [List.append_assoc] using this
  have l2:cD (some 2) (bV l++rest) (0+out.length*2)=some (.agg p.row):=by
   rw [hl];exact Ef out (q::t) p rest (by omega)
  cases hqp:(q.name == p.name&&q.value == p.value) with
  |true=>
   rw [cpR,if_pos hqp]
   have hin:=fun k He=>cpi M hU (H:=H) (H0:=H0) hid (T:=T) (rest:=rest) k (n:=l.length) (off:=out.length+1) hn t (out++[p]) [] q 1 He (by simp) (by simp;omega) (by omega)
   have hl2:l=(out++[p])++([]++q::t):=by rw [hl];simp
   have hs:H.set id (.cells (bV ((out++[p])++([]++q::t))++rest) T)=H:=by rw [← hl2];exact zE hx
   have ho:(out++[p]).length=out.length+1:=by simp
   simp only [hs,ho,(show ((1:Nat):Int)=1 from rfl)] at hin
   simp only [kv_cons,kv_nil] at hin
   generalize hK:(out++[p])++ddF q t=K at hin
   have hjk:=Qz t [] q
   have hKl:K.length+(jkF [] q t).length=l.length:=by rw [← hK,hll];simp;simp at hjk;omega
   have hjp:0<(jkF [] q t).length:=by
    have:(ddF q t).length≤t.length:=by
     have key:∀ (t:List au) (q:au),(ddF q t).length≤t.length:=fun t=>by
      induction t with
      |nil=>intro q;simp [ddF]
      |cons a t ih=>
       intro q;rw [ddF];have:=ih a;split<;>simp<;>omega
     exact key t q
    simp at hjk;omega
   have hKp:0<K.length:=by rw [← hK];simp;omega
   have s1:Cf 2 (.rslice id 0 l.length 2 true) (some (.int .i64 ((out.length+1:Nat):Int))) none none=some (.rslice id ((out.length+1)*2) (l.length-(out.length+1)) 2 true):=by
    simp only [Cf,fm]
    rw [if_pos (by omega),Int.toNat_natCast]
    simp only []
    rw [if_pos ⟨trivial,.inl (by omega),Nat.le_refl _⟩,Nat.zero_add]
   have s2:Cf 2 (.rslice id 0 l.length 2 true) (some (.int .i64 (K.length:Int))) none none=some (.rslice id (K.length*2) (l.length-K.length) 2 true):=by
    simp only [Cf,fm]
    rw [if_pos (by omega),Int.toNat_natCast]
    simp only []
    rw [if_pos ⟨trivial,.inl (by omega),Nat.le_refl _⟩,Nat.zero_add]
   have s3:Cf 2 (.rslice id 0 l.length 2 true) none (some (.int .i64 (K.length:Int))) none=some (.rslice id 0 K.length 2 true):=by
    simp only [Cf,fm]
    rw [if_pos (by omega),Int.toNat_natCast]
    simp only []
    rw [if_pos ⟨trivial,.inl (by omega),by omega⟩];simp
   have hcl:rcl (H.set id (.cells (bV (K++jkF [] q t)++rest) T)) 2 [.str [],.str []] (.rslice id (K.length*2) (l.length-K.length) 2 true)=some (H.set id (.cells (bV K++(nu (l.length-K.length)++rest)) T)):=by
    simp only [rcl,Rm hid]
    rw [if_pos ⟨trivial,by rw [List.length_append,pD,List.length_append];omega⟩,List.set_set]
    have e:bV (K++jkF [] q t)++rest=bV K++(bV (jkF [] q t)++rest):=by rw [Ee];simp
    have:=F0 (bV K) (bV (jkF [] q t)) (nu (l.length-K.length)) rest (by rw [pD,Qx];omega)
    rw [pD] at this
    rw [e]
    show some (H.set id (.cells (aO _ _ (nu (l.length-K.length))) T))=_
    rw [this]
   have hcut:dL H0 (H.set id (.cells (bV K++(nu (l.length-K.length)++rest)) T)):=Vj hc id (G9 _ K _ (fun c hcm=>by
    rcases List.mem_append.1 hcm with h | h
    ·rw [IL] at h
     exact G9 _ _ [] (fun _ h=>by cases h) T c (by simpa using h)
    ·exact hr c h) T)
   have hfin:u6 cU .drop H0 (H.set id (.cells (bV K++(nu (l.length-K.length)++rest)) T)) (.rslice id 0 K.length 2 true)=some (.rslice id 0 K.length 2 true,(H.set id (.cells (bV K++(nu (l.length-K.length)++rest)) T)).take H0.length):=handV_drop hcut (wk_rslice hi0)
   have hK2:out++p::ddF q t=K:=by rw [← hK];simp
   rw [hK2]
   rw [aw M b4.eq_1]
   simp (maxSteps:=3000000) (maxDischargeDepth:=6) +contextual -implicitDefEqProofs only [amA M,amB,↓aj,↓ae,↓al,↓ak,Nat.reduceBEq,Nat.reduceAdd,env,ao,ba,amZ,d,A9,b1,i1,i2,hx,l1,l2,Eg hx,DP,hqp,s1,s2,s3,hin,hcl,hfin]
  |false=>
   have hne:¬ ((q.name == p.name&&q.value == p.value)=true):=by rw [hqp];simp
   rw [cpR,if_neg hne]
   have ih:=fun He=>cpo hU (H0:=H0) hid hi0 hc hr k hn hx t (out++[p]) q He (by rw [hl];simp)
   have ho:(out++[p]).length=out.length+1:=by simp
   simp only [kv_cons,kv_nil,ho] at ih
   rw [aw M b4.eq_1]
   simp (maxSteps:=3000000) (maxDischargeDepth:=6) +contextual -implicitDefEqProofs only [amA M,amB,↓aj,↓ae,↓al,↓ak,Nat.reduceBEq,Nat.reduceAdd,env,ao,ba,d,A9,b1,b2,i1,i2,hx,l1,l2,Eg hx,DP,hqp,ih]
end
def F1(l:List au):Prop:=l.Pairwise fun x y=>Op.bytesLess x.name y.name=true
def Wek(l:List au):Prop:=l.Pairwise fun x y=>Op.bytesLess y.name x.name=false
theorem DY:∀ {l:List au},ze l=true→F1 l
 |[],_=>.nil
 |x::l,h=>.cons (vz h) (DY (AQ h))
theorem KS{x y:au}(h:(x.name == y.name&&x.value == y.value)=true):x=y:=by
 simp only [Bool.and_eq_true,beq_iff_eq] at h
 cases x;cases y;simp only at h;rw [h.1,h.2]
theorem QB(x:au):(x.name == x.name&&x.value == x.value)=true:=by simp
theorem O9{l:List au}(h:F1 l){x y:au}(hx:x∈l)(hy:y∈l)(hn:x.name=y.name):x=y:=by
 induction l with
 |nil=>cases hx
 |cons a l ih=>
  rw [F1,List.pairwise_cons] at h
  rcases List.mem_cons.1 hx with hx1 | hx1<;>rcases List.mem_cons.1 hy with hy1 | hy1
  ·rw [hx1,hy1]
  ·have:=h.1 y hy1;rw [← hx1,hn,DS] at this;cases this
  ·have:=h.1 x hx1;rw [← hy1,hn,DS] at this;cases this
  ·exact ih h.2 hx1 hy1
theorem Rn:∀ {l m:List au},F1 l→F1 m→(∀ x,x∈l↔x∈m)→l=m
 |[],[],_,_,_=>rfl
 |[],y::m,_,_,h=>by have:=(h y).2 (by simp);cases this
 |x::l,[],_,_,h=>by have:=(h x).1 (by simp);cases this
 |x::l,y::m,hl,hm,h=>by
  rw [F1,List.pairwise_cons] at hl hm
  have hxy:x=y:=by
   rcases List.mem_cons.1 ((h x).1 (by simp)) with e | h1
   ·exact e
   ·rcases List.mem_cons.1 ((h y).2 (by simp)) with e | h2
    ·exact e.symm
    ·have a1:=hm.1 x h1
     have a2:=hl.1 y h2
     rw [TJ a1] at a2;cases a2
  subst hxy
  congr 1
  refine Rn hl.2 hm.2 fun z=>⟨fun hz => ?_,fun hz => ?_⟩
  ·rcases List.mem_cons.1 ((h z).1 (by simp [hz])) with e | h1
   ·have:=hl.1 z hz;rw [e,DS] at this;cases this
   ·exact h1
  ·rcases List.mem_cons.1 ((h z).2 (by simp [hz])) with e | h1
   ·have:=hm.1 z hz;rw [e,DS] at this;cases this
   ·exact h1
theorem yv:∀ (n:Nat) (a b m:List au),a.length+b.length≤n→F1 a→F1 b→ks a b=some m→(∀ x,x∈m↔x∈a∨x∈b)∧F1 m
 |_,[],b,m,_,_,hb,h=>by
  have:ks [] b=some b:=by cases b<;>simp [ks]
  rw [this] at h;cases h
  exact ⟨fun x=>by simp,hb⟩
 |_,x::a,[],m,_,ha,_,h=>by
  have:ks (x::a) []=some (x::a):=by simp [ks]
  rw [this] at h;cases h
  exact ⟨fun x=>by simp,ha⟩
 |0,x::a,y::b,m,hl,_,_,_=>by simp at hl
 |n+1,x::a,y::b,m,hl,ha,hb,h=>by
  have ha':=ha;have hb':=hb
  rw [F1,List.pairwise_cons] at ha hb
  simp only [List.length_cons] at hl
  rw [ks] at h
  cases c1:Op.bytesLess x.name y.name with
  |true=>
   rw [c1] at h
   simp only [Option.map_eq_some_iff] at h
   obtain ⟨m',h1,rfl⟩:=h
   obtain ⟨g1,g2⟩:=yv n a (y::b) m' (by simp only [List.length_cons];omega) ha.2 hb' h1
   refine ⟨fun z=>by rw [List.mem_cons,g1,List.mem_cons (a:=z) (b:=x),or_assoc],List.pairwise_cons.2 ⟨fun z hz => ?_,g2⟩⟩
   rcases (g1 z).1 hz with h | h
   ·exact ha.1 z h
   ·rcases List.mem_cons.1 h with rfl | h
    ·exact c1
    ·exact qx c1 (hb.1 z h)
  |false=>
   rw [c1] at h
   simp only at h
   cases c2:Op.bytesLess y.name x.name with
   |true=>
    rw [c2] at h
    simp only [Option.map_eq_some_iff] at h
    obtain ⟨m',h1,rfl⟩:=h
    obtain ⟨g1,g2⟩:=yv n (x::a) b m' (by simp only [List.length_cons];omega) ha' hb.2 h1
    refine ⟨fun z=>by rw [List.mem_cons,g1,List.mem_cons (a:=z) (b:=y) (l:=b)];exact or_left_comm,List.pairwise_cons.2 ⟨fun z hz => ?_,g2⟩⟩
    rcases (g1 z).1 hz with h | h
    ·rcases List.mem_cons.1 h with rfl | h
     ·exact c2
     ·exact qx c2 (ha.1 z h)
    ·exact hb.1 z h
   |false=>
    rw [c2] at h
    simp only at h
    have hn:=KI c1 c2
    cases c3:(x.name == y.name&&x.value == y.value) with
    |false=>rw [c3] at h;cases h
    |true=>
     rw [c3] at h
     simp only [Option.map_eq_some_iff] at h
     obtain ⟨m',h1,rfl⟩:=h
     have hxy:=KS c3
     subst hxy
     obtain ⟨g1,g2⟩:=yv n a b m' (by omega) ha.2 hb.2 h1
     refine ⟨fun z=>by rw [List.mem_cons,g1,List.mem_cons (a:=z) (b:=x) (l:=a),List.mem_cons (a:=z) (b:=x) (l:=b)];exact or_or_distrib_left,List.pairwise_cons.2 ⟨fun z hz => ?_,g2⟩⟩
     rcases (g1 z).1 hz with h | h
     ·exact ha.1 z h
     ·exact hb.1 z h
theorem QC:∀ (l:List au) (p q:au),q∈p::ddF p l↔q∈p::l
 |[],p,q=>by simp [ddF]
 |r::t,p,q=>by
  rw [ddF]
  split
  ·rename_i h
   obtain rfl:=KS h
   rw [QC t r q];simp
  ·rw [List.mem_cons,QC t r q,List.mem_cons (a:=q) (b:=p)]
theorem T8:∀ (l:List au) (p:au),Wek (p::l)→(∀ x∈p::l,∀ y∈p::l,x.name=y.name→x=y)→F1 (p::ddF p l)
 |[],p,_,_=>by simp [ddF,F1]
 |q::t,p,hw,hu=>by
  have hw':=hw
  rw [Wek,List.pairwise_cons] at hw
  have ih:=T8 t q hw.2 (fun x hx y hy=>hu x (by simp at hx ⊢;exact .inr hx) y (by simp at hy ⊢;exact .inr hy))
  rw [ddF]
  split
  ·rename_i h
   obtain rfl:=KS h
   exact ih
  ·rename_i h
   have hpq:Op.bytesLess p.name q.name=true:=by
    have h1:=hw.1 q (by simp)
    cases h2:Op.bytesLess p.name q.name with
    |true=>rfl
    |false=>
     have:=hu p (by simp) q (by simp) (KI h2 h1)
     subst this
     exact absurd (QB p) h
   refine List.pairwise_cons.2 ⟨fun z hz => ?_,ih⟩
   rcases List.mem_cons.1 hz with rfl | hz
   ·exact hpq
   ·exact qx hpq ((List.pairwise_cons.1 ih).1 z hz)
structure Srt (srt:List au→List au):Prop where
 perm:∀ l,(srt l).Perm l
 ord:∀ l,Wek (srt l)
theorem T9{a b:List au}(ha:F1 a)(hb:F1 b)(hc:kr a b=false):∀ x∈a++b,∀ y∈a++b,x.name=y.name→x=y:=by
 have hab:∀ x∈a,∀ y∈b,x.name=y.name→x=y:=fun x hx y hy hn=>by
  have h1:(b.any fun g=>jI x g)=false:=by
   unfold kr at hc
   rw [List.any_eq_false] at hc
   have:=hc x hx
   simpa using this
  rw [List.any_eq_false] at h1
  have h2:=h1 y hy
  simp only [jI,hn,beq_self_eq_true,Bool.true_and,Bool.not_eq_true,Bool.not_eq_false'] at h2
  cases x;cases y;simp only at hn h2;rw [hn,eq_of_beq h2]
 intro x hx y hy hn
 rcases List.mem_append.1 hx with hx | hx<;>rcases List.mem_append.1 hy with hy | hy
 ·exact O9 ha hx hy hn
 ·exact hab x hx y hy hn
 ·exact (hab y hy x hx hn.symm).symm
 ·exact O9 hb hx hy hn
theorem QD{srt:List au→List au}(hs:Srt srt){l:List au}(hu:∀ x∈l,∀ y∈l,x.name=y.name→x=y):(∀ x,x∈yu (srt l)↔x∈l)∧F1 (yu (srt l)):=by
 have hp:=hs.perm l
 have ho:=hs.ord l
 generalize srt l=s at hp ho
 have hm:∀ x,x∈s↔x∈l:=fun x=>hp.mem_iff
 cases s with
 |nil=>exact ⟨fun x=>by rw [← hm];rfl,.nil⟩
 |cons p s=>exact ⟨fun x=>by rw [← hm];exact QC s p x,T8 s p ho fun x hx y hy=>hu x ((hm x).1 hx) y ((hm y).1 hy)⟩
def QE(srt:List au→List au)(a b:List au):Option (List au):=sel (ze a&&ze b && !kr a b) (some (yu (srt (a++b)))) none
theorem Ua{srt:List au→List au}(hs:Srt srt)(a b:List au):QE srt a b=DQ a b:=by
 unfold QE DQ
 cases ha:ze a with
 |false=>rfl
 |true=>
  cases hb:ze b with
  |false=>rfl
  |true=>
   have hc:=uu _ a b (Nat.le_refl _) ha hb
   simp only [Bool.true_and,sel]
   cases hcl:kr a b with
   |true=>
    rw [hcl] at hc
    cases hm:ks a b with
    |none=>rfl
    |some m=>rw [hm] at hc;cases hc
   |false=>
    rw [hcl] at hc
    cases hm:ks a b with
    |none=>rw [hm] at hc;cases hc
    |some m=>
     obtain ⟨g1,g2⟩:=yv _ a b m (Nat.le_refl _) (DY ha) (DY hb) hm
     obtain ⟨g3,g4⟩:=QD hs (T9 (DY ha) (DY hb) hcl)
     simp only [Bool.not_false]
     congr 1
     exact Rn g4 g2 fun x=>by rw [g3,g1,List.mem_append]
theorem Eh:∀ (n:Nat) (a b m:List au),a.length+b.length≤n→ks a b=some m→m.length≤a.length+b.length
 |_,[],b,m,_,h=>by
  have:ks [] b=some b:=by cases b<;>simp [ks]
  rw [this] at h;cases h;simp
 |_,x::a,[],m,_,h=>by
  have:ks (x::a) []=some (x::a):=by simp [ks]
  rw [this] at h;cases h;simp
 |0,x::a,y::b,m,hl,_=>by simp at hl
 |n+1,x::a,y::b,m,hl,h=>by
  simp only [List.length_cons] at hl
  rw [ks] at h
  split at h
  ·simp only [Option.map_eq_some_iff] at h
   obtain ⟨m',h1,rfl⟩:=h
   have:=Eh n a (y::b) m' (by simp only [List.length_cons];omega) h1
   simp only [List.length_cons] at this ⊢;omega
  ·split at h
   ·simp only [Option.map_eq_some_iff] at h
    obtain ⟨m',h1,rfl⟩:=h
    have:=Eh n (x::a) b m' (by simp only [List.length_cons];omega) h1
    simp only [List.length_cons] at this ⊢;omega
   ·split at h
    ·simp only [Option.map_eq_some_iff] at h
     obtain ⟨m',h1,rfl⟩:=h
     have:=Eh n a b m' (by omega) h1
     simp only [List.length_cons];omega
    ·cases h
section
attribute [local congr] aF ca bg aG aZ aL aH aA aC aM aN
variable{E:bt}(M:cK cU E)
theorem Ub{H0:List ab}{k:List Fra}{id:Nat}{T:TypeId}{rest:List AV}{H:List ab}{l:List au}(hx:H[id]?=some (.cells (bV l++rest) T))
  (hk:M.go aW H0 k (kv [(0,.rslice id 0 l.length 2 true)]) H=some (.ret (.rslice id 0 l.length 2 true),H.take H0.length)) :
  ∀ (t out:List au) (p:au),l=out++p::t→cpR M H0 k id T rest H l.length out p t=some (.ret (.rslice id 0 (out++p::ddF p t).length 2 true),(H.set id (.cells (bV (out++p::ddF p t)++(nu (l.length-(out++p::ddF p t).length)++rest)) T)).take H0.length)
 |[],out,p,hl=>by
  rw [cpR,hk,ddF,← hl,Nat.sub_self,show nu 0=[] from rfl,List.nil_append,zE hx]
 |q::t,out,p,hl=>by
  rw [cpR,ddF]
  split
  ·rfl
  ·have:=Ub hx hk t (out++[p]) q (by rw [hl];simp)
   rw [this]
   simp only [List.append_assoc,List.cons_append,List.nil_append]
theorem Pa(hU:AS E){l:List au}(h0:0<l.length)(hn:l.length≤4000000000){H:List ab}{id:Nat}{T:TypeId}{rest:List AV}(hr:∀ c∈rest,Wk H.length c c)(hx:H[id]?=some (.cells (bV l++rest) T)) :
  M.run ey [.rslice id 0 l.length 2 true] H=some (.ret (.rslice id 0 (yu l).length 2 true),H.set id (.cells (bV (yu l)++(nu (l.length-(yu l).length)++rest)) T)):=by
 have hid:id<H.length:=(List.getElem?_eq_some_iff.1 hx).1
 have hw:∀ n,u6 cU .drop H H (.rslice id 0 n 2 true)=some (.rslice id 0 n 2 true,H.take H.length):=fun n=>handV_drop (cut_refl H) (wk_rslice hid)
 match l,h0,hn,hx with
 |[x],_,_,hx=>
  rw [a6 M hU.slices_Compact_api_Feat_api_Feat rfl (c:=bO) rfl,bO]
  have e:yu [x]=[x]:=rfl
  have hs:H.set id (.cells (bV [x]++(nu ([x].length-[x].length)++rest)) T)=H:=by rw [Nat.sub_self];exact zE hx
  rw [e,hs]
  simp (maxSteps:=3000000) (maxDischargeDepth:=6) +contextual -implicitDefEqProofs only [amA M,amB,↓aj,↓ae,↓al,↓ak,Nat.reduceBEq,Nat.reduceAdd,env,ao,ba,A9,hw,(show decide ([x].length<2)=true from rfl),(show decide ((([x].length:Nat):Int)<2)=true from rfl)]
 |x::y::t,_,hn,hx=>
  rw [a6 M hU.slices_Compact_api_Feat_api_Feat rfl (c:=bO) rfl,bO]
  generalize hl:x::y::t=l at *
  have d:decide ((l.length:Int)<2)=false:=decide_eq_false (by rw [← hl];simp;omega)
  have h1:=fun k He=>cpo M hU (H:=H) (H0:=H) hid hid (cut_refl H) (T:=T) (rest:=rest) hr k (l:=l) hn hx (y::t) [] x He (by rw [← hl];rfl)
  simp only [kv_cons,kv_nil,List.length_nil,Nat.zero_add,(show ((1:Nat):Int)=1 from rfl)] at h1
  have hk:M.go aW H [.c (Sh.Q (Sh.O [Sh.m 60 0,Sh.m 2 60]) Sh.R)] (kv [(0,.rslice id 0 l.length 2 true)]) H=some (.ret (.rslice id 0 l.length 2 true),H.take H.length):=by
   simp only [kv_cons,kv_nil]
   simp (maxSteps:=3000000) (maxDischargeDepth:=6) +contextual -implicitDefEqProofs only [amA M,amB,↓aj,↓ae,↓al,↓ak,Nat.reduceBEq,Nat.reduceAdd,env,ao,ba,hw]
  have h2:=Ub M (rest:=rest) hx hk (y::t) [] x (by rw [← hl];rfl)
  have hc:yu l=[]++x::ddF x (y::t):=by rw [← hl];rfl
  rw [← hc,List.take_of_length_le (by simp)] at h2
  simp (maxSteps:=3000000) (maxDischargeDepth:=6) +contextual -implicitDefEqProofs only [amA M,amB,↓aj,↓ae,↓al,↓ak,Nat.reduceBEq,Nat.reduceAdd,env,ao,ba,A9,d,h1]
  exact h2
theorem Pb(hU:AS E){ta tb:Tag}(H:List ab) :
  M.run eK [.slice .full 1 [[.slice ta 2 []],[.slice tb 2 []]]] H=some (.ret (.slice .full 2 []),H):=by
 rw [a6 M hU.slices_Concat_api_Feat_api_Feat rfl (c:=dD) rfl,dD]
 have w1:IntKind.i64.wrap (0+0)=0:=by decide
 have w3:IntKind.i64.wrap (0+1)=1:=by decide
 have w4:IntKind.i64.wrap (1+1)=2:=by decide
 have d1:decide ((0:Int)<0)=false:=rfl
 have i0:A8 1 (.slice .full 1 [[.slice ta 2 []],[.slice tb 2 []]]) (.int .i64 0)=some (.vptr 1 [[.slice ta 2 []],[.slice tb 2 []]] 0 0):=rfl
 have i1:A8 1 (.slice .full 1 [[.slice ta 2 []],[.slice tb 2 []]]) (.int .i64 1)=some (.vptr 1 [[.slice ta 2 []],[.slice tb 2 []]] 1 0):=rfl
 have n0:(([[.slice ta 2 []],[.slice tb 2 []]]:List (List AV)).length:Int)=2:=rfl
 have n1:decide ((0:Int)<2)=true:=rfl
 have n2:decide ((1:Int)<2)=true:=rfl
 have n3:decide ((2:Int)<2)=false:=rfl
 have g0:([[.slice ta 2 []],[.slice tb 2 []]]:List (List AV))[0]?=some [.slice ta 2 []]:=rfl
 have g1:([[.slice ta 2 []],[.slice tb 2 []]]:List (List AV))[1]?=some [.slice tb 2 []]:=rfl
 have l0:∀ x:AV,cD none [x] 0=some x:=fun _=>rfl
 have e0:(((List.length ([]:List (List AV))):Nat):Int)=0:=rfl
 simp (maxSteps:=3000000) (maxDischargeDepth:=6) +contextual -implicitDefEqProofs only [amA M,amB,↓aj,↓ae,↓al,↓ak,Nat.reduceBEq,Nat.reduceAdd,env,ao,kg,n0,n1,n2,n3,g0,g1,l0,e0,aw M gh.eq_1,aw M gi.eq_1,w1,w3,w4,d1,i0,i1,Su M hU,MH (.inl rfl),MH (.inr rfl)]
structure Fl (M:cK cU E) (srt:List au→List au):Prop where
 none:∀ H,M.run bm [.slice .full 2 [],.fn (.func gm) [] []] H=some (.ret (.tuple []),H)
 some:∀ {l:List au}{H:List ab}{id:Nat}{T:TypeId},0<l.length→l.length≤4000000000→H[id]? = .some (.cells (bV l) T) →
  M.run bm [.rslice id 0 l.length 2 true,.fn (.func gm) [] []] H = .some (.ret (.tuple []),H.set id (.cells (bV (srt l)) T))
 len:∀ l,(srt l).length=l.length
theorem KT:∀ (l:List au) (rest:List AV),kS 2 l.length (bV l++rest)=l.map au.row
 |[],_=>rfl
 |x::l,rest=>by
  have e:bV (x::l)++rest=x.row++(bV l++rest):=by simp [bV]
  rw [e,List.length_cons,kS]
  show x.row::kS 2 l.length (bV l++rest)=_
  rw [KT l rest];rfl
theorem Pc(H:List ab)(o o':ab):(H++[.dead,.dead,o]).set (H.length+2) o'=H++[.dead,.dead,o']:=by
 rw [List.set_append_right _ _ (by omega)];simp
theorem KU(H:List ab)(o:ab):(H++[.dead,.dead,o])[H.length+2]?=some o:=by
 rw [List.getElem?_append_right (by omega)];simp
theorem Sw(hU:AS E){srt:List au→List au}(hS:Fl M srt){a b:Sl au}(h:a.l.length+b.l.length≤4000000000)(H:List ab) :
  M.run yG [.slice a.tag 2 (a.l.map au.row),.slice b.tag 2 (b.l.map au.row)] H=some (.ret (.slice .any 2 ((yu (srt (a.l++b.l))).map au.row)),H):=by
 rw [a6 M hU.morph_union rfl (c:=yV) rfl,yV]
 have e1:List.map AV.strip [AV.slice a.tag 2 (a.l.map au.row),.slice b.tag 2 (b.l.map au.row)]=[.slice a.tag.strip 2 (a.l.map au.row),.slice b.tag.strip 2 (b.l.map au.row)]:=by simp [yo]
 have e2:∀ x y:AV,yh 1 2 [x,y]=[[x],[y]]:=fun _ _=>rfl
 by_cases h0:a.l.length+b.l.length=0
 ·have ha:a.l=[]:=List.length_eq_zero_iff.1 (by omega)
  have hb:b.l=[]:=List.length_eq_zero_iff.1 (by omega)
  have hs:srt ([]++[])=[]:=List.length_eq_zero_iff.1 (by rw [hS.len];rfl)
  have hcp:M.run ey [.slice .full 2 []] H=some (.ret (.slice .any 2 []),H):=by
   rw [a6 M hU.slices_Compact_api_Feat_api_Feat rfl (c:=bO) rfl,bO]
   simp (maxSteps:=3000000) (maxDischargeDepth:=6) +contextual -implicitDefEqProofs only [amA M,amB,↓aj,↓ae,↓al,↓ak,Nat.reduceBEq,Nat.reduceAdd,env,ao,ba,A9,(show decide ((((List.length ([]:List (List AV))):Nat):Int)<2)=true from rfl),(show decide (List.length ([]:List (List AV))<2)=true from rfl),kU]
  rw [ha,hb,hs]
  rw [ha,hb] at e1
  simp only [List.map_nil] at e1 ⊢
  simp (maxSteps:=3000000) (maxDischargeDepth:=6) +contextual -implicitDefEqProofs only [amA M,amB,↓aj,↓ae,↓al,↓ak,Nat.reduceBEq,Nat.reduceAdd,env,ao,Fc,amG,AV.cell,Nat.reduceMul,Nat.reduceLeDiff,yo,Pb M hU,hS.none,hcp]
  rw [Mm (v':=.slice .any 2 []) rfl (fun K K' w w' x hi hi' hk hv=>by
   obtain ⟨hc1,hc2⟩:=hi.cut hi' hk (cut_refl H)
   exact ⟨_,hc2,wk_any (kU _) K' x (by rw [hi'.len];exact Nat.le_refl _) hv,hc1⟩)]
  simp only [List.take_length]
  rfl
 ·have hcc:=fun H=>Qy M hU (a:=a.l) (b:=b.l) (ta:=a.tag.strip) (tb:=b.tag.strip) (by omega) h H
  have hll:0<(a.l++b.l).length:=by simp;omega
  have hlm:(a.l++b.l).length≤4000000000:=by simp;omega
  have hso:=hS.some (l:=a.l++b.l) (H:=H++[.dead,.dead,.cells (bV (a.l++b.l)) a7]) (id:=H.length+2) (T:=a7) hll hlm (KU _ _)
  rw [Pc] at hso
  have hsl:=hS.len (a.l++b.l)
  generalize hL:srt (a.l++b.l)=L at hso hsl ⊢
  have hcp:=Pa M hU (l:=L) (by omega) (by omega) (H:=H++[.dead,.dead,.cells (bV L) a7]) (id:=H.length+2) (T:=a7) (rest:=[]) (fun c h=>by cases h) (by rw [KU,List.append_nil])
  rw [Pc,hsl] at hcp
  have hfz:u6 cU .frz H (H++[.dead,.dead,.cells (bV (yu L)++(nu ((a.l++b.l).length-(yu L).length)++[])) a7]) (.rslice (H.length+2) 0 (yu L).length 2 true)=some (.slice .any 2 ((yu L).map au.row),H):=by
   rw [HD (by omega) (KU _ _) (by simp) (by simp) (by rw [List.length_append,pD];omega) (G9 _ _ _ (fun c hc=>by
    rw [List.append_nil,IL] at hc
    exact G9 _ _ [] (fun _ h=>by cases h) 0 c (by simpa using hc)) 0),List.drop_zero,KT]
  simp only [List.append_nil] at hfz
  simp (maxSteps:=3000000) (maxDischargeDepth:=6) +contextual -implicitDefEqProofs only [amA M,amB,↓aj,↓ae,↓al,↓ak,Nat.reduceBEq,Nat.reduceAdd,env,ao,Fc,amG,AV.cell,Nat.reduceMul,Nat.reduceLeDiff,yo,hcc,hso,hcp,hfz]
end
section
attribute [local congr] aF ca bg aG aZ aL aH aA aC aM aN
variable{E:bt}(M:cK cU E)
def KV(x y:au):Bool:=x.name == y.name&&x.value == y.value
theorem ixq{H H0:List ab}{v:au}{tg:Tag}{l:List au}(hs:l.length≤bE){q:Nat}{T:TypeId}(hq:H[q]?=some (.cells v.row T))(hc:dL H0 H)(k:List Fra):∀ (n i:Nat) (He:List ab),i+n=l.length →
  M.go bJ H0 (.c dq :: .lp ⟨(some [0,3,7,8]),[],false⟩ dq He :: .blk 0 :: .c (.lv [])::k) (kv [(0,.slice tg 2 (l.map au.row)),(3,.ptr q 0),(7,.int .i64 l.length),(8,.int .i64 i)]) H =
   orE (fD (CI fun s=>KV v s) i (l.drop i)) (H.take H0.length) (M.go bJ H0 k .leaf H)
 |0,i,He,h=>by
  have e:i=l.length:=by omega
  subst e
  rw [aw M dq.eq_1]
  simp (maxSteps:=3000000) (maxDischargeDepth:=6) +contextual -implicitDefEqProofs only [amA M,amB,↓aj,↓ae,↓al,↓ak,Nat.reduceBEq,Nat.reduceAdd,env,ao,gZ,Nat.lt_irrefl,List.drop_length]
 |n+1,i,He,h=>by
  have hi:i<l.length:=by omega
  have hx:l[i]?=some l[i]:=List.getElem?_eq_getElem hi
  have hd:(l.drop i)=l[i]::l.drop (i+1):=List.drop_eq_getElem_cons hi
  have hm:l[i]∈l:=List.getElem_mem hi
  have ih:=fun He=>ixq (H:=H) (H0:=H0) (v:=v) (tg:=tg) (l:=l) (hs:=hs) (q:=q) (T:=T) (hq:=hq) hc k n (i+1)  He (by omega)
  simp only [kv_cons,kv_nil] at ih
  rw [aw M dq.eq_1]
  simp (maxSteps:=3000000) (maxDischargeDepth:=6) +contextual -implicitDefEqProofs only [amA M,amB,↓aj,↓ae,↓al,↓ak,Nat.reduceBEq,Nat.reduceAdd,env,ao,gZ,hx,hd,hi,ih,de hi hs,bp hi,yp,CI,hc,hq,DP,KV]
theorem LU(hU:AS E){v:au}{tg:Tag}{l:List au}(hs:l.length≤bE)(H:List ab):M.run fX [.slice tg 2 (l.map au.row),.agg v.row] H=some (.ret (.bool (l.any fun s=>KV v s)),H):=by
 have h1:∀ H,M.run gV [.slice tg 2 (l.map au.row),.agg v.row] H=some (.ret (.int .i64 (CJ (fun s=>KV v s) 0 l)),H):=fun H=>by
  rw [a6 M hU.slices_Index_api_Feat_api_Feat rfl (c:=gY) rfl,gY]
  have hl:=fun k He=>ixq M (H:=H++[.cells v.row a7]) (H0:=H) (tg:=tg) (v:=v) hs (q:=H.length) (T:=a7) (by rw [ej];rfl) (cut_app H _) k l.length 0 He (by omega)
  simp only [kv_cons,kv_nil,Int.ofNat_zero,List.drop_zero,hp_take] at hl
  simp (maxSteps:=3000000) (maxDischargeDepth:=6) +contextual -implicitDefEqProofs only [amA M,amB,↓aj,↓ae,↓al,↓ak,Nat.reduceBEq,Nat.reduceAdd,env,ao,gZ,hl,yp]
  exact pB _ l 0 H
 rw [a6 M hU.slices_Contains_api_Feat_api_Feat rfl (c:=fZ) rfl,fZ]
 simp (maxSteps:=3000000) (maxDischargeDepth:=6) +contextual -implicitDefEqProofs only [amA M,amB,↓aj,↓ae,↓al,↓ak,Nat.reduceBEq,Nat.reduceAdd,env,ao,qd,h1,vy,yp,ej]
theorem KW(hU:AS E)(f:au){b:Sl au}(hb:b.l.length≤bE){H:List ab}{q:Nat}{T:TypeId}(hq:H[q]?=some (.cells [.slice b.tag 2 (b.l.map au.row)] T)) :
  M.run mC [.agg f.row,.ptr q 0] H=some (.ret (.bool (!(b.l.any fun g=>KV f g))),H):=by
 rw [a6 M hU.morph_Subsumes_1 rfl (c:=qR) rfl,qR]
 simp (maxSteps:=3000000) (maxDischargeDepth:=6) +contextual -implicitDefEqProofs only [amA M,amB,↓aj,↓ae,↓al,↓ak,Nat.reduceBEq,Nat.reduceAdd,env,ao,FB,LU M hU hb,yp,dE hq]
def Wy(a b:List au):Bool := !(a.any fun f => !(b.any fun g=>KV f g))
theorem NJ(hE:jH E)(hU:AS E){a b:Sl au}(ha:a.l.length≤bE)(hb:b.l.length≤bE)(H:List ab) :
  M.run jO [.slice a.tag 2 (a.l.map au.row),.slice b.tag 2 (b.l.map au.row)] H=some (.ret (.bool (Wy a.l b.l)),H):=by
 rw [a6 M hU.morph_Subsumes rfl (c:=tA) rfl,tA]
 have hcf:=oM M hE.slices_IndexFunc_api_Feat_api_Feat hE.slices_ContainsFunc_api_Feat_api_Feat (g:=mC) (fr:=[]) (cap:=[.ptr H.length 0]) (p:=fun f => !(b.l.any fun g=>KV f g)) (tg:=a.tag) ha (H:=H++[.cells [.slice b.tag 2 (b.l.map au.row)] dB]) (fun x _=>KW M hU x hb (T:=dB) (by rw [ej];rfl))
 simp (maxSteps:=3000000) (maxDischargeDepth:=6) +contextual -implicitDefEqProofs only [amA M,amB,↓aj,↓ae,↓al,↓ak,Nat.reduceBEq,Nat.reduceAdd,env,ao,HI,hcf,Wy]
end
section
attribute [local congr] aF ca bg aG aZ aL aH aA aC aM aN
variable{E:bt}(M:cK cU E)
structure u4 (E:bt):Prop where
 morph_language_slot:E.fn dX=some eU
 morph_asked:E.fn yD=some tP
 morph_language_feats:E.fn gT=some fG
 morph_Feats:E.fn yC=some yM
 truchmanref02_slot:E.fn kF=some pg
 morph_language_underlying:E.fn jB=some c6
 morph_language_steps:E.fn mD=some cZ
 truchmanref02_steps:E.fn tl=some oF
 strings_Index:E.fn nA=some jj
 strings_Count:E.fn ku=some ji
 strings_Builder_grow:E.fn mG=some eD
 strings_Builder_Grow:E.fn jD=some eB
 strings_Replace:E.fn r4=some ek
 strings_ReplaceAll:E.fn o8=some fq
 internal_stringslite_Index:E.fn gn=some cT
 morph_language_form:E.fn eT=some dv
 morph_Form:E.fn Bi=some vm
 truchmanref02_form:E.fn ub=some pe
 morph_language_slots:E.fn js=some fF
 truchmanref02_Slots:E.fn tk=some ov
def Uc:bB:=⟨0,[],[],⟨.nil,[]⟩⟩
theorem rb:Uc.row=[AV.int .i64 0,.str [],.str [],.slice .nil 2 []]:=rfl
def KX(l:Lex)(e:Int):Option aK:=if e<0 then none else l.entries.l[e.toNat]?
def slC(c:Option a8)(q:Int):Option bB:=
 match c with
 |none=>none
 |some c=>if q<0 then none else c.slots.l[q.toNat]?
def slF(l:Lex)(e q:Int):Option bB:=
 match KX l e with
 |none=>none
 |some x=>slC (AO l x.cls) q
theorem vM(n:Nat):Wk n (.slice .nil 2 []) (.slice .nil 2 []):=wk_slice trivial (kU n)
theorem Pd(hW:WdE M)(hE:jH E)(hF:u4 E){l:Lex}(hl:l.ok 0)(e q:Int)(H:List ab) :
  M.run dX [.agg l.row,.int .i64 e,.int .i64 q] H=some (.ret (.tuple [.agg ((slF l e q).getD Uc).row,.bool (slF l e q).isSome]),H):=by
 rw [a6 M hF.morph_language_slot rfl (c:=oc) rfl,oc]
 cases hr1:decide (e<0) with
 |true=>
  have e1:slF l e q=none:=by simp [slF,KX,of_decide_eq_true hr1]
  rw [e1]
  simp (maxSteps:=3000000) (maxDischargeDepth:=6) +contextual -implicitDefEqProofs only [amA M,amB,↓aj,↓ae,↓al,↓ak,Nat.reduceBEq,Nat.reduceAdd,env,ao,eV,amG,AV.cell,Nat.reduceMul,Nat.reduceLeDiff,hr1,dZ,rb,vM,wk_tuple,wk_agg,Option.getD_none,Option.isSome_none]
 |false=>
  have hr0:¬ e<0:=of_decide_eq_false hr1
  cases hr2:decide ((l.entries.l.length:Int)≤e) with
  |true=>
   have hrl:l.entries.l.length≤e.toNat:=by have:=of_decide_eq_true hr2;omega
   have e1:slF l e q=none:=by simp [slF,KX,hr0,List.getElem?_eq_none hrl]
   rw [e1]
   simp (maxSteps:=3000000) (maxDischargeDepth:=6) +contextual -implicitDefEqProofs only [amA M,amB,↓aj,↓ae,↓al,↓ak,Nat.reduceBEq,Nat.reduceAdd,env,ao,eV,amG,AV.cell,Nat.reduceMul,Nat.reduceLeDiff,hr1,hr2,dZ,rb,vM,wk_tuple,wk_agg,Option.getD_none,Option.isSome_none]
  |false=>
   have hrl:e.toNat<l.entries.l.length:=by have:=of_decide_eq_false hr2;omega
   have hx:l.entries.l[e.toNat]?=some l.entries.l[e.toNat]:=List.getElem?_eq_getElem hrl
   generalize hxx:l.entries.l[e.toNat]=x at hx
   have e0:KX l e=some x:=by simp [KX,hr0,hx]
   cases hc:AO l x.cls with
   |none=>
    have e1:slF l e q=none:=by simp [slF,e0,hc,slC]
    have hcl:=fun H=>tG M hE hl hc H
    have hw:=fun H T L=>Nz hW (g:=fC) (first:=[]) (cap:=[]) (args:=[.agg l.row,.str x.cls]) (v:=.tuple [.agg yt.row,.bool false]) hcl H T L
    have z:(((yt.slots.l.length:Nat):Int))=0:=rfl
    rw [e1]
    cases hq:decide (q<0) with
    |true=>
     simp (maxSteps:=3000000) (maxDischargeDepth:=6) +contextual -implicitDefEqProofs only [amA M,amB,↓aj,↓ae,↓al,↓ak,Nat.reduceBEq,Nat.reduceAdd,env,ao,eV,amG,AV.cell,Nat.reduceMul,Nat.reduceLeDiff,hr1,hr2,hq,hx,jK (Int.not_lt.1 hr0) hrl,zP hW,hcl,hw,dZ,gS,ko,rb,kQ,vM,wk_tuple,wk_agg,Option.getD_none,Option.isSome_none]
    |false=>
     have hq2:decide ((0:Int)≤q)=true:=decide_eq_true (Int.not_lt.1 (of_decide_eq_false hq))
     simp (maxSteps:=3000000) (maxDischargeDepth:=6) +contextual -implicitDefEqProofs only [amA M,amB,↓aj,↓ae,↓al,↓ak,Nat.reduceBEq,Nat.reduceAdd,env,ao,eV,amG,AV.cell,Nat.reduceMul,Nat.reduceLeDiff,hr1,hr2,hq,hq2,z,hx,jK (Int.not_lt.1 hr0) hrl,zP hW,hcl,hw,dZ,gS,ko,rb,kQ,vM,wk_tuple,wk_agg,Option.getD_none,Option.isSome_none]
   |some c=>
    have hcl:=fun H=>pC M hE hl hc (H:=H) (Nat.zero_le _)
    have hw:=fun H T L=>Nz hW (g:=fC) (first:=[]) (cap:=[]) (args:=[.agg l.row,.str x.cls]) (v:=.tuple [.agg c.row,.bool true]) hcl H T L
    cases hq:decide (q<0) with
    |true=>
     have e1:slF l e q=none:=by simp [slF,e0,hc,slC,of_decide_eq_true hq]
     rw [e1]
     simp (maxSteps:=3000000) (maxDischargeDepth:=6) +contextual -implicitDefEqProofs only [amA M,amB,↓aj,↓ae,↓al,↓ak,Nat.reduceBEq,Nat.reduceAdd,env,ao,eV,amG,AV.cell,Nat.reduceMul,Nat.reduceLeDiff,hr1,hr2,hq,hx,jK (Int.not_lt.1 hr0) hrl,zP hW,hcl,hw,dZ,gS,ko,rb,kQ,vM,wk_tuple,wk_agg,Option.getD_none,Option.isSome_none]
    |false=>
     have hq0:¬ q<0:=of_decide_eq_false hq
     cases hq2:decide ((c.slots.l.length:Int)≤q) with
     |true=>
      have hql:c.slots.l.length≤q.toNat:=by have:=of_decide_eq_true hq2;omega
      have e1:slF l e q=none:=by simp [slF,e0,hc,slC,hq0,List.getElem?_eq_none hql]
      rw [e1]
      simp (maxSteps:=3000000) (maxDischargeDepth:=6) +contextual -implicitDefEqProofs only [amA M,amB,↓aj,↓ae,↓al,↓ak,Nat.reduceBEq,Nat.reduceAdd,env,ao,eV,amG,AV.cell,Nat.reduceMul,Nat.reduceLeDiff,hr1,hr2,hq,hq2,hx,jK (Int.not_lt.1 hr0) hrl,zP hW,hcl,hw,dZ,gS,ko,rb,kQ,vM,wk_tuple,wk_agg,Option.getD_none,Option.isSome_none]
     |false=>
      have hql:q.toNat<c.slots.l.length:=by have:=of_decide_eq_false hq2;omega
      have hs:c.slots.l[q.toNat]?=some c.slots.l[q.toNat]:=List.getElem?_eq_getElem hql
      have hcm:c∈l.classes.l:=List.mem_of_find?_eq_some hc
      have hsk:=((hl.classes.all c hcm).slots.all _ (List.getElem_mem hql)).mono (Nat.zero_le H.length)
      generalize c.slots.l[q.toNat]=s at hs hsk
      have e1:slF l e q=some s:=by simp [slF,e0,hc,slC,hq0,hs]
      rw [e1]
      simp (maxSteps:=3000000) (maxDischargeDepth:=6) +contextual -implicitDefEqProofs only [amA M,amB,↓aj,↓ae,↓al,↓ak,Nat.reduceBEq,Nat.reduceAdd,env,ao,eV,amG,AV.cell,Nat.reduceMul,Nat.reduceLeDiff,hr1,hr2,hq,hq2,hx,hs,jK (Int.not_lt.1 hr0) hrl,jK (Int.not_lt.1 hq0) hql,zP hW,hcl,hw,dZ,gS,ko,o4,rb,kQ,hsk.wk,wk_tuple,wk_agg,Option.getD_some,Option.isSome_some]
end
section
attribute [local congr] aF ca bg aG aZ aL aH aA aC aM aN
variable{E:bt}(M:cK cU E)
theorem tH{l:Lex}(h:eE l=0):BN l=0∧DN l=0∧DO l=0∧FW l=0:=
 ⟨jQ h 2 _ rfl,jQ h 3 _ rfl,jQ h 4 _ rfl,jQ h 5 _ rfl⟩
structure DZ (l:Lex) (x:aK) (c:a8):Prop where
 cls:AO l x.cls=some c
 lem:zb x.lem=true
 short:x.feats.l.length≤8∧ze x.feats.l=true
 clash:∀ s∈c.slots.l,kr x.feats.l s.feats.l=false
 forms:w7 (MA c.slots.l.length x.forms.l) 0 x.forms.l=0
theorem il{b:Bool}{x y:Int}(hx:x≠0)(h:sel b x y=0):b=false∧y=0:=by
 cases b with
 |true=>exact absurd h hx
 |false=>exact ⟨rfl,h⟩
theorem QF{l:Lex}(h:eE l=0){k:Nat}{x:aK}(hx:l.entries.l[k]?=some x):∃ c,DZ l x c:=by
 have h3:=(jR (tH h).2.1).2 k x hx
 unfold zd at h3
 cases hc:AO l x.cls with
 |none=>
  rw [hc] at h3
  exact absurd (il (by decide) h3).2 (by decide)
 |some c=>
  rw [hc] at h3
  obtain ⟨a1,h3⟩:=il (by decide) h3
  obtain ⟨_,h3⟩:=il (by decide) h3
  cases hb:sP l x.feats.l == 0 with
  |false=>
   rw [hb] at h3
   rw [show sP l x.feats.l=0 from h3] at hb
   exact absurd hb (by decide)
  |true=>
   rw [hb] at h3
   obtain ⟨a2,h3⟩:=il (b:=c.slots.l.any fun s=>kr x.feats.l s.feats.l) (by decide) h3
   exact ⟨c,hc,by simpa using a1,bundle_ok (eq_of_beq hb),by simpa using a2,h3⟩
theorem Vk{l:Lex}(h:eE l=0){c:a8}(hc:c∈l.classes.l){s:bB}(hs:s∈c.slots.l):IJ l s=0:=by
 obtain ⟨k,hk⟩:=List.getElem?_of_mem hc
 have h2:=(jR (tH h).1).2 k c hk
 unfold FU at h2
 have h3:=(il (by decide) (il (by decide) (il (by decide) (il (by decide) h2).2).2).2).2
 obtain ⟨j,hj⟩:=List.getElem?_of_mem hs
 exact (jR h3).2 j s hj
structure Wz (s:bB):Prop where
 cut:0≤s.cut∧s.cut≤24
 pre:s.pre.length≤6∧s.pre.all qY=true
 add:s.add.length≤6∧s.add.all qY=true
 feats:s.feats.l.length≤8∧ze s.feats.l=true
theorem Xd{l:Lex}{s:bB}(h:IJ l s=0):Wz s:=by
 unfold IJ at h
 obtain ⟨h1,h2⟩:=il (by decide) h
 simp only [Bool.or_eq_false_iff,decide_eq_false_iff_not,Bool.not_eq_false',qZ,Bool.and_eq_true,decide_eq_true_eq] at h1
 refine ⟨⟨by omega,by omega⟩,⟨by omega, ?_⟩,⟨by omega, ?_⟩,bundle_ok h2⟩
 ·simp_all
 ·simp_all
structure At (l:Lex) (e q:Int) (x:aK) (c:a8) (s:bB):Prop where
 e0:0≤e
 q0:0≤q
 el:e.toNat<l.entries.l.length
 ex:l.entries.l[e.toNat]?=some x
 ent:DZ l x c
 cm:c∈l.classes.l
 ql:q.toNat<c.slots.l.length
 sx:c.slots.l[q.toNat]?=some s
 sok:Wz s
theorem WA(n k:Nat):Wk n (.slice .nil k []) (.slice .nil k []):=wk_slice trivial (kU n)
end
section
attribute [local congr] aF ca bg aG aZ aL aH aA aC aM aN
variable{E:bt}(M:cK cU E)
def QG(x:aK)(s:bB):List au:=(DQ x.feats.l s.feats.l).getD []
theorem At.clash{l:Lex}{e q:Int}{x:aK}{c:a8}{s:bB}(h:At l e q x c s):kr x.feats.l s.feats.l=false:=h.ent.clash s (List.mem_of_getElem? h.sx)
theorem At.uni{l:Lex}{e q:Int}{x:aK}{c:a8}{s:bB}(h:At l e q x c s):DQ x.feats.l s.feats.l=some (QG x s):=by
 have:=O0 h.ent.short.2 h.sok.feats.2
 rw [h.clash] at this
 unfold QG
 cases hu:DQ x.feats.l s.feats.l with
 |none=>rw [hu] at this;simp at this
 |some r=>rfl
theorem At.comp{srt:List au→List au}(hs:Srt srt){l:Lex}{e q:Int}{x:aK}{c:a8}{s:bB}(h:At l e q x c s):yu (srt (x.feats.l++s.feats.l))=QG x s:=by
 have h1:=Ua hs x.feats.l s.feats.l
 rw [h.uni,QE,h.ent.short.2,h.sok.feats.2,h.clash] at h1
 exact Option.some.inj h1
theorem At.sl{l:Lex}{e q:Int}{x:aK}{c:a8}{s:bB}(hk:eE l=0)(h:At l e q x c s):slF l e q=some s:=by
 have h0:¬ e<0:=by have:=h.e0;omega
 have h1:¬ q<0:=by have:=h.q0;omega
 simp only [slF,KX,h0,if_false,h.ex,h.ent.cls,slC,h1,h.sx]
theorem QH(hU:AS E){srt:List au→List au}(hS:Fl M srt)(hs:Srt srt)(hF:u4 E){l:Lex}{e q:Int}{x:aK}{c:a8}{s:bB}(hA:At l e q x c s)(H:List ab) :
  M.run gT [.agg l.row,.int .i64 e,.agg s.row] H=some (.ret (.slice .any 2 ((QG x s).map au.row)),H):=by
 rw [a6 M hF.morph_language_feats rfl (c:=mM) rfl,mM]
 have hu:=fun H=>Sw M hU hS (a:=x.feats) (b:=s.feats) (by have:=hA.ent.short.1;have:=hA.sok.feats.1;omega) H
 rw [hA.comp hs] at hu
 simp (maxSteps:=3000000) (maxDischargeDepth:=6) +contextual -implicitDefEqProofs only [amA M,amB,↓aj,↓ae,↓al,↓ak,Nat.reduceBEq,Nat.reduceAdd,env,ao,Bp,hu,hA.ex,jK hA.e0 hA.el,dZ,gS,o4,Ve,implies_true]
theorem At.ent'{l:Lex}{e q:Int}{x:aK}{c:a8}{s:bB}(h:At l e q x c s):KX l e=some x:=by
 have h0:¬ e<0:=by have:=h.e0;omega
 simp only [KX,h0,if_false,h.ex]
end
section
attribute [local congr] aF ca bg aG aZ aL aH aA aC aM aN
variable{E:bt}(M:cK cU E)
def NK(s:bB)(a:Str):Str:=sel (s.pre == []) a ((s.pre++[43])++a)
def Jj(s:bB)(b:Str):Str:=sel (s.add == []) b (b++([43]++s.add))
def Sx(lem:Str)(s:bB):Str:=Jj s (NK s (lem.take (lem.length-s.cut.toNat)))
def LV(lem:Str)(s:bB):Option Str:=sel (decide ((lem.length:Int)<s.cut)) none (some (Sx lem s))
def QI(o:Option Str):AV:=.tuple [.str (o.getD []),.bool o.isSome]
theorem Ei{s:Str}(h:zb s=true):s.length≤24:=by
 simp only [zb,IG,Bool.and_eq_true,decide_eq_true_eq] at h
 omega
theorem Pe(s:bB)(a:Str)(h:s.pre.length≤6):(NK s a).length≤a.length+7:=by
 unfold NK;cases s.pre == []<;>simp [sel]<;>omega
theorem Ud(s:bB)(a:Str)(h:s.add.length≤6):(Jj s a).length≤a.length+7:=by
 unfold Jj;cases s.add == []<;>simp [sel];omega
theorem Pf{lem:Str}{s:bB}(h:lem.length≤24)(hs:Wz s):(Sx lem s).length≤38:=by
 have h1:=Ud s (NK s (lem.take (lem.length-s.cut.toNat))) hs.add.1
 have h2:=Pe s (lem.take (lem.length-s.cut.toNat)) hs.pre.1
 unfold Sx
 simp at h2
 omega
theorem run_underlying(hF:u4 E){l:Lex}{e q:Int}{x:aK}{c:a8}{s:bB}(hA:At l e q x c s)(H:List ab) :
  M.run jB [.agg l.row,.int .i64 e,.agg s.row] H=some (.ret (QI (LV x.lem s)),H):=by
 rw [a6 M hF.morph_language_underlying rfl (c:=jG) rfl,jG]
 have hl:=Ei hA.ent.lem
 have hp:=hA.sok.pre.1
 have ha:=hA.sok.add.1
 cases hd:decide ((x.lem.length:Int)<s.cut) with
 |true=>
  have e1:QI (LV x.lem s) = .tuple [.str [],.bool false]:=by simp [QI,LV,hd,sel]
  rw [e1]
  simp (maxSteps:=3000000) (maxDischargeDepth:=6) +contextual -implicitDefEqProofs only [amA M,amB,↓aj,↓ae,↓al,↓ak,Nat.reduceBEq,Nat.reduceAdd,env,ao,ff,amG,AV.cell,Nat.reduceMul,Nat.reduceLeDiff,hd,hA.ex,jK hA.e0 hA.el,dZ,gS,o4,wk_tuple]
 |false=>
  obtain ⟨m,hm⟩:=Int.eq_ofNat_of_zero_le hA.sok.cut.1
  have hml:m≤x.lem.length:=by have:=of_decide_eq_false hd;omega
  have hw:IntKind.i64.wrap ((x.lem.length:Int)-(m:Int))=((x.lem.length-m:Nat):Int):=by rw [ep (by omega) (by omega)];omega
  have hsl:=TW (s:=x.lem) (k:=.i64) (i:=x.lem.length-m) (by omega)
  have e1:QI (LV x.lem s) = .tuple [.str (Sx x.lem s),.bool true]:=by simp [QI,LV,hd,sel]
  have e2:Sx x.lem s=Jj s (NK s (x.lem.take (x.lem.length-m))):=by rw [Sx,hm];rfl
  have hal:(x.lem.take (x.lem.length-m)).length≤24:=by simp;omega
  rw [e1,e2]
  generalize x.lem.take (x.lem.length-m)=a at hsl hal
  rw [hm] at hd
  have hdn:decide (x.lem.length<m)=false:=decide_eq_false (by omega)
  have hbl:=Pe s a hp
  cases hp0:s.pre == [] with
  |true=>
   have e3:NK s a=a:=by simp [NK,hp0,sel]
   rw [e3] at hbl ⊢
   cases ha0:s.add == [] with
   |true=>
    have e4:Jj s a=a:=by simp [Jj,ha0,sel]
    rw [e4]
    simp (maxSteps:=3000000) (maxDischargeDepth:=6) +contextual -implicitDefEqProofs only [amA M,amB,↓aj,↓ae,↓al,↓ak,Nat.reduceBEq,Nat.reduceAdd,env,ao,ff,amG,AV.cell,Nat.reduceMul,Nat.reduceLeDiff,hd,hdn,hm,hw,hsl,hp0,ha0,hA.ex,jK hA.e0 hA.el,dZ,gS,o4,wk_tuple]
   |false=>
    have e4:Jj s a=a++([43]++s.add):=by simp [Jj,ha0,sel]
    rw [e4]
    simp (maxSteps:=3000000) (maxDischargeDepth:=6) +contextual -implicitDefEqProofs only [amA M,amB,↓aj,↓ae,↓al,↓ak,Nat.reduceBEq,Nat.reduceAdd,env,ao,ff,amG,AV.cell,Nat.reduceMul,Nat.reduceLeDiff,hd,hdn,hm,hw,hsl,hp0,ha0,vA (s:=[43]) (t:=s.add) (by simp;omega),vA (s:=a) (t:=43::s.add) (by simp;omega),hA.ex,jK hA.e0 hA.el,dZ,gS,o4,wk_tuple]
  |false=>
   have e3:NK s a=(s.pre++[43])++a:=by simp [NK,hp0,sel]
   rw [e3] at hbl ⊢
   cases ha0:s.add == [] with
   |true=>
    have e4:Jj s ((s.pre++[43])++a)=(s.pre++[43])++a:=by simp [Jj,ha0,sel]
    rw [e4]
    simp (maxSteps:=3000000) (maxDischargeDepth:=6) +contextual -implicitDefEqProofs only [amA M,amB,↓aj,↓ae,↓al,↓ak,Nat.reduceBEq,Nat.reduceAdd,env,ao,ff,amG,AV.cell,Nat.reduceMul,Nat.reduceLeDiff,hd,hdn,hm,hw,hsl,hp0,ha0,vA (s:=s.pre) (t:=[43]) (by simp;omega),vA (s:=s.pre++[43]) (t:=a) (by simp;omega),hA.ex,jK hA.e0 hA.el,dZ,gS,o4,wk_tuple]
   |false=>
    have e4:Jj s ((s.pre++[43])++a)=((s.pre++[43])++a)++([43]++s.add):=by simp [Jj,ha0,sel]
    rw [e4]
    simp (maxSteps:=3000000) (maxDischargeDepth:=6) +contextual -implicitDefEqProofs only [amA M,amB,↓aj,↓ae,↓al,↓ak,Nat.reduceBEq,Nat.reduceAdd,env,ao,ff,amG,AV.cell,Nat.reduceMul,Nat.reduceLeDiff,hd,hdn,hm,hw,hsl,hp0,ha0,vA (s:=s.pre) (t:=[43]) (by simp;omega),vA (s:=s.pre++[43]) (t:=a) (by simp;omega),vA (s:=[43]) (t:=s.add) (by simp;omega),vA (s:=s.pre++[43]++a) (t:=43::s.add) (by simp at hbl ⊢;omega),hA.ex,jK hA.e0 hA.el,dZ,gS,o4,wk_tuple]
def Ha(v:Str):List Str→Str→List bz→Option (List Str)
 |o,_,[]=>some o
 |o,u,x::l=>sel (decide (((AR v x u).length:Int)≤512)) (Ha v (o++[AR v x u]) (AR v x u) l) none
def noS:AV:=.tuple [.slice .any 1 [],.bool false]
def Pg(o:Option (List Str)):AV:=.tuple [.slice .any 1 ((o.getD []).map kV),.bool o.isSome]
theorem yw{H0:List ab}(n m:Nat)(T:TypeId)(L:List ab):dL (H0++[.tok n T]) (H0++(.tok m T::L)):=⟨by simp,fun i x hi hx=>by
 rw [List.length_append] at hi
 by_cases h:i<H0.length
 ·rw [List.getElem?_append_left h] at hx ⊢;exact .inl hx
 ·obtain rfl:i=H0.length:=by simp at hi;omega
  rw [ej] at hx
  obtain rfl:=Option.some.inj hx
  exact .inr trivial⟩
theorem uw(H0:List ab)(o:ab)(L:List ab):(H0++(o::L)).take (H0.length+1)=H0++[o]:=by
 rw [show H0++(o::L)=(H0++[o])++L by simp,show H0.length+1=(H0++[o]).length by simp,List.take_left]
theorem Ro(n:Nat)(l:List Str):mA n (l.map kV):=by
 rw [rowsWk_map];exact fun _ _=>⟨wk_str _ _,trivial⟩
theorem WB(n:Nat)(s:Str):WkL n (kV s) (kV s):=⟨wk_str _ _,trivial⟩
def Ue(M:cK cU E)(fn:AFn)(d:Nat)(H0:List ab)(k:List Fra)(r:Option (List Str))(H:List ab):Option Out:=
 match r with
 |none=>some (.ret noS,H.take H0.length)
 |some r=>M.go fn H0 k (kv [(d,.slice (.own H.length) 1 (r.map kV))]) (H++[.tok (r.length*1) bu])
theorem Jv{α:Type}{row:α→List AV}{l:List α}{x:α}{r:List AV}{sz bytes:Nat}{e:TypeId}(H L:List ab)(h1:r.length=sz)(h2:r.all AV.cell=true)(h3:r.map AV.strip=row x)
  (hl:(l.length+1)*bytes≤140737488355328) (hl2:l.length+1≤4611686018427387904) :
  rap false (H++(.tok (l.length*sz) e::L)) e sz bytes false (.slice (.own H.length) sz (l.map row)) (.slice .full sz [r])=some (.slice (.own H.length) sz ((l++[x]).map row),H++(.tok ((l++[x]).length*sz) e::L)):=by
 have hr:(r.length=sz∧∀ x∈r,x.cell=true):=⟨h1,by simpa using h2⟩
 simp only [rap,C8,Cg,List.length_map,List.length_cons,List.length_nil,Nat.zero_add,or_true,if_true,hl,hl2,Kg h1 h2,and_true,true_and,ej,List.getElem?_cons_zero,hp_set0,List.set_cons_zero,List.map_cons,List.map_nil,h3,List.map_append,List.length_append,Nat.add_mul,Nat.one_mul]
 rw [Nat.add_mul,Nat.one_mul] at hl
 rw [if_pos hl]
theorem stl(hN:dW E)(hS:SpE E)(hX:qy M)(hB:ra E){l:Lex}(hl:l.ok 0)(hV:T3 l){H H0:List ab}(hc:dL H0 H){p:Nat}{T:TypeId}(hp:H[p]?=some (.cells l.row T))(k:List Fra) :
  ∀ (n i:Nat) (o:List Str) (u:Str) (He:List ab),He=H++[.tok (o.length*1) bu]→i+n=l.spells.l.length→u.length≤1000→o.length+n≤1000 →
  M.go cZ H0 (.c eP :: .lp ⟨(some [3,8,10,26,27,28]),[(10,1,bu)],true⟩ eP He :: .blk 0 :: .c (.lv [10])::k) (kv [(3,.ptr p 0),(8,.str u),(10,.slice (.own H.length) 1 (o.map kV)),(26,.slice l.spells.tag 4 (l.spells.l.map bz.row)),(27,.int .i64 l.spells.l.length),(28,.int .i64 i)]) (H++[.tok (o.length*1) bu]) =
   Ue M cZ 10 H0 k (Ha l.vowels o u (l.spells.l.drop i)) H
 |0,i,o,u,He,hHe,h,hu,ho=>by
  have e:i=l.spells.l.length:=by omega
  subst e
  rw [List.drop_length,Ha,Ue]
  rw [aw M eP.eq_1]
  simp (maxSteps:=3000000) (maxDischargeDepth:=6) +contextual -implicitDefEqProofs only [amA M,amB,↓aj,↓ae,↓al,↓ak,Nat.reduceBEq,Nat.reduceAdd,env,ao,fI,Nat.lt_irrefl]
 |n+1,i,o,u,He,hHe,h,hu,ho=>by
  subst hHe
  have hi:i<l.spells.l.length:=by omega
  have hx:l.spells.l[i]?=some l.spells.l[i]:=List.getElem?_eq_getElem hi
  have hd:(l.spells.l.drop i)=l.spells.l[i]::l.spells.l.drop (i+1):=List.drop_eq_getElem_cons hi
  have hm:l.spells.l[i]∈l.spells.l:=List.getElem_mem hi
  obtain ⟨p1,p2,p3,p4,p5⟩:=T5 (hV.spells _ hm)
  have hx0:=hl.spells.all _ hm
  have hsp:=fun H=>St M hN hS hX hB (l:=l) hx0 p1 p2 p3 p4 (s:=u) (by omega) H
  have hp':=fun L=>dE (L:=L) hp
  have hpl:=(List.getElem?_eq_some_iff.1 hp).1
  have w1:Wk (H.length+1) (.ptr p 0) (.ptr p 0):=wk_ptr (by omega)
  have w2:Wk (H.length+1) (.slice l.spells.tag 4 (l.spells.l.map bz.row)) (.slice l.spells.tag 4 (l.spells.l.map bz.row)):=(hl.spells.mono (Nat.zero_le _) (fun _ h=>h.mono (Nat.zero_le _))).wk (fun _ h=>h.wk)
  have w3:=fun l:List Str=>wk_slice (n:=H.length+1) (esz:=1) (tag:=.own H.length) (by simp [qa]) (Ro _ l)
  have hcm:=fun L=>OF hc L
  have htm:=fun L=>Mp hc L
  rw [hd,Ha]
  generalize l.spells.l[i]=x at hx hsp
  generalize AR l.vowels x u=u' at hsp
  cases hdl:decide ((u'.length:Int)≤512) with
  |false=>
   simp only [sel,Ue]
   simp only [hdl] at hsp
   rw [aw M eP.eq_1]
   simp (maxSteps:=3000000) (maxDischargeDepth:=6) +contextual -implicitDefEqProofs only [amA M,amB,↓aj,↓ae,↓al,↓ak,Nat.reduceBEq,Nat.reduceAdd,env,ao,fI,amG,AV.cell,Nat.reduceMul,Nat.reduceLeDiff,hx,hi,hsp,hp',bp hi,dZ,yA,hcm,htm,noS,kU,wk_tuple]
  |true=>
   simp only [hdl] at hsp
   have hul:u'.length≤1000:=by have:=of_decide_eq_true hdl;omega
   have ap:=fun L=>Jv (row:=kV) (l:=o) (x:=u') (r:=[.str u']) (sz:=1) (bytes:=16) (e:=bu) H L rfl rfl rfl (by omega) (by omega)
   have ih:=stl hN hS hX hB hl hV hc hp k n (i+1) (o++[u']) u' _ rfl (by omega) hul (by simp;omega)
   simp only [kv_cons,kv_nil] at ih
   simp only [sel]
   rw [aw M eP.eq_1]
   simp (maxSteps:=3000000) (maxDischargeDepth:=6) +contextual -implicitDefEqProofs only [amA M,amB,↓aj,↓ae,↓al,↓ak,Nat.reduceBEq,Nat.reduceAdd,env,ao,fI,amG,AV.cell,Nat.reduceMul,Nat.reduceLeDiff,hx,hi,hsp,hp',ap,ih,w1,w2,w3,yw,uw,de hi hl.spells.len,bp hi,dZ,yA]
def zg(l:Lex)(x:aK)(s:bB):Option (List Str):=
 match LV x.lem s with
 |none=>none
 |some u=>Ha l.vowels [u] u l.spells.l
theorem Sy(hN:dW E)(hS:SpE E)(hX:qy M)(hB:ra E)(hF:u4 E){l:Lex}(hl:l.ok 0)(hV:T3 l){e q:Int}{x:aK}{c:a8}{s:bB}(hA:At l e q x c s)(hsl:l.spells.l.length≤900)(H:List ab) :
  M.run mD [.agg l.row,.int .i64 e,.agg s.row] H=some (.ret (Pg (zg l x s)),H):=by
 rw [a6 M hF.morph_language_steps rfl (c:=na) rfl,na]
 have hu:=fun H=>run_underlying M hF hA H
 cases ho:LV x.lem s with
 |none=>
  have e1:Pg (zg l x s)=noS:=by simp [Pg,zg,ho,noS]
  rw [e1]
  simp only [ho,QI,Option.getD_none,Option.isSome_none] at hu
  simp (maxSteps:=3000000) (maxDischargeDepth:=6) +contextual -implicitDefEqProofs only [amA M,amB,↓aj,↓ae,↓al,↓ak,Nat.reduceBEq,Nat.reduceAdd,env,ao,fI,amG,AV.cell,Nat.reduceMul,Nat.reduceLeDiff,hu,dZ,o4,noS,kU,wk_tuple]
 |some u=>
  have e1:zg l x s=Ha l.vowels [u] u l.spells.l:=by simp [zg,ho]
  have hul:u.length≤1000:=by
   have:=Pf (Ei hA.ent.lem) hA.sok
   unfold LV at ho
   revert ho
   cases decide ((x.lem.length:Int)<s.cut) with
   |true=>simp [sel]
   |false=>intro ho;rw [← Option.some.inj ho];omega
  rw [e1]
  simp only [ho,QI,Option.getD_some,Option.isSome_some] at hu
  have h1:=fun k=>stl M hN hS hX hB hl hV (H:=H++[.cells l.row aE,.cells s.row bH]) (H0:=H) (cut_app H _) (p:=H.length) (T:=aE) (by rw [ej];rfl) k l.spells.l.length 0 [u] u _ rfl (by omega) hul (by simp;omega)
  simp only [kv_cons,kv_nil,Int.ofNat_zero,List.drop_zero,List.length_append,List.length_cons,List.length_nil,Nat.zero_add,Nat.reduceAdd,List.append_assoc,List.cons_append,List.nil_append,List.map_cons,List.map_nil,kV] at h1
  simp (maxSteps:=3000000) (maxDischargeDepth:=6) +contextual -implicitDefEqProofs only [amA M,amB,↓aj,↓ae,↓al,↓ak,Nat.reduceBEq,Nat.reduceAdd,env,ao,fI,amG,AV.cell,Nat.reduceMul,Nat.reduceLeDiff,hu,h1,dZ,o4,wk_tuple,kV]
  generalize Ha l.vowels [u] u l.spells.l=r
  cases r with
  |none=>simp only [Ue,hp_take];rfl
  |some r=>
   simp only [Ue,kv_cons,kv_nil]
   simp (maxSteps:=3000000) (maxDischargeDepth:=6) +contextual -implicitDefEqProofs only [amA M,amB,↓aj,↓ae,↓al,↓ak,Nat.reduceBEq,Nat.reduceAdd,env,ao,fI,Ro,WB,cut_app,implies_true,wk_tuple]
   rfl
theorem Fm{l:Lex}(h:eE l=0):l.spells.l.length≤16:=by
 have:=(jR (tH h).2.2.1).1
 omega
end
section
attribute [local congr] aF ca bg aG aZ aL aH aA aC aM aN
variable{E:bt}(M:cK cU E)
end
section
attribute [local congr] aF ca bg aG aZ aL aH aA aC aM aN
variable{E:bt}(M:cK cU E)
structure Ib (M:cK cU E):Prop where
 count:∀ (s:Str) (c:UInt8) (H:List ab),M.run ea [.str s,.int .u8 c.toNat] H=some (.ret (.int .i64 (Lib.countByte s c:Nat)),H)
 noZero:∀ (n:Nat) (H:List ab),n≤281474976710656→M.run dz [.int .i64 n] H=some (.ret (.rslice H.length 0 n 1 true),H++[.cells (List.replicate n .unk) dG])
theorem Ph{H L L':List ab}(h:L.length≤L'.length)(hw:∀ x∈L',Q3 (H++L).length x):dL (H++L) (H++L'):=⟨by simp;omega,fun i x hi hx=>by
 by_cases h1:i<H.length
 ·left;rw [List.getElem?_append_left h1] at hx ⊢;exact hx
 ·right;rw [List.getElem?_append_right (by omega)] at hx;exact hw x (List.mem_of_getElem? hx)⟩
abbrev qz(a x:AV):ab:=.cells [a,x] bq
theorem Rp(hB:ra E)(hX:qy M)(H:List ab) :
  M.run cj [.ptr H.length 0] (H++[qz .nilp (.slice .nil 1 [])])=some (.ret (.tuple []),H++[qz (.ptr H.length 0) (.slice .nil 1 [])]):=by
 rw [a6 M hB.strings_Builder_copyCheck rfl (c:=bT) rfl,bT]
 have h1:=hX.same H.length 0
 have hc:dL (H++[qz .nilp (.slice .nil 1 [])]) (H++[qz (.ptr H.length 0) (.slice .nil 1 [])]):=Ph (by simp) (by
  intro x hx
  obtain rfl:x=_:=by simpa using hx
  intro c hc
  simp only [List.mem_cons,List.not_mem_nil,or_false] at hc
  rcases hc with rfl | rfl
  ·exact wk_ptr (by simp)
  ·exact WA _ _)
 have ht:(H++[qz (.ptr H.length 0) (.slice .nil 1 [])]).take (H.length+1)=H++[qz (.ptr H.length 0) (.slice .nil 1 [])]:=List.take_of_length_le (by simp)
 have e1:PS (H++[qz .nilp (.slice .nil 1 [])]) (.ptr H.length 0)=some (.ptr H.length 0):=by simp [PS,ej]
 have e2:PT (H++[qz .nilp (.slice .nil 1 [])]) bq 2 (.ptr H.length 0)=some (.ptr H.length 0):=by simp [PT,ej]
 simp (maxSteps:=3000000) (maxDischargeDepth:=6) +contextual -implicitDefEqProofs only [amA M,amB,↓aj,↓ae,↓al,↓ak,Nat.reduceBEq,Nat.reduceAdd,env,ao,gP,amG,AV.cell,Nat.reduceMul,Nat.reduceLeDiff,h1,qU,O5,rnc,e1,e2,hc,ht,wk_tuple]
theorem Vl(hB:ra E)(H L:List ab)(x:AV) :
  M.run cj [.ptr H.length 0] (H++(qz (.ptr H.length 0) x::L))=some (.ret (.tuple []),H++(qz (.ptr H.length 0) x::L)):=by
 rw [a6 M hB.strings_Builder_copyCheck rfl (c:=bT) rfl,bT]
 have ht:(H++(qz (.ptr H.length 0) x::L)).take (H.length+(L.length+1))=H++(qz (.ptr H.length 0) x::L):=List.take_of_length_le (by simp)
 simp (maxSteps:=3000000) (maxDischargeDepth:=6) +contextual -implicitDefEqProofs only [amA M,amB,↓aj,↓ae,↓al,↓ak,Nat.reduceBEq,Nat.reduceAdd,env,ao,gP,KM,O6,rnc,ht,wk_tuple]
theorem QJ{g:FuncId}{first cap args:List AV}{H H':List ab}{v:AV}(h:H'.take H.length=H)(T L:List Nat):Ck cU E .keep (.fn (.func g) first cap) args H T L (some (.ret v,H'))=some (v,H',T,L):=by
 unfold Ck vg
 simp only [HC h,Cj.b,if_true]
theorem Uf(hF:u4 E)(hX:Ib M)(H:List ab){n:Nat}(hn:n≤281474976710656) :
  M.run mG [.ptr H.length 0,.int .i64 n] (H++[qz (.ptr H.length 0) (.slice .nil 1 [])])=some (.ret (.tuple []),H++[qz (.ptr H.length 0) (.rslice (H.length+1) 0 0 1 true),.cells (List.replicate n .unk) dG]):=by
 rw [a6 M hF.strings_Builder_grow rfl (c:=nk) rfl,nk]
 have w1:IntKind.i64.wrap (2*0)=0:=by decide
 have w2:IntKind.i64.wrap (0+(n:Int))=(n:Int):=by rw [ep (by omega) (by omega)];omega
 have h1:=fun H=>hX.noZero n H hn
 have e0:((0:Nat):Int)=0:=rfl
 have e1:Ob (.slice .nil 1 [])=some (.int .i64 0):=rfl
 have e2:Cf 1 (.rslice (H.length+1) 0 n 1 true) none (some (.int .i64 0)) none=some (.rslice (H.length+1) 0 0 1 true):=by simp [Cf,fm]
 have e3:rcp (H++[qz (.ptr H.length 0) (.slice .nil 1 []),.cells (List.replicate n .unk) dG]) 1 false (.rslice (H.length+1) 0 0 1 true) (.slice .nil 1 [])=some (.int .i64 0,H++[qz (.ptr H.length 0) (.slice .nil 1 []),.cells (List.replicate n .unk) dG]):=by
  simp only [rcp,Cg,true_or,if_true,hp_getk,List.getElem?_cons_succ,List.getElem?_cons_zero,List.length_nil,Nat.le_refl,Nat.zero_le,Nat.zero_mul,Nat.add_zero,true_and,and_true,List.flatten_nil,aO]
  rw [if_pos (by rfl)]
  rw [List.set_append_right _ _ (by omega)]
  simp
 have hdk:=fun T L=>QJ (E:=E) (g:=dz) (first:=[]) (cap:=[]) (args:=[.int .i64 n]) (H:=H++[qz (.ptr H.length 0) (.slice .nil 1 [])]) (H':=H++[qz (.ptr H.length 0) (.slice .nil 1 []),.cells (List.replicate n .unk) dG]) (v:=.rslice (H.length+1) 0 n 1 true) (by
  rw [show H++[qz (.ptr H.length 0) (.slice .nil 1 []),ab.cells (List.replicate n .unk) dG]=(H++[qz (.ptr H.length 0) (.slice .nil 1 [])])++[.cells (List.replicate n .unk) dG] by simp,List.take_left]) T L
 simp (maxSteps:=3000000) (maxDischargeDepth:=6) +contextual -implicitDefEqProofs only [amA M,amB,↓aj,↓ae,↓al,↓ak,Nat.reduceBEq,Nat.reduceAdd,env,ao,BB,amG,AV.cell,Nat.reduceMul,Nat.reduceLeDiff,rnc,w1,w2,h1,e0,e1,e2,e3,hdk]
theorem Sz(hB:ra E)(hE:qy M)(hF:u4 E)(hX:Ib M)(H:List ab){n:Nat}(h0:0<n)(hn:n≤281474976710656) :
  M.run jD [.ptr H.length 0,.int .i64 n] (H++[qz .nilp (.slice .nil 1 [])])=some (.ret (.tuple []),H++[qz (.ptr H.length 0) (.rslice (H.length+1) 0 0 1 true),.cells (List.replicate n .unk) dG]):=by
 rw [a6 M hF.strings_Builder_Grow rfl (c:=ib) rfl,ib]
 have w1:IntKind.i64.wrap (0-0)=0:=by decide
 have e0:((0:Nat):Int)=0:=rfl
 have e1:Ob (.slice .nil 1 [])=some (.int .i64 0):=rfl
 have d1:decide ((n:Int)<0)=false:=decide_eq_false (by omega)
 have d2:decide ((0:Int)<(n:Int))=true:=decide_eq_true (by omega)
 have d3:decide (0<n)=true:=decide_eq_true h0
 simp (maxSteps:=3000000) (maxDischargeDepth:=6) +contextual -implicitDefEqProofs only [amA M,amB,↓aj,↓ae,↓al,↓ak,Nat.reduceBEq,Nat.reduceAdd,env,ao,sg,amG,AV.cell,Nat.reduceMul,Nat.reduceLeDiff,rnc,Rp M hB hE,Uf M hF hX H hn,w1,e0,e1,d1,d2,d3]
theorem QK(hB:ra E)(hE:qy M)(hF:u4 E)(H:List ab) :
  M.run jD [.ptr H.length 0,.int .i64 0] (H++[qz .nilp (.slice .nil 1 [])])=some (.ret (.tuple []),H++[qz (.ptr H.length 0) (.slice .nil 1 [])]):=by
 rw [a6 M hF.strings_Builder_Grow rfl (c:=ib) rfl,ib]
 have w1:IntKind.i64.wrap (0-0)=0:=by decide
 have e0:((0:Nat):Int)=0:=rfl
 have e1:Ob (.slice .nil 1 [])=some (.int .i64 0):=rfl
 have d1:decide ((0:Int)<0)=false:=rfl
 simp (maxSteps:=3000000) (maxDischargeDepth:=6) +contextual -implicitDefEqProofs only [amA M,amB,↓aj,↓ae,↓al,↓ak,Nat.reduceBEq,Nat.reduceAdd,env,ao,sg,amG,AV.cell,Nat.reduceMul,Nat.reduceLeDiff,rnc,Rp M hB hE,w1,e0,e1,d1]
end
section
attribute [local congr] aF ca bg aG aZ aL aH aA aC aM aN
variable{E:bt}(M:cK cU E)
def CM(s:Str):Str:=s.filter fun c => !(c == 43)
inductive BL where
 |nil
 |room (n:Nat)
 |own (w:Str)
def BL.str:BL→Str
 |.own w=>w
 |_=>[]
def BL.wr:BL→Str→BL
 |.nil,_=>.nil
 |.room _,s=>.own s
 |.own w,s=>.own (w++s)
def BL.heap(H:List ab):BL→List ab
 |.nil=>H++[qz (.ptr H.length 0) (.slice .nil 1 [])]
 |.room n=>H++[qz (.ptr H.length 0) (.rslice (H.length+1) 0 0 1 true),.cells (List.replicate n .unk) dG]
 |.own w=>H++[qz (.ptr H.length 0) (.slice (.own (H.length+1)) 1 (gl w)),bTok w]
theorem Pj(H:List ab):BL.heap H .nil=H++[qz (.ptr H.length 0) (.slice .nil 1 [])]:=rfl
theorem MI(H:List ab)(n:Nat):BL.heap H (.room n)=H++[qz (.ptr H.length 0) (.rslice (H.length+1) 0 0 1 true),.cells (List.replicate n .unk) dG]:=rfl
theorem BL.wr_str(b:BL)(s:Str)(h:b = .nil→s=[]):(b.wr s).str=b.str++s:=by
 cases b with
 |nil=>rw [h rfl];rfl
 |room n=>rfl
 |own w=>rfl
theorem BL.wr_nil{b:BL}{s:Str}(h:b.wr s = .nil):b = .nil:=by cases b<;>simp [BL.wr] at h ⊢
theorem ap2(H:List ab)(x:ab){w s:Str}(h:w.length+s.length≤140737488355328) :
  rap false (H++[x,bTok w]) dG 1 1 true (.slice (.own (H.length+1)) 1 (gl w)) (.str s)=some (.slice (.own (H.length+1)) 1 (gl (w++s)),H++[x,bTok (w++s)]):=by
 have:=Qw (H++[x]) [] h
 rw [List.append_assoc,List.append_assoc,List.length_append] at this
 exact this
theorem apR(H:List ab)(x:ab)(n:Nat){s:Str}(h:s.length≤140737488355328) :
  rap false (H++[x,.cells (List.replicate n .unk) dG]) dG 1 1 true (.rslice (H.length+1) 0 0 1 true) (.str s)=some (.slice (.own (H.length+1)) 1 (gl s),H++[x,bTok s]):=by
 have h2:=ap2 H x (w:=[]) (s:=s) (by simpa using h)
 have e:(H++[x,ab.cells (List.replicate n .unk) dG]).set (H.length+1) (.tok 0 dG)=H++[x,bTok []]:=by
  rw [List.set_append_right _ _ (by omega)];simp
 rw [List.nil_append] at h2
 rw [← h2]
 show (match (H++[x,ab.cells (List.replicate n .unk) dG])[H.length+1]? with
  |some (.cells _ T)=>C8 ((H++[x,ab.cells (List.replicate n .unk) dG]).set (H.length+1) (.tok 0 T)) dG 1 1 true (.slice (.own (H.length+1)) 1 []) (.str s)
  |_=>none)=_
 rw [hp_getk]
 simp only [List.getElem?_cons_succ,List.getElem?_cons_zero]
 rw [e]
 rfl
theorem apN(H:List ab):rap false H dG 1 1 true (.slice .nil 1 []) (.str [])=some (.slice .nil 1 [],H):=by
 simp [rap,C8,Cg,nV]
theorem Ug(H:List ab)(x y:ab)(w:Str):dL (H++[x,y]) (H++[qz (.ptr H.length 0) (.slice (.own (H.length+1)) 1 (gl w)),bTok w]):=Ph (by simp) (by
 intro z hz
 simp only [List.mem_cons,List.not_mem_nil,or_false] at hz
 rcases hz with rfl | rfl
 ·intro c hc
  simp only [List.mem_cons,List.not_mem_nil,or_false] at hc
  rcases hc with rfl | rfl
  ·exact wk_ptr (by simp)
  ·exact wk_slice (show H.length+1<_ by simp) (O4 _ _)
 ·trivial)
theorem NL(H:List ab)(x y:ab):(H++[x,y]).take (H.length+2)=H++[x,y]:=List.take_of_length_le (by simp)
theorem Rq(H:List ab)(x:ab):(H++[x]).take (H.length+1)=H++[x]:=List.take_of_length_le (by simp)
theorem QL(hB:ra E)(H:List ab)(b:BL){s:Str}(h:b.str.length+s.length≤140737488355328)(hn:b = .nil→s=[]) :
  M.run aR [.ptr H.length 0,.str s] (b.heap H)=some (.ret (.tuple [.int .i64 s.length,.nilif]),(b.wr s).heap H):=by
 rw [a6 M hB.strings_Builder_WriteString rfl (c:=cI) rfl,cI]
 have hc1:=fun L x=>Vl M hB H L x
 cases b with
 |nil=>
  rw [hn rfl]
  simp only [BL.heap,BL.wr]
  have a1:=fun H=>apN H
  simp (maxSteps:=3000000) (maxDischargeDepth:=6) +contextual -implicitDefEqProofs only [amA M,amB,↓aj,↓ae,↓al,↓ak,Nat.reduceBEq,Nat.reduceAdd,env,ao,er,amG,AV.cell,Nat.reduceMul,Nat.reduceLeDiff,hc1,rnc,a1,Rq,cut_refl,wk_tuple]
 |room n=>
  simp only [BL.heap,BL.wr]
  have a1:=fun x=>apR H x n (s:=s) (by simp [BL.str] at h;omega)
  have hcut:=fun x y=>Ug H x y s
  simp (maxSteps:=3000000) (maxDischargeDepth:=6) +contextual -implicitDefEqProofs only [amA M,amB,↓aj,↓ae,↓al,↓ak,Nat.reduceBEq,Nat.reduceAdd,env,ao,er,amG,AV.cell,Nat.reduceMul,Nat.reduceLeDiff,hc1,rnc,a1,hcut,NL,wk_tuple]
 |own w=>
  simp only [BL.heap,BL.wr]
  have a1:=fun x=>ap2 H x (w:=w) (s:=s) h
  have hcut:=fun x y=>Ug H x y (w++s)
  simp (maxSteps:=3000000) (maxDischargeDepth:=6) +contextual -implicitDefEqProofs only [amA M,amB,↓aj,↓ae,↓al,↓ak,Nat.reduceBEq,Nat.reduceAdd,env,ao,er,amG,AV.cell,Nat.reduceMul,Nat.reduceLeDiff,hc1,rnc,a1,hcut,NL,wk_tuple]
theorem Uh(hB:ra E)(H:List ab)(b:BL)(h:b.str.length≤9223372036854775807)(hr:∀ n,b≠.room n) :
  M.run db [.ptr H.length 0] (b.heap H)=some (.ret (.str b.str),b.heap H):=by
 rw [a6 M hB.strings_Builder_String rfl (c:=gk) rfl,gk]
 cases b with
 |room n=>exact absurd rfl (hr n)
 |nil=>
  simp only [BL.heap,BL.str]
  have e1:RF (.slice .nil 1 [])=some (.sdp 0 []):=rfl
  have e2:∀ H,Nh H dG (.sdp 0 []) (.int .i64 0)=some (.str []):=fun H=>rfl
  have e0:((0:Nat):Int)=0:=rfl
  simp (maxSteps:=3000000) (maxDischargeDepth:=6) +contextual -implicitDefEqProofs only [amA M,amB,↓aj,↓ae,↓al,↓ak,Nat.reduceBEq,Nat.reduceAdd,env,ao,lj,amG,AV.cell,Nat.reduceMul,Nat.reduceLeDiff,qU,rnc,e0,e1,e2,Rq]
 |own w=>
  simp only [BL.heap,BL.str] at h ⊢
  have e2:∀ x,Nh (H++[x,bTok w]) dG (.sdp (H.length+1) (gl w)) (.int .i64 (w.length:Int))=some (.str w):=fun x=>by
   have:=VW (H++[x]) [] w h
   rw [List.append_assoc,List.length_append] at this
   exact this
  simp (maxSteps:=3000000) (maxDischargeDepth:=6) +contextual -implicitDefEqProofs only [amA M,amB,↓aj,↓ae,↓al,↓ak,Nat.reduceBEq,Nat.reduceAdd,env,ao,lj,amG,AV.cell,Nat.reduceMul,Nat.reduceLeDiff,qU,rnc,VX,e2,NL]
theorem QM(hF:u4 E)(hS:SpE E)(hX:qy M)(s:Str)(c:UInt8)(H:List ab):M.run nA [.str s,.str [c]] H=some (.ret (.int .i64 (Lib.indexByte s c)),H):=by
 have h1:M.run cL [.str s,.int .u8 c.toNat] H=some (.ret (.int .i64 (Lib.indexByte s c)),H):=by
  rw [a6 M hS.internal_stringslite_IndexByte rfl (c:=dK) rfl,dK]
  have h2:=hX.index s c H
  simp (maxSteps:=3000000) (maxDischargeDepth:=6) +contextual -implicitDefEqProofs only [amA M,amB,↓aj,↓ae,↓al,↓ak,Nat.reduceBEq,Nat.reduceAdd,env,ao,kL,h2]
 have h2:M.run gn [.str s,.str [c]] H=some (.ret (.int .i64 (Lib.indexByte s c)),H):=by
  rw [a6 M hF.internal_stringslite_Index rfl (c:=jl) rfl,jl]
  have e0:((([c].length:Nat):Int) == 0)=false:=rfl
  have e1:((([c].length:Nat):Int) == 1)=true:=rfl
  have e2:IF ([c]:Str)[0]?=some (.int .u8 (c.toNat:Int)):=rfl
  cases he:([c]:Str) == s with
  |true=>
   have:Lib.indexByte s c=0:=by rw [← eq_of_beq he];simp [Lib.indexByte]
   rw [this]
   simp (maxSteps:=3000000) (maxDischargeDepth:=6) +contextual -implicitDefEqProofs only [amA M,amB,↓aj,↓ae,↓al,↓ak,Nat.reduceBEq,Nat.reduceAdd,env,ao,nH,e0,e1,he]
  |false=>
   simp (maxSteps:=3000000) (maxDischargeDepth:=6) +contextual -implicitDefEqProofs only [amA M,amB,↓aj,↓ae,↓al,↓ak,Nat.reduceBEq,Nat.reduceAdd,env,ao,nH,e0,e1,e2,h1,he]
 rw [a6 M hF.strings_Index rfl (c:=uU) rfl,uU]
 simp (maxSteps:=3000000) (maxDischargeDepth:=6) +contextual -implicitDefEqProofs only [amA M,amB,↓aj,↓ae,↓al,↓ak,Nat.reduceBEq,Nat.reduceAdd,env,ao,Jb,h2]
theorem QN(hF:u4 E)(hX:Ib M)(s:Str)(c:UInt8)(H:List ab):M.run ku [.str s,.str [c]] H=some (.ret (.int .i64 (Lib.countByte s c:Nat)),H):=by
 rw [a6 M hF.strings_Count rfl (c:=uT) rfl,uT]
 have h2:=hX.count s c H
 have e0:((([c].length:Nat):Int) == 0)=false:=rfl
 have e1:((([c].length:Nat):Int) == 1)=true:=rfl
 have e2:IF ([c]:Str)[0]?=some (.int .u8 (c.toNat:Int)):=rfl
 simp (maxSteps:=3000000) (maxDischargeDepth:=6) +contextual -implicitDefEqProofs only [amA M,amB,↓aj,↓ae,↓al,↓ak,Nat.reduceBEq,Nat.reduceAdd,env,ao,Ja,e0,e1,e2,h2]
theorem Ui(a b:Str):CM (a++b)=CM a++CM b:=List.filter_append ..
theorem IM:∀ (s:Str) (m:Nat),Lib.countByte s 43=m+1→∃ a r,s=a++43::r∧CM a=a∧Lib.indexByte s 43=(a.length:Int)∧Lib.countByte r 43=m
 |[],m,h=>by simp [Lib.countByte] at h
 |c::s,m,h=>by
  by_cases hc:c=43
  ·subst hc
   exact ⟨[],s,rfl,rfl,by simp [Lib.indexByte],by simpa [Lib.countByte] using h⟩
  ·obtain ⟨a,r,h1,h2,h3,h4⟩:=IM s m (by rwa [Lib.countByte,List.count_cons_of_ne (Ne.symm (by simpa using (fun e=>hc e.symm)))] at h)
   refine ⟨c::a,r,by rw [h1];rfl, ?_, ?_,h4⟩
   ·simp only [CM,List.filter_cons] at h2 ⊢
    simp [hc,h2]
   ·have hb:(c == 43)=false:=by simpa using hc
    simp only [Lib.indexByte,hb,h3]
    have:((a.length:Int) == -1)=false:=beq_eq_false_iff_ne.2 (by omega)
    simp [this]
theorem Rr{s:Str}(h:Lib.countByte s 43=0):CM s=s:=by
 simp only [Lib.countByte] at h
 rw [List.count_eq_zero] at h
 exact List.filter_eq_self.2 fun c hc=>by
  have:c≠43:=fun e=>h (e ▸ hc)
  simpa using this
theorem Pk{s:Str}(h:∀ x∈s,x=43):CM s=[]:=List.filter_eq_nil_iff.2 fun c hc=>by simp [h c hc]
theorem rpl(hN:dW E)(hF:u4 E)(hS:SpE E)(hX:qy M)(hB:ra E){s:Str}(hs:s.length≤1000000){H H0:List ab}(N:Nat)(k:List Fra):∀ (m i st:Nat) (b:BL) (He:List ab),i+m=N→N≤1000000→st≤s.length→b.str.length≤st→Lib.countByte (s.drop st) 43=m→(b = .nil→∀ x∈s,x=43) →
  ∃ (st':Nat) (b':BL),st'≤s.length∧b'.str++s.drop st'=b.str++CM (s.drop st)∧b'.str.length≤st'∧(b' = .nil→∀ x∈s,x=43) ∧
   M.go ek H0 (.c jn :: .lp ⟨(some [0,1,2,10,11,52,53]),[],false⟩ jn He :: .blk 0 :: .c (.lv [0,10,11])::k) (kv [(0,.str s),(1,.str [43]),(2,.str []),(10,.ptr H.length 0),(11,.int .i64 st),(52,.int .i64 N),(53,.int .i64 i)]) (b.heap H)=M.go ek H0 k (kv [(0,.str s),(10,.ptr H.length 0),(11,.int .i64 st')]) (b'.heap H)
 |0,i,st,b,He,hi,hN2,hst,hbl,hc,hb=>by
  refine ⟨st,b,hst,by rw [Rr hc],hbl,hb, ?_⟩
  have e:i=N:=by omega
  subst e
  rw [aw M jn.eq_1]
  simp (maxSteps:=3000000) (maxDischargeDepth:=6) +contextual -implicitDefEqProofs only [amA M,amB,↓aj,↓ae,↓al,↓ak,Nat.reduceBEq,Nat.reduceAdd,env,ao,iV,Nat.lt_irrefl]
 |m+1,i,st,b,He,hi,hN2,hst,hbl,hc,hb=>by
  obtain ⟨a,r,h1,h2,h3,h4⟩:=IM _ _ hc
  have hlen:a.length+(r.length+1)=s.length-st:=by
   have:=congrArg List.length h1
   simpa using this.symm
  have hdr:s.drop (st+a.length+1)=r:=by
   rw [Nat.add_assoc,← List.drop_drop,h1,List.drop_append,List.drop_of_length_le (by omega)]
   simp
  have hta:(s.drop st).take a.length=a:=by rw [h1];simp
  have hbn:b = .nil→a=[]:=fun e=>by
   have:CM a=[]:=Pk fun x hx=>hb e x (List.mem_of_mem_drop (by rw [h1];simp [hx]))
   rw [← h2,this]
  have hw1:=QL M hB H b (s:=a) (by omega) hbn
  have hs1:=b.wr_str a hbn
  have hw2:=QL M hB H (b.wr a) (s:=[]) (by rw [hs1];simp;omega) (fun _=>rfl)
  have hs2:=(b.wr a).wr_str [] (fun _=>rfl)
  rw [List.append_nil] at hs2
  have hbb:(b.wr a).wr [] = .nil→∀ x∈s,x=43:=fun e=>hb (BL.wr_nil (BL.wr_nil e))
  obtain ⟨st',b',g1,g2,g3,g4,g5⟩:=rpl hN hF hS hX hB hs (H:=H) (H0:=H0) N k m (i+1) (st+a.length+1) ((b.wr a).wr []) (((b.wr a).wr []).heap H) (by omega) hN2 (by omega) (by rw [hs2,hs1];simp;omega) (by rw [hdr];exact h4) hbb
  refine ⟨st',b',g1, ?_,g3,g4, ?_⟩
  ·rw [g2,hs2,hs1,hdr,h1,Ui,h2,List.append_assoc]
   congr 1
  ·simp only [kv_cons,kv_nil] at g5 ⊢
   rw [← g5]
   have hin:i<N:=by omega
   have hix:=fun H=>QM M hF hS hX (s.drop st) 43 H
   rw [h3] at hix
   have q1:=w9 (s:=s) (k:=.i64) hst
   have q2:=TX (s:=s) (k:=.i64) (k':=.i64) (i:=st) (j:=st+a.length) (by omega) (by omega)
   rw [Nat.add_sub_cancel_left,hta] at q2
   have q3:IntKind.i64.wrap ((st:Int)+(a.length:Int))=((st+a.length:Nat):Int):=by rw [ep (by omega) (by omega)];omega
   have q4:IntKind.i64.wrap (((st+a.length:Nat):Int)+1)=((st+a.length+1:Nat):Int):=by rw [ep (by omega) (by omega)];omega
   have q5:((([43]:Str).length:Nat):Int)=1:=rfl
   rw [aw M jn.eq_1]
   simp (maxSteps:=3000000) (maxDischargeDepth:=6) +contextual -implicitDefEqProofs only [amA M,amB,↓aj,↓ae,↓al,↓ak,Nat.reduceBEq,Nat.reduceAdd,env,ao,iV,hin,hix,q1,q2,q3,q4,q5,hw1,hw2,de hin (show N≤bE by simp only [bE];omega)]
theorem Pm(hN:dW E)(hF:u4 E)(hS:SpE E)(hX:qy M)(hY:Ib M)(hB:ra E){s:Str}(hs:s.length≤1000000)(H:List ab) :
  M.run r4 [.str s,.str [43],.str [],.int .i64 (-1)] H=some (.ret (.str (CM s)),H):=by
 rw [a6 M hF.strings_Replace rfl (c:=sd) rfl,sd]
 have hct:=fun H=>QN M hF hY s 43 H
 have q5:((([43]:Str).length:Nat):Int)=1:=rfl
 have q6:(([43]:Str) == [])=false:=rfl
 have q7:((-1:Int) == 0)=false:=rfl
 have q8:decide ((-1:Int)<0)=true:=rfl
 have q9:decide ((0:Int)<1)=true:=rfl
 have z0:((0:Nat):Int)=0:=rfl
 have z1:((1:Nat):Int)=1:=rfl
 have w1:IntKind.i64.wrap (0-1) = -1:=by decide
 generalize hc:Lib.countByte s 43=n at hct
 have hcl:n≤s.length:=by rw [← hc];exact List.count_le_length
 cases hn:(n:Int) == 0 with
 |true=>
  have:n=0:=by have:=eq_of_beq hn;omega
  rw [Rr (by rw [hc];exact this)]
  simp (maxSteps:=3000000) (maxDischargeDepth:=6) +contextual -implicitDefEqProofs only [amA M,amB,↓aj,↓ae,↓al,↓ak,Nat.reduceBEq,Nat.reduceAdd,env,ao,iV,hct,q5,q6,q7,q8,hn]
 |false=>
  have hn0:0<n:=by have:=beq_eq_false_iff_ne.1 hn;omega
  have w2:IntKind.i64.wrap ((n:Int) * -1) = -(n:Int):=by rw [ep (by omega) (by omega)];omega
  have w3:IntKind.i64.wrap ((s.length:Int) + -(n:Int))=((s.length-n:Nat):Int):=by rw [ep (by omega) (by omega)];omega
  have fin:∀ (b:BL) (st:Nat),st≤s.length→b.str.length≤st→b.str++s.drop st=CM s→(b = .nil→∀ x∈s,x=43) →
    M.go ek H [.c (.seq (.seq (.ops [⟨(some 99),none,(.op (.mv (.t 0)))⟩,⟨(some 100),none,(.op (.mv (.t 11)))⟩,⟨(some 101),none,(.op (.sls (.t 99) (some (.t 100)) none))⟩,⟨(some 102),none,(.call (.c (.fn (.func aR) [] [])) [(.t 10),(.t 101)])⟩]) (.lv [10])) (.seq (.ops [⟨(some 103),none,(.call (.c (.fn (.func db) [] [])) [(.t 10)])⟩,⟨(some 8),none,(.op (.mv (.t 103)))⟩]) .ret))] (uB (uB (uB Env.leaf 11 (.int .i64 st)) 10 (.ptr H.length 0)) 0 (.str s)) (b.heap H)=some (.ret (.str (CM s)),H):=by
   intro b st h1 h2 h3 h4
   have hbn:b = .nil→s.drop st=[]:=fun e=>by
    have h5:=Pk (h4 e)
    rw [h5] at h3
    exact (List.append_eq_nil_iff.1 h3).2
   have a1:=QL M hB H b (s:=s.drop st) (by simp;omega) hbn
   have a2:=b.wr_str (s.drop st) hbn
   have a3:=Uh M hB H (b.wr (s.drop st)) (by rw [a2];simp;omega) (fun n e=>by cases b<;>simp [BL.wr] at e)
   rw [a2,h3] at a3
   have q1:=w9 (s:=s) (k:=.i64) h1
   have hcut:∀ b:BL,dL H (b.heap H):=fun b=>by cases b<;>exact cut_app H _
   have htk:∀ b:BL,(b.heap H).take H.length=H:=fun b=>by cases b<;>simp [BL.heap]
   simp (maxSteps:=3000000) (maxDischargeDepth:=6) +contextual -implicitDefEqProofs only [amA M,amB,↓aj,↓ae,↓al,↓ak,Nat.reduceBEq,Nat.reduceAdd,env,ao,iV,q1,a1,a3,hcut,htk]
  by_cases hg:s.length-n=0
  ·have hall:∀ x∈s,x=43:=by
    have:s.count 43=s.length:=by rw [Lib.countByte] at hc;omega
    exact fun x hx=>((List.count_eq_length.1 this) x hx).symm
   have hgr:=QK M hB hX hF H
   obtain ⟨st',b',g1,g2,g3,g4,g5⟩:=rpl M hN hF hS hX hB hs (H:=H) (H0:=H) n [.c (.seq (.seq (.ops [⟨(some 99),none,(.op (.mv (.t 0)))⟩,⟨(some 100),none,(.op (.mv (.t 11)))⟩,⟨(some 101),none,(.op (.sls (.t 99) (some (.t 100)) none))⟩,⟨(some 102),none,(.call (.c (.fn (.func aR) [] [])) [(.t 10),(.t 101)])⟩]) (.lv [10])) (.seq (.ops [⟨(some 103),none,(.call (.c (.fn (.func db) [] [])) [(.t 10)])⟩,⟨(some 8),none,(.op (.mv (.t 103)))⟩]) .ret))] n 0 0 .nil (H++[qz (.ptr H.length 0) (.slice .nil 1 [])]) (by omega) (by omega) (Nat.zero_le _) (Nat.le_refl _) hc (fun _=>hall)
   have g6:=fin b' st' g1 g3 g2 g4
   simp only [kv_cons,kv_nil,Int.ofNat_zero,Pj,MI] at g5
   rw [hg,z0] at w3
   rw [← g6,← g5]
   simp (maxSteps:=3000000) (maxDischargeDepth:=6) +contextual -implicitDefEqProofs only [amA M,amB,↓aj,↓ae,↓al,↓ak,Nat.reduceBEq,Nat.reduceAdd,env,ao,iV,amG,AV.cell,Nat.reduceMul,Nat.reduceLeDiff,hct,z0,z1,q5,q6,q7,q8,q9,hn,w1,w2,w3,hgr]
  ·have hgr:=Sz M hB hX hF hY H (n:=s.length-n) (by omega) (by omega)
   obtain ⟨st',b',g1,g2,g3,g4,g5⟩:=rpl M hN hF hS hX hB hs (H:=H) (H0:=H) n [.c (.seq (.seq (.ops [⟨(some 99),none,(.op (.mv (.t 0)))⟩,⟨(some 100),none,(.op (.mv (.t 11)))⟩,⟨(some 101),none,(.op (.sls (.t 99) (some (.t 100)) none))⟩,⟨(some 102),none,(.call (.c (.fn (.func aR) [] [])) [(.t 10),(.t 101)])⟩]) (.lv [10])) (.seq (.ops [⟨(some 103),none,(.call (.c (.fn (.func db) [] [])) [(.t 10)])⟩,⟨(some 8),none,(.op (.mv (.t 103)))⟩]) .ret))] n 0 0 (.room (s.length-n)) (H++[qz (.ptr H.length 0) (.rslice (H.length+1) 0 0 1 true),.cells (List.replicate (s.length-n) .unk) dG]) (by omega) (by omega) (Nat.zero_le _) (Nat.le_refl _) hc (fun e=>by cases e)
   have g6:=fin b' st' g1 g3 g2 g4
   simp only [kv_cons,kv_nil,Int.ofNat_zero,Pj,MI] at g5
   rw [← g6,← g5]
   simp (maxSteps:=3000000) (maxDischargeDepth:=6) +contextual -implicitDefEqProofs only [amA M,amB,↓aj,↓ae,↓al,↓ak,Nat.reduceBEq,Nat.reduceAdd,env,ao,iV,amG,AV.cell,Nat.reduceMul,Nat.reduceLeDiff,hct,z0,z1,q5,q6,q7,q8,q9,hn,w1,w2,w3,hgr]
theorem KY(hN:dW E)(hF:u4 E)(hS:SpE E)(hX:qy M)(hY:Ib M)(hB:ra E){s:Str}(hs:s.length≤1000000)(H:List ab) :
  M.run o8 [.str s,.str [43],.str []] H=some (.ret (.str (CM s)),H):=by
 rw [a6 M hF.strings_ReplaceAll rfl (c:=pd) rfl,pd]
 simp (maxSteps:=3000000) (maxDischargeDepth:=6) +contextual -implicitDefEqProofs only [amA M,amB,↓aj,↓ae,↓al,↓ak,Nat.reduceBEq,Nat.reduceAdd,env,ao,Dr,Pm M hN hF hS hX hY hB hs]
end
section
attribute [local congr] aF ca bg aG aZ aL aH aA aC aM aN
variable{E:bt}(M:cK cU E)
def Vm(q:Int):Nat→bW→Option AV:=fun _ f=>sel (f.slot == q) (some (.str f.word)) none
def SA(l:List bW)(q:Int):Option Str:=(l.find? fun f=>f.slot == q).map (·.word)
theorem MJ(q:Int)(H:List ab)(x:Option Out):∀ (l:List bW) (i:Nat),orE (fD (Vm q) i l) H x=match SA l q with
  |some w=>some (.ret (.str w),H)
  |none=>x
 |[],_=>rfl
 |f::l,i=>by
  rw [ua,show Vm q i f=sel (f.slot == q) (some (.str f.word)) none from rfl,Js,Jr,GH,GG,GI,MJ q H x l]
  simp only [SA,List.find?_cons]
  cases f.slot == q<;>rfl
def NM(o:Option (List Str)):Str:=
 match o with
 |none=>[]
 |some r=>sel (decide ((24:Int)<((CM (r.getLastD [])).length:Int))) [] (CM (r.getLastD []))
def F2(l:Lex)(x:aK)(s:bB)(q:Int):Str:=
 match SA x.forms.l q with
 |some w=>w
 |none=>NM (zg l x s)
theorem KZ(v:Str):∀ (l:List bz) (o:List Str) (u:Str) (r:List Str),u.length≤1000→Ha v (o++[u]) u l=some r→∃ r' u',r=r'++[u']∧u'.length≤1000∧r.length=o.length+1+l.length
 |[],o,u,r,hu,h=>by
  obtain rfl:=Option.some.inj h
  exact ⟨o,u,rfl,hu,by simp⟩
 |x::l,o,u,r,hu,h=>by
  rw [Ha] at h
  cases hd:decide (((AR v x u).length:Int)≤512) with
  |false=>rw [hd] at h;simp [sel] at h
  |true=>
   rw [hd] at h
   obtain ⟨r',u',h1,h2,h3⟩:=KZ v l (o++[u]) (AR v x u) r (by have:=of_decide_eq_true hd;omega) h
   exact ⟨r',u',h1,h2,by rw [h3];simp;omega⟩
theorem Pn{l:Lex}(hk:eE l=0){e q:Int}{x:aK}{c:a8}{s:bB}(hA:At l e q x c s){r:List Str}(h:zg l x s=some r):∃ r' u',r=r'++[u']∧u'.length≤1000∧r.length≤100:=by
 unfold zg at h
 cases ho:LV x.lem s with
 |none=>rw [ho] at h;cases h
 |some u=>
  rw [ho] at h
  have hul:u.length≤1000:=by
   have:=Pf (Ei hA.ent.lem) hA.sok
   unfold LV at ho
   revert ho
   cases decide ((x.lem.length:Int)<s.cut) with
   |true=>simp [sel]
   |false=>intro ho;rw [← Option.some.inj ho];omega
  obtain ⟨r',u',h1,h2,h3⟩:=KZ l.vowels l.spells.l [] u r hul h
  have:=Fm hk
  exact ⟨r',u',h1,h2,by simp at h3;omega⟩
theorem mfl{H H0:List ab}{e q:Int}{x:aK}{n0:Nat}(hx0:x.ok n0)(hn:n0≤H.length){p:Nat}(hpl:p<H.length)(hc:dL H0 H)(k:List Fra):∀ (n i:Nat),i+n=(x.forms.l).length →
  M.go dv H0 (.c gI :: .lp ⟨(some [1,2,3,20,21,22]),[],true⟩ gI H :: .blk 0 :: .c (.lv [1,2,3])::k) (kv [(1,.int .i64 e),(2,.int .i64 q),(3,.ptr p 0),(20,.slice x.forms.tag 2 (x.forms.l.map bW.row)),(21,.int .i64 x.forms.l.length),(22,.int .i64 i)]) H =
   orE (fD (Vm q) i (x.forms.l.drop i)) (H.take H0.length) (M.go dv H0 k (kv [(1,.int .i64 e),(2,.int .i64 q),(3,.ptr p 0)]) H)
 |0,i,h=>by
  have e:i=(x.forms.l).length:=by omega
  subst e
  rw [aw M gI.eq_1]
  simp (maxSteps:=3000000) (maxDischargeDepth:=6) +contextual -implicitDefEqProofs only [amA M,amB,↓aj,↓ae,↓al,↓ak,Nat.reduceBEq,Nat.reduceAdd,env,ao,fW,Nat.lt_irrefl,List.drop_length]
 |n+1,i,h=>by
  have hi:i<(x.forms.l).length:=by omega
  have hx:(x.forms.l)[i]?=some (x.forms.l)[i]:=List.getElem?_eq_getElem hi
  have hd:((x.forms.l).drop i)=(x.forms.l)[i]::(x.forms.l).drop (i+1):=List.drop_eq_getElem_cons hi
  have hm:(x.forms.l)[i]∈(x.forms.l):=List.getElem_mem hi
  have ih:=mfl (H:=H) (H0:=H0) (e:=e) (q:=q) (x:=x) (n0:=n0) (hx0:=hx0) (hn:=hn) (p:=p) (hpl:=hpl) hc k n (i+1)  (by omega)
  simp only [kv_cons,kv_nil] at ih
  have w2:Wk H.length (.ptr p 0) (.ptr p 0):=wk_ptr hpl
  have w3:Wk H.length (.slice x.forms.tag 2 (x.forms.l.map bW.row)) (.slice x.forms.tag 2 (x.forms.l.map bW.row)):=(hx0.forms.mono hn (fun _ h=>h.mono hn)).wk (fun _ h=>h.wk)
  rw [aw M gI.eq_1]
  simp (maxSteps:=3000000) (maxDischargeDepth:=6) +contextual -implicitDefEqProofs only [amA M,amB,↓aj,↓ae,↓al,↓ak,Nat.reduceBEq,Nat.reduceAdd,env,ao,fW,hx,hd,hi,ih,amG,AV.cell,w2,w3,de hi hx0.forms.len,bp hi,HF,hc,Vm]
theorem Po(r':List Str)(u':Str){t:Tag}(h:(r'++[u']).length≤100):A8 1 (.slice t 1 ((r'++[u']).map kV)) (.int .i64 (IntKind.i64.wrap (((r'++[u']).length:Int)-1)))=some (.vptr 1 ((r'++[u']).map kV) r'.length 0):=by
 have e:IntKind.i64.wrap (((r'++[u']).length:Int)-1)=(r'.length:Int):=by
  simp only [List.length_append,List.length_cons,List.length_nil] at h ⊢
  rw [ep (by omega) (by omega)];omega
 rw [e]
 exact bp (by simp)
theorem Pp(r':List Str)(u':Str):(r'++[u'])[r'.length]?=some u':=by simp
theorem Uj(r':List Str)(u':Str):(r'++[u']).getLastD []=u':=by simp
theorem Uk(hN:dW E)(hW:WdE M)(hE:jH E)(hS:SpE E)(hX:qy M)(hY:Ib M)(hB:ra E)(hF:u4 E){l:Lex}(hl:l.ok 0)(hk:eE l=0){e q:Int}{x:aK}{c:a8}{s:bB}(hA:At l e q x c s)(H:List ab) :
  M.run eT [.agg l.row,.int .i64 e,.int .i64 q] H=some (.ret (.str (F2 l x s q)),H):=by
 rw [a6 M hF.morph_language_form rfl (c:=od) rfl,od]
 have hx0:=hl.entries.all x (List.mem_of_getElem? hA.ex)
 have h1:=fun k=>mfl M (H:=H++[.cells l.row aE]) (H0:=H) (e:=e) (q:=q) hx0 (Nat.zero_le _) (p:=H.length) (by simp) (cut_app H _) k x.forms.l.length 0 (by omega)
 simp only [kv_cons,kv_nil,Int.ofNat_zero,List.drop_zero,MJ] at h1
 have hsl:=fun H=>Pd M hW hE hF hl e q H
 simp only [hA.sl hk,Option.getD_some,Option.isSome_some] at hsl
 have hst:=fun H=>Sy M hN hS hX hB hF hl (T4 hk) hA (by have:=Fm hk;omega) H
 have hsw:∀ n,WkL n s.row s.row:=fun n=>(((hl.classes.all c hA.cm).slots.all s (List.mem_of_getElem? hA.sx)).mono (Nat.zero_le n)).wk
 cases hi:SA x.forms.l q with
 |some w=>
  have e1:F2 l x s q=w:=by simp [F2,hi]
  rw [e1]
  simp only [hi] at h1
  simp (maxSteps:=3000000) (maxDischargeDepth:=6) +contextual -implicitDefEqProofs only [amA M,amB,↓aj,↓ae,↓al,↓ak,Nat.reduceBEq,Nat.reduceAdd,env,ao,fW,amG,AV.cell,Nat.reduceMul,Nat.reduceLeDiff,h1,hA.ex,jK hA.e0 hA.el,dZ,gS]
 |none=>
  have e1:F2 l x s q=NM (zg l x s):=by simp [F2,hi]
  rw [e1]
  simp only [hi] at h1
  cases hr:zg l x s with
  |none=>
   simp only [hr,Pg,Option.getD_none,Option.isSome_none,List.map_nil] at hst
   simp (maxSteps:=3000000) (maxDischargeDepth:=6) +contextual -implicitDefEqProofs only [amA M,amB,↓aj,↓ae,↓al,↓ak,Nat.reduceBEq,Nat.reduceAdd,env,ao,fW,amG,AV.cell,Nat.reduceMul,Nat.reduceLeDiff,h1,hsl,hst,hA.ex,jK hA.e0 hA.el,dZ,gS,o4,NM]
  |some r=>
   obtain ⟨r',u',g1,g2,g3⟩:=Pn hk hA hr
   subst g1
   simp only [hr,Pg,Option.getD_some,Option.isSome_some] at hst
   have hra:=fun H=>KY M hN hF hS hX hY hB (s:=u') (by omega) H
   cases hd:decide ((24:Int)<((CM u').length:Int)) with
   |true=>
    have e2:NM (some (r'++[u']))=[]:=by simp only [NM,Uj,hd,sel]
    rw [e2]
    simp (maxSteps:=3000000) (maxDischargeDepth:=6) +contextual -implicitDefEqProofs only [amA M,amB,↓aj,↓ae,↓al,↓ak,Nat.reduceBEq,Nat.reduceAdd,env,ao,fW,amG,AV.cell,Nat.reduceMul,Nat.reduceLeDiff,h1,hsl,hst,hra,hd,Po r' u' g3,Pp,hA.ex,jK hA.e0 hA.el,dZ,gS,o4,Tv]
   |false=>
    have e2:NM (some (r'++[u']))=CM u':=by simp only [NM,Uj,hd,sel]
    rw [e2]
    simp (maxSteps:=3000000) (maxDischargeDepth:=6) +contextual -implicitDefEqProofs only [amA M,amB,↓aj,↓ae,↓al,↓ak,Nat.reduceBEq,Nat.reduceAdd,env,ao,fW,amG,AV.cell,Nat.reduceMul,Nat.reduceLeDiff,h1,hsl,hst,hra,hd,Po r' u' g3,Pp,hA.ex,jK hA.e0 hA.el,dZ,gS,o4,Tv]
end
section
attribute [local congr] aF ca bg aG aZ aL aH aA aC aM aN
variable{E:bt}(M:cK cU E)
end
section
attribute [local congr] aF ca bg aG aZ aL aH aA aC aM aN
variable{E:bt}(M:cK cU E)
theorem VY{l:Lex}(hk:eE l=0){e:Int}(he:0≤e){x:aK}(hx:l.entries.l[e.toNat]?=some x){c:a8}(hc:DZ l x c){i:Nat}{s:bB}(hs:c.slots.l[i]?=some s):At l e (i:Int) x c s:=by
 have hcm:c∈l.classes.l:=List.mem_of_find?_eq_some hc.cls
 exact ⟨he,by omega,(List.getElem?_eq_some_iff.1 hx).1,hx,hc,hcm,by simpa using (List.getElem?_eq_some_iff.1 hs).1,by simpa using hs,Xd (Vk hk hcm (List.mem_of_getElem? hs))⟩
theorem SB(hW:WdE M)(hE:jH E)(hF:u4 E){l:Lex}(hl:l.ok 0){e:Int}(he:0≤e){x:aK}(hx:l.entries.l[e.toNat]?=some x){c:a8}(hc:DZ l x c)(H:List ab) :
  M.run js [.agg l.row,.int .i64 e] H=some (.ret (.int .i64 c.slots.l.length),H):=by
 rw [a6 M hF.morph_language_slots rfl (c:=mL) rfl,mL]
 have hcl:=fun H=>pC M hE hl hc.cls (H:=H) (Nat.zero_le _)
 have hw:=fun H T L=>Nz hW (g:=fC) (first:=[]) (cap:=[]) (args:=[.agg l.row,.str x.cls]) (v:=.tuple [.agg c.row,.bool true]) hcl H T L
 simp (maxSteps:=3000000) (maxDischargeDepth:=6) +contextual -implicitDefEqProofs only [amA M,amB,↓aj,↓ae,↓al,↓ak,Nat.reduceBEq,Nat.reduceAdd,env,ao,Bo,amG,AV.cell,Nat.reduceMul,Nat.reduceLeDiff,hx,jK he (List.getElem?_eq_some_iff.1 hx).1,zP hW,hcl,hw,dZ,gS,ko]
theorem MK{l:Lex}(hk:eE l=0){x:aK}{c:a8}(hc:DZ l x c):c.slots.l.length≤24:=by
 have hcm:c∈l.classes.l:=List.mem_of_find?_eq_some hc.cls
 obtain ⟨k,hk2⟩:=List.getElem?_of_mem hcm
 have h2:=(jR (tH hk).1).2 k c hk2
 unfold FU at h2
 have h3:=(il (by decide) (il (by decide) (il (by decide) h2).2).2)
 have:=of_decide_eq_false (il (by decide) (il (by decide) (il (by decide) h2).2).2).1
 omega
end
section
set_option linter.defProp false
structure bS where
 e:Int
 q:Int
 w:Str
def bS.row(x:bS):List AV:=[.int .i64 x.e,.int .i64 x.q,.str x.w]
theorem ML:(∀ x:bS,o2 3 (bS.row x)=some (bS.row x))∧(∀ x:bS,cD none (bS.row x) 0=some (.int .i64 x.e))∧(∀ x:bS,cD none (bS.row x) 1=some (.int .i64 x.q))∧(∀ x:bS,cD none (bS.row x) 2=some (.str x.w))∧(∀ x:bS,(bS.row x).length=3)∧(∀ x:bS,(bS.row x).all AV.cell=true)∧(∀ x:bS,∀ c0 c1 c2:AV,aO [c0,c1,c2] 0 (bS.row x)=bS.row x)∧(∀ x:bS,∀ y:bS,aO (bS.row y) 0 (bS.row x)=bS.row x)∧(∀ x:bS,∀ (y:Int),aO (bS.row x) 0 [.int .i64 y]=bS.row { x with e:=y })∧(∀ x:bS,∀ (y:Int),aO (bS.row x) 1 [.int .i64 y]=bS.row { x with q:=y })∧(∀ x:bS,∀ (y:Str),aO (bS.row x) 2 [.str y]=bS.row { x with w:=y })∧(∀ x:bS,(bS.row x).map AV.strip=bS.row x)∧(∀ x:bS,(bS.row x).take 3=bS.row x)∧(∀ x:bS,(bS.row x).drop 3=[]):=
 by refine ⟨?_, ?_, ?_, ?_, ?_, ?_, ?_, ?_, ?_, ?_, ?_, ?_, ?_, ?_⟩<;>(intros;first | rfl | (simp only [bS.row];rfl) | (simp only [bS.row,jN];rfl))
structure bS.ok (n:Nat) (x:bS):Prop where
 e:I64 x.e
 q:I64 x.q
 w:x.w.length≤bE
theorem bS.ok.mono{n m:Nat}{x:bS}(h:x.ok n)(hn:n≤m):x.ok m:=⟨h.e,h.q,h.w⟩
theorem bS.ok.wk{n:Nat}{x:bS}(h:x.ok n):WkL n x.row x.row:=⟨wk_int _ _ _,wk_int _ _ _,wk_str _ _,trivial⟩
structure bw where
 first:aQ
 w:Str
def bw.row(x:bw):List AV:=aQ.row x.first++[.str x.w]
theorem QO:(∀ x:bw,o2 4 (bw.row x)=some (bw.row x))∧(∀ x:bw,o2 3 (bw.row x)=some (aQ.row x.first))∧(∀ x:bw,cD none (bw.row x) 3=some (.str x.w))∧(∀ x:bw,(bw.row x).length=4)∧(∀ x:bw,(bw.row x).all AV.cell=true)∧(∀ x:bw,∀ c0 c1 c2 c3:AV,aO [c0,c1,c2,c3] 0 (bw.row x)=bw.row x)∧(∀ x:bw,∀ y:bw,aO (bw.row y) 0 (bw.row x)=bw.row x)∧(∀ x:bw,∀ (y:aQ),aO (bw.row x) 0 (aQ.row y)=bw.row { x with first:=y })∧(∀ x:bw,∀ (y:Str),aO (bw.row x) 3 [.str y]=bw.row { x with w:=y })∧(∀ x:bw,(bw.row x).map AV.strip=bw.row x)∧(∀ x:bw,(bw.row x).take 4=bw.row x)∧(∀ x:bw,(bw.row x).drop 4=[]):=
 by refine ⟨?_, ?_, ?_, ?_, ?_, ?_, ?_, ?_, ?_, ?_, ?_, ?_⟩<;>(intros;first | rfl | (simp only [bw.row,aQ.row];rfl) | (simp only [bw.row,aQ.row,jN];rfl))
structure bw.ok (n:Nat) (x:bw):Prop where
 first:x.first.ok n
 w:x.w.length≤bE
theorem bw.ok.mono{n m:Nat}{x:bw}(h:x.ok n)(hn:n≤m):x.ok m:=⟨h.first.mono hn,h.w⟩
theorem bw.ok.wk{n:Nat}{x:bw}(h:x.ok n):WkL n x.row x.row:=Ke (h.first.wk) ⟨wk_str _ _,trivial⟩
end
section
attribute [local congr] aF ca bg aG aZ aL aH aA aC aM aN
variable{E:bt}(M:cK cU E)
structure Pq (E:bt):Prop where
 morph_language_opens:E.fn jz=some fH
 morph_language_build:E.fn rY=some mK
 morph_Build:E.fn yB=some yL
 truchmanref02_linked:E.fn r5=some nf
theorem irr_len{l:Lex}{x:aK}{c:a8}(h:DZ l x c){q:Int}{w:Str}(hi:SA x.forms.l q=some w):w.length≤24:=by
 simp only [SA,Option.map_eq_some_iff] at hi
 obtain ⟨f,hf,rfl⟩:=hi
 obtain ⟨k,hk⟩:=List.getElem?_of_mem (List.mem_of_find?_eq_some hf)
 have:=jQ h.forms k f hk
 rw [Nat.zero_add] at this
 unfold MA at this
 have h3:=(il (by decide) (il (by decide) (il (by decide) this).2).2).1
 cases hw:f.word == [] with
 |true=>rw [eq_of_beq hw];simp
 |false=>
  rw [hw] at h3
  exact Ei (by simpa using h3)
theorem Ul(o:Option (List Str)):(NM o).length≤24:=by
 unfold NM
 split
 ·simp
 ·rename_i r
  cases hd:decide ((24:Int)<((CM (r.getLastD [])).length:Int)) with
  |true=>simp [sel]
  |false=>have:=of_decide_eq_false hd;simp only [sel];omega
theorem Vn{l:Lex}{x:aK}{c:a8}(h:DZ l x c)(s:bB)(q:Int):(F2 l x s q).length≤24:=by
 unfold F2
 split
 ·rename_i w hw;exact irr_len h hw
 ·exact Ul _
theorem Um{l:Lex}(hk:eE l=0){k:dH}(h:k∈l.links.l):k.glue.length≤6:=by
 obtain ⟨j,hj⟩:=List.getElem?_of_mem h
 have h5:=(jR (tH hk).2.2.2).2 j k hj
 unfold MB at h5
 split at h5
 ·exact absurd h5 (by decide)
 ·have:=(il (by decide) h5).1
  simp only [Bool.not_eq_false',qZ,Bool.and_eq_true,decide_eq_true_eq] at this
  omega
def Ps(x:aK)(s:bB)(k:dH):Bool:=x.cls == k.cls&&Wy k.feats.l (QG x s)
theorem Vo{l:Lex}{e q:Int}{x:aK}{c:a8}{s:bB}(hA:At l e q x c s):(QG x s).length≤bE:=by
 have hm:=hA.uni
 rw [DQ,hA.ent.short.2,hA.sok.feats.2] at hm
 have hl:=Eh _ _ _ _ (Nat.le_refl _) hm
 have h8:=hA.ent.short.1
 have h9:=hA.sok.feats.1
 simp only [bE];omega
theorem SC(hE:jH E)(hU:AS E){srt:List au→List au}(hO:Fl M srt)(hP:Srt srt)(hF:u4 E)(hV:Pq E){l:Lex}{e q:Int}{x:aK}{c:a8}{s:bB}(hA:At l e q x c s){k:dH}{n:Nat}(hk:k.ok n)(H:List ab) :
  M.run jz [.agg l.row,.int .i64 e,.agg s.row,.agg k.row] H=some (.ret (.bool (Ps x s k)),H):=by
 rw [a6 M hV.morph_language_opens rfl (c:=mY) rfl,mY]
 have h1:=fun H=>QH M hU hO hP hF hA H
 have h2:=fun H=>NJ M hE hU (a:=k.feats) (b:=⟨.any,QG x s⟩) hk.feats.len (Vo hA) H
 simp only at h2
 unfold Ps
 cases hc:x.cls == k.cls with
 |true=>
  simp (maxSteps:=3000000) (maxDischargeDepth:=6) +contextual -implicitDefEqProofs only [amA M,amB,↓aj,↓ae,↓al,↓ak,Nat.reduceBEq,Nat.reduceAdd,env,ao,sb,amG,AV.cell,Nat.reduceMul,Nat.reduceLeDiff,h1,h2,hc,hA.ex,jK hA.e0 hA.el,dZ,gS,Fb,o4]
 |false=>
  simp (maxSteps:=3000000) (maxDischargeDepth:=6) +contextual -implicitDefEqProofs only [amA M,amB,↓aj,↓ae,↓al,↓ak,Nat.reduceBEq,Nat.reduceAdd,env,ao,sb,amG,AV.cell,Nat.reduceMul,Nat.reduceLeDiff,h1,h2,hc,hA.ex,jK hA.e0 hA.el,dZ,gS,Fb,o4]
end
section
attribute [local congr] aF ca bg aG aZ aL aH aA aC aM aN
variable{E:bt}(M:cK cU E)
end
section
attribute [local congr] aF ca bg aG aZ aL aH aA aC aM aN
variable{E:bt}(M:cK cU E)
structure GenE (E:bt):Prop where
 morph_Bundle:E.fn Dk=some we
 morph_Generate:E.fn zQ=some tz
end
section
attribute [local congr] aF ca bg aG aZ aL aH aA aC aM aN
variable{E:bt}(M:cK cU E)
end
section
attribute [local congr] aF ca bg aG aZ aL aH aA aC aM aN
variable{E:bt}(M:cK cU E)
theorem Vp{l:Lex}(hk:eE l=0):∀ x∈l.entries.l,∃ c,DZ l x c:=fun x hx=>by
 obtain ⟨k,hk2⟩:=List.getElem?_of_mem hx
 exact QF hk hk2
theorem Pt{l:Lex}(hk:eE l=0):l.entries.l.length≤128:=by
 have:=(jR (tH hk).2.1).1
 omega
end
section
attribute [local congr] aF ca bg aG aZ aL aH aA aC aM aN
variable{E:bt}(M:cK cU E)
structure Ic (E:bt):Prop where
 slices_Clone_api_First_api_First:E.fn dm=some cr
 internal_stringslite_CutPrefix:E.fn gX=some cN
 strings_CutPrefix:E.fn pM=some im
 morph_analyses:E.fn lE=some eM
 morph_language_shapes:E.fn lD=some b9
 morph_language_openings:E.fn kp=some bP
 morph_language_analyze:E.fn kX=some dc
 morph_Analyze:E.fn iZ=some kx
theorem NN{α:Type}{row:α→List AV}{sz:Nat}:∀ (m:List α),(∀ x∈m,(row x).length=sz∧(row x).all AV.cell=true)→nV sz (m.map row)=true
 |[],_=>rfl
 |x::m,h=>by
  have h1:=h x (by simp)
  have h2:=NN m fun y hy=>h y (by simp [hy])
  simp only [nV,List.map_cons,List.all_cons,Bool.and_eq_true] at h2 ⊢
  exact ⟨⟨by simpa using h1.1,h1.2⟩,h2⟩
theorem F3{α:Type}{row:α→List AV}:∀ (m:List α),(∀ x∈m,(row x).map AV.strip=row x)→(m.map row).map (·.map AV.strip)=m.map row
 |[],_=>rfl
 |x::m,h=>by
  simp only [List.map_cons]
  rw [h x (by simp),← List.map_cons]
  exact congrArg _ (F3 m fun y hy=>h y (by simp [hy]))
theorem Pu{α:Type}{row:α→List AV}{l m:List α}{tg:Tag}{sz bytes:Nat}{e:TypeId}(H L:List ab)(hm:∀ x∈m,(row x).length=sz∧(row x).all AV.cell=true)(hs:∀ x∈m,(row x).map AV.strip=row x)
  (hl:(l.length+m.length)*bytes≤140737488355328) (hl2:l.length+m.length≤4611686018427387904) :
  rap false (H++(.tok (l.length*sz) e::L)) e sz bytes false (.slice (.own H.length) sz (l.map row)) (.slice tg sz (m.map row))=some (.slice (.own H.length) sz ((l++m).map row),H++(.tok ((l++m).length*sz) e::L)):=by
 have hr:=NN m hm
 have h3:=F3 m hs
 simp only [rap,C8,Cg,if_true,List.length_map,or_true,hl,hl2,hr,and_true,true_and]
 cases m with
 |nil=>simp
 |cons x m=>
  simp only [List.map_cons] at h3 ⊢
  simp only [ej,List.getElem?_cons_zero,and_true,if_true,hp_set0,List.set_cons_zero,h3,List.map_append,List.map_cons,List.length_append,List.length_cons,List.length_map,Nat.add_mul]
theorem Vq{α:Type}{row:α→List AV}{m:List α}{tg:Tag}{sz bytes:Nat}{e:TypeId}(H:List ab)(h0:m≠[])(hm:∀ x∈m,(row x).length=sz∧(row x).all AV.cell=true)(hs:∀ x∈m,(row x).map AV.strip=row x)
  (hl:m.length*bytes≤140737488355328) (hl2:m.length≤4611686018427387904) :
  rap false H e sz bytes false (.slice .full sz []) (.slice tg sz (m.map row))=some (.slice (.own H.length) sz (m.map row),H++[.tok (m.length*sz) e]):=by
 have hr:=NN m hm
 have h3:=F3 m hs
 simp only [rap,C8,Cg,if_true,List.length_map,List.length_nil,Nat.zero_add,true_or,or_true,hl,hl2,hr,and_true,true_and]
 cases m with
 |nil=>exact absurd rfl h0
 |cons x m=>
  simp only [List.map_cons] at h3 ⊢
  simp only [or_true,if_true,List.length_cons,List.length_map,h3,List.nil_append] at hl hl2 hr ⊢
theorem K5(m:List aQ):(∀ x∈m,(aQ.row x).length=3∧(aQ.row x).all AV.cell=true)∧(∀ x∈m,(aQ.row x).map AV.strip=aQ.row x):=⟨fun _ _=>⟨rfl,rfl⟩,fun _ _=>rfl⟩
theorem Hb(n:Nat)(x:bS):WkL n (bS.row x) (bS.row x):=⟨wk_int _ _ _,wk_int _ _ _,wk_str _ _,trivial⟩
theorem K6(n:Nat)(x:aQ):WkL n (aQ.row x) (aQ.row x):=⟨wk_int _ _ _,wk_int _ _ _,wk_int _ _ _,trivial⟩
theorem Jw(n:Nat)(x:bw):WkL n (bw.row x) (bw.row x):=⟨wk_int _ _ _,wk_int _ _ _,wk_int _ _ _,wk_str _ _,trivial⟩
theorem tS{α:Type}{row:α→List AV}(h:∀ n x,WkL n (row x) (row x))(n:Nat)(l:List α):mA n (l.map row):=by
 rw [rowsWk_map];exact fun x _=>h n x
theorem Vr:req .sl (.slice .nil 3 []) (.slice .nil 0 [])=some true:=rfl
theorem WC{α:Type}{row:α→List AV}{l:List α}{tg:Tag}(h:l≠[])(sz:Nat):req .sl (.slice tg sz (l.map row)) (.slice .nil 0 [])=some false:=by
 cases l with
 |nil=>exact absurd rfl h
 |cons x l=>cases tg<;>rfl
theorem K7(hA:Ic E)(H:List ab):M.run dm [.slice .nil 3 []] H=some (.ret (.slice .nil 3 []),H):=by
 rw [a6 M hA.slices_Clone_api_First_api_First rfl (c:=dt) rfl,dt]
 simp (maxSteps:=3000000) (maxDischargeDepth:=6) +contextual -implicitDefEqProofs only [amA M,amB,↓aj,↓ae,↓al,↓ak,Nat.reduceBEq,Nat.reduceAdd,env,ao,jW,Vr,Option.map_some]
theorem K8(hA:Ic E){l:List aQ}(hl:l≠[])(hn:l.length≤1000)(tg:Tag)(H:List ab):M.run dm [.slice tg 3 (l.map aQ.row)] H=some (.ret (.slice (.own H.length) 3 (l.map aQ.row)),H++[.tok (l.length*3) dJ]):=by
 rw [a6 M hA.slices_Clone_api_First_api_First rfl (c:=dt) rfl,dt]
 have ap:=Vq (row:=aQ.row) (m:=l) (tg:=tg) (sz:=3) (bytes:=24) (e:=dJ) H hl (K5 l).1 (K5 l).2 (by omega) (by omega)
 simp (maxSteps:=3000000) (maxDischargeDepth:=6) +contextual -implicitDefEqProofs only [amA M,amB,↓aj,↓ae,↓al,↓ak,Nat.reduceBEq,Nat.reduceAdd,env,ao,jW,amG,AV.cell,Nat.reduceMul,Nat.reduceLeDiff,WC hl,Option.map_some,ap]
end
section
attribute [local congr] aF ca bg aG aZ aL aH aA aC aM aN
variable{E:bt}(M:cK cU E)
def AT(l:Lex)(x:aK)(e:Nat):Nat→List bB→List bS
 |_,[]=>[]
 |i,s::t=>sel (F2 l x s i == []) (AT l x e (i+1) t) (⟨e,i,F2 l x s i⟩::AT l x e (i+1) t)
def sR(l:Lex):Nat→List aK→List bS
 |_,[]=>[]
 |e,x::t=>AT l x e 0 (match AO l x.cls with | some c=>c.slots.l | none=>[])++sR l (e+1) t
def vB(l:Lex):List bS:=sR l 0 l.entries.l
theorem K9(l:Lex)(x:aK)(e:Nat):∀ (t:List bB) (i:Nat),(AT l x e i t).length≤t.length
 |[],_=>Nat.le_refl _
 |s::t,i=>by
  have h1:=K9 l x e t (i+1)
  rw [AT]
  cases (F2 l x s i == [])<;>simp only [sel,List.length_cons]<;>omega
theorem Pv{l:Lex}(hk:eE l=0):∀ (t:List aK) (e:Nat),(∀ x∈t,∃ c,DZ l x c)→(sR l e t).length≤24*t.length
 |[],_,_=>Nat.le_refl _
 |x::t,e,h=>by
  obtain ⟨c,hc⟩:=h x (by simp)
  have h1:=Pv hk t (e+1) fun y hy=>h y (List.mem_cons_of_mem _ hy)
  have h2:=K9 l x e c.slots.l 0
  have h3:=MK hk hc
  rw [sR,hc.cls,List.length_append,List.length_cons]
  simp only;omega
theorem La{l:Lex}(hk:eE l=0):(vB l).length≤3072:=by
 have h1:=Pv hk l.entries.l 0 (Vp hk)
 have h2:=Pt hk
 unfold vB;omega
theorem WD(hN:dW E)(hW:WdE M)(hE:jH E)(hS:SpE E)(hX:qy M)(hY:Ib M)(hB:ra E)(hF:u4 E){l:Lex}(hl:l.ok 0)(hk:eE l=0){e:Nat}{x:aK}(hx:l.entries.l[e]?=some x){c:a8}(hc:DZ l x c){e2 N:Int}
  {H H0:List ab}{p:Nat}{T:TypeId} (hp:H[p]?=some (.cells l.row T)) (k:List Fra):∀ (n i:Nat) (o:List bS) (He:List ab),i+n=c.slots.l.length→o.length+n≤10000→c.slots.l.length≤1000 →
  M.go b9 H0 (.c eu :: .lp ⟨(some [1,3,4,10,11,16,17]),[(3,3,dC)],false⟩ eu He :: .blk 2 :: .c (.lv [1,3,10,11])::k) (kv [(1,.ptr p 0),(3,.slice (.own H.length) 3 (o.map bS.row)),(4,.int .i64 e),(10,.int .i64 N),(11,.int .i64 e2),(16,.int .i64 c.slots.l.length),(17,.int .i64 i)]) (H++[.tok (o.length*3) dC]) =
   M.go b9 H0 k (kv [(1,.ptr p 0),(3,.slice (.own H.length) 3 ((o++AT l x e i (c.slots.l.drop i)).map bS.row)),(10,.int .i64 N),(11,.int .i64 e2)]) (H++[.tok ((o++AT l x e i (c.slots.l.drop i)).length*3) dC])
 |0,i,o,He,h,ho,hcl=>by
  have e:i=c.slots.l.length:=by omega
  subst e
  rw [List.drop_length,AT,List.append_nil]
  rw [aw M eu.eq_1]
  simp (maxSteps:=3000000) (maxDischargeDepth:=6) +contextual -implicitDefEqProofs only [amA M,amB,↓aj,↓ae,↓al,↓ak,Nat.reduceBEq,Nat.reduceAdd,env,ao,fj,Nat.lt_irrefl]
 |n+1,i,o,He,h,ho,hcl=>by
  have hi:i<c.slots.l.length:=by omega
  have hs:c.slots.l[i]?=some c.slots.l[i]:=List.getElem?_eq_getElem hi
  have hd:c.slots.l.drop i=c.slots.l[i]::c.slots.l.drop (i+1):=List.drop_eq_getElem_cons hi
  have hf:=fun H=>Uk M hN hW hE hS hX hY hB hF hl hk (VY hk (e:=(e:Int)) (by omega) (by simpa using hx) hc hs) H
  have hp':=fun L=>dE (L:=L) hp
  have hws:=de hi (show c.slots.l.length≤bE by simp only [bE];omega)
  rw [hd,AT]
  generalize F2 l x c.slots.l[i] i=w at hf
  cases hw:w == [] with
  |true=>
   have ih:=fun He=>WD hN hW hE hS hX hY hB hF hl hk hx hc (e2:=e2) (N:=N) (H0:=H0) hp k n (i+1) o He (by omega) (by omega) hcl
   simp only [kv_cons,kv_nil,sel] at ih ⊢
   rw [aw M eu.eq_1]
   simp (maxSteps:=3000000) (maxDischargeDepth:=6) +contextual -implicitDefEqProofs only [amA M,amB,↓aj,↓ae,↓al,↓ak,Nat.reduceBEq,Nat.reduceAdd,env,ao,fj,amG,AV.cell,Nat.reduceMul,Nat.reduceLeDiff,hi,hf,hw,bne,hp',ih,hws,dZ]
  |false=>
   have ap:=Tz (row:=bS.row) (l:=o) (x:=⟨e,i,w⟩) (r:=bS.row ⟨e,i,w⟩) (sz:=3) (bytes:=32) (e:=dC) H rfl rfl rfl (by omega) (by omega)
   have ih:=fun He=>WD hN hW hE hS hX hY hB hF hl hk hx hc (e2:=e2) (N:=N) (H0:=H0) hp k n (i+1) (o++[⟨e,i,w⟩]) He (by omega) (by simp;omega) hcl
   simp only [bS.row] at ap
   simp only [kv_cons,kv_nil,sel,List.append_assoc,List.cons_append,List.nil_append] at ih ⊢
   rw [aw M eu.eq_1]
   simp (maxSteps:=3000000) (maxDischargeDepth:=6) +contextual -implicitDefEqProofs only [amA M,amB,↓aj,↓ae,↓al,↓ak,Nat.reduceBEq,Nat.reduceAdd,env,ao,fj,amG,AV.cell,Nat.reduceMul,Nat.reduceLeDiff,hi,hf,hw,bne,hp',ap,ih,hws,dZ]
theorem Xe(hN:dW E)(hW:WdE M)(hE:jH E)(hS:SpE E)(hX:qy M)(hY:Ib M)(hB:ra E)(hF:u4 E){l:Lex}(hl:l.ok 0)(hk:eE l=0)
  {H H0:List ab}{p:Nat}{T:TypeId} (hp:H[p]?=some (.cells l.row T)) (k:List Fra):∀ (n i:Nat) (o:List bS) (He:List ab),i+n=l.entries.l.length→o.length+24*n≤9000 →
  M.go b9 H0 (.c fL :: .lp ⟨(some [1,3,10,11]),[(3,3,dC)],false⟩ fL He :: .blk 0 :: .c (.lv [3])::k) (kv [(1,.ptr p 0),(3,.slice (.own H.length) 3 (o.map bS.row)),(10,.int .i64 l.entries.l.length),(11,.int .i64 i)]) (H++[.tok (o.length*3) dC]) =
   M.go b9 H0 k (kv [(3,.slice (.own H.length) 3 ((o++sR l i (l.entries.l.drop i)).map bS.row))]) (H++[.tok ((o++sR l i (l.entries.l.drop i)).length*3) dC])
 |0,i,o,He,h,ho=>by
  have e:i=l.entries.l.length:=by omega
  subst e
  rw [List.drop_length,sR,List.append_nil]
  rw [aw M fL.eq_1]
  simp (maxSteps:=3000000) (maxDischargeDepth:=6) +contextual -implicitDefEqProofs only [amA M,amB,↓aj,↓ae,↓al,↓ak,Nat.reduceBEq,Nat.reduceAdd,env,ao,fj,Nat.lt_irrefl]
 |n+1,i,o,He,h,ho=>by
  have hi:i<l.entries.l.length:=by omega
  have hx:l.entries.l[i]?=some l.entries.l[i]:=List.getElem?_eq_getElem hi
  have hd:l.entries.l.drop i=l.entries.l[i]::l.entries.l.drop (i+1):=List.drop_eq_getElem_cons hi
  generalize l.entries.l[i]=x at hx hd
  obtain ⟨c,hc⟩:=QF hk hx
  have hsl:=MK hk hc
  have hp':=fun L=>dE (L:=L) hp
  have hss:=fun H=>SB M hW hE hF hl (e:=(i:Int)) (by omega) (by simpa using hx) hc H
  have hws:=de hi hl.entries.len
  rw [hd,sR,hc.cls]
  have hgl:=K9 l x i c.slots.l 0
  have ih:=fun He=>Xe hN hW hE hS hX hY hB hF hl hk (H0:=H0) hp k n (i+1) (o++AT l x i 0 c.slots.l) He (by omega) (by simp only [List.length_append];omega)
  have hin:=fun k He=>WD M hN hW hE hS hX hY hB hF hl hk hx hc (e2:=(i:Int)) (N:=l.entries.l.length) (H0:=H0) hp k c.slots.l.length 0 o He (by omega) (by omega) (by omega)
  simp only [kv_cons,kv_nil,Int.ofNat_zero,List.drop_zero,List.append_assoc] at ih hin ⊢
  rw [aw M fL.eq_1]
  simp (maxSteps:=3000000) (maxDischargeDepth:=6) +contextual -implicitDefEqProofs only [amA M,amB,↓aj,↓ae,↓al,↓ak,Nat.reduceBEq,Nat.reduceAdd,env,ao,fj,amG,AV.cell,Nat.reduceMul,Nat.reduceLeDiff,hi,hp',hss,hin,ih,hws,dZ]
theorem QP(hN:dW E)(hW:WdE M)(hE:jH E)(hS:SpE E)(hX:qy M)(hY:Ib M)(hB:ra E)(hF:u4 E)(hA:Ic E){l:Lex}(hl:l.ok 0)(hk:eE l=0)(H:List ab) :
  M.run lD [.agg l.row] H=some (.ret (.slice .any 3 ((vB l).map bS.row)),H):=by
 rw [a6 M hA.morph_language_shapes rfl (c:=lL) rfl,lL]
 have hel:=Pt hk
 have h1:=fun k He=>Xe M hN hW hE hS hX hY hB hF hl hk (H:=H++[.cells l.row aE]) (H0:=H) (p:=H.length) (T:=aE) (by rw [ej];rfl) k l.entries.l.length 0 [] He (by omega) (by simp;omega)
 simp only [kv_cons,kv_nil,Int.ofNat_zero,List.drop_zero,List.length_append,List.length_cons,List.length_nil,Nat.zero_add,Nat.reduceAdd,List.append_assoc,List.cons_append,List.nil_append,List.map_nil,Nat.zero_mul] at h1
 rw [vB]
 simp (maxSteps:=3000000) (maxDischargeDepth:=6) +contextual -implicitDefEqProofs only [amA M,amB,↓aj,↓ae,↓al,↓ak,Nat.reduceBEq,Nat.reduceAdd,env,ao,fj,amG,AV.cell,Nat.reduceMul,Nat.reduceLeDiff,h1,dZ,Hb,implies_true,cut_app]
end
section
attribute [local congr] aF ca bg aG aZ aL aH aA aC aM aN
variable{E:bt}(M:cK cU E)
def Hc(x:aK)(s:bB)(h:bS):Nat→List dH→List bw
 |_,[]=>[]
 |i,k::t=>sel (Ps x s k) (⟨⟨h.e,h.q,i⟩,h.w++k.glue⟩::Hc x s h (i+1) t) (Hc x s h (i+1) t)
def Lb(l:Lex)(h:bS):List bw:=
 match slF l h.e h.q,KX l h.e with
 |some s,some x=>Hc x s h 0 l.links.l
 |_,_=>[]
def sS(l:Lex):List bS→List bw
 |[]=>[]
 |h::t=>Lb l h++sS l t
theorem Lc(x:aK)(s:bB)(h:bS):∀ (t:List dH) (i:Nat),(Hc x s h i t).length≤t.length
 |[],_=>Nat.le_refl _
 |k::t,i=>by
  have h1:=Lc x s h t (i+1)
  rw [Hc]
  cases Ps x s k<;>simp only [sel,List.length_cons]<;>omega
theorem Ie{l:Lex}(hk:eE l=0):l.links.l.length≤8:=by
 have:=(jR (tH hk).2.2.2).1
 omega
theorem Un{l:Lex}(hk:eE l=0)(h:bS):(Lb l h).length≤8:=by
 have h2:=Ie hk
 unfold Lb
 split
 ·rename_i s x _ _;have:=Lc x s h l.links.l 0;omega
 ·simp
theorem Ld{l:Lex}(hk:eE l=0):∀ (t:List bS),(sS l t).length≤8*t.length
 |[]=>Nat.le_refl _
 |h::t=>by
  have h1:=Ld hk t
  have h2:=Un hk h
  rw [sS,List.length_append,List.length_cons];omega
theorem Uo{H0:List ab}(n m:Nat)(T:TypeId)(x y:ab)(L:List ab):dL (H0++[.tok n T,x,y]) (H0++(.tok m T::x::y::L)):=⟨by simp,fun i z hi hz=>by
 rw [List.length_append] at hi
 by_cases h:i<H0.length
 ·rw [List.getElem?_append_left h] at hz ⊢;exact .inl hz
 ·by_cases h2:i=H0.length
  ·subst h2
   rw [ej] at hz
   obtain rfl:=Option.some.inj hz
   exact .inr trivial
  ·by_cases h3:i=H0.length+1
   ·subst h3
    rw [hp_getk] at hz ⊢
    exact .inl hz
   ·obtain rfl:i=H0.length+2:=by simp at hi;omega
    rw [hp_getk] at hz ⊢
    exact .inl hz⟩
theorem MM(H0:List ab)(z x y:ab)(L:List ab):(H0++(z::x::y::L)).take (H0.length+3)=H0++[z,x,y]:=by
 rw [show H0++(z::x::y::L)=(H0++[z,x,y])++L by simp,show H0.length+3=(H0++[z,x,y]).length by simp,List.take_left]
def Lg(l:Lex)(h:bS):Prop:=(∃ x c s,At l h.e h.q x c s)∧h.w.length≤24
theorem WE(hE:jH E)(hU:AS E){srt:List au→List au}(hO:Fl M srt)(hP:Srt srt)(hF:u4 E)(hV:Pq E){l:Lex}(hl:l.ok 0)(hk:eE l=0){h:bS}(hw:h.w.length≤24){x:aK}{c:a8}{s:bB}(hA:At l h.e h.q x c s){fs:List bS}{tf:Tag}(hfw:qa 0 tf){e2:Int}
  {H H0:List ab}{p:Nat}{T:TypeId} (hp:H[p]?=some (.cells l.row T)) (k:List Fra):∀ (n i:Nat) (o:List bw) (He:List ab),He=H++[.tok (o.length*4) dk,.cells h.row dC,.cells s.row bH]→i+n=l.links.l.length→o.length+n≤100000 →
  M.go bP H0 (.c dS :: .lp ⟨(some [2,5,7,8,12,13,14,29,30,31]),[(5,4,dk)],true⟩ dS He :: .blk 2 :: .c (.lv [2,5,12,13,14])::k) (kv [(2,.ptr p 0),(5,.slice (.own H.length) 4 (o.map bw.row)),(7,.ptr (H.length+1) 0),(8,.ptr (H.length+2) 0),(12,.slice tf 3 (fs.map bS.row)),(13,.int .i64 fs.length),(14,.int .i64 e2),(29,.slice l.links.tag 3 (l.links.l.map dH.row)),(30,.int .i64 l.links.l.length),(31,.int .i64 i)]) (H++[.tok (o.length*4) dk,.cells h.row dC,.cells s.row bH]) =
   M.go bP H0 k (kv [(2,.ptr p 0),(5,.slice (.own H.length) 4 ((o++Hc x s h i (l.links.l.drop i)).map bw.row)),(12,.slice tf 3 (fs.map bS.row)),(13,.int .i64 fs.length),(14,.int .i64 e2)]) (H++[.tok ((o++Hc x s h i (l.links.l.drop i)).length*4) dk,.cells h.row dC,.cells s.row bH])
 |0,i,o,He,hHe,hi0,ho=>by
  have e:i=l.links.l.length:=by omega
  subst e
  rw [List.drop_length,Hc,List.append_nil]
  rw [aw M dS.eq_1]
  simp (maxSteps:=3000000) (maxDischargeDepth:=6) +contextual -implicitDefEqProofs only [amA M,amB,↓aj,↓ae,↓al,↓ak,Nat.reduceBEq,Nat.reduceAdd,env,ao,ew,Nat.lt_irrefl]
 |n+1,i,o,He,hHe,hi0,ho=>by
  subst hHe
  have hi:i<l.links.l.length:=by omega
  have hkx:l.links.l[i]?=some l.links.l[i]:=List.getElem?_eq_getElem hi
  have hkm:l.links.l[i]∈l.links.l:=List.getElem_mem hi
  have hd:l.links.l.drop i=l.links.l[i]::l.links.l.drop (i+1):=List.drop_eq_getElem_cons hi
  generalize l.links.l[i]=kk at hkx hkm hd
  have hgl:=Um hk hkm
  have hop:=fun H=>SC M hE hU hO hP hF hV hA (hl.links.all kk hkm) H
  have hp':=fun L=>dE (L:=L) hp
  have hpl:=(List.getElem?_eq_some_iff.1 hp).1
  have w1:Wk (H.length+3) (.ptr p 0) (.ptr p 0):=wk_ptr (by omega)
  have w2:Wk (H.length+3) (.slice tf 3 (fs.map bS.row)) (.slice tf 3 (fs.map bS.row)):=wk_slice (hfw.mono (Nat.zero_le _)) (tS Hb _ fs)
  have w3:Wk (H.length+3) (.slice l.links.tag 3 (l.links.l.map dH.row)) (.slice l.links.tag 3 (l.links.l.map dH.row)):=(hl.links.mono (Nat.zero_le _) (fun _ h=>h.mono (Nat.zero_le _))).wk (fun _ h=>h.wk)
  have w4:=fun o:List bw=>wk_slice (n:=H.length+3) (esz:=4) (tag:=.own H.length) (show H.length<H.length+3 by omega) (tS Jw _ o)
  have w5:Wk (H.length+3) (.ptr (H.length+1) 0) (.ptr (H.length+1) 0):=wk_ptr (by omega)
  have w6:Wk (H.length+3) (.ptr (H.length+2) 0) (.ptr (H.length+2) 0):=wk_ptr (by omega)
  have hws:=de hi (show l.links.l.length≤bE by have:=Ie hk;simp only [bE];omega)
  have hcc:=fun m L=>Uo (H0:=H) (o.length*4) m dk (.cells h.row dC) (.cells s.row bH) L
  rw [hd,Hc]
  cases hb:Ps x s kk with
  |false=>
   have ih:=WE hE hU hO hP hF hV hl hk hw hA (fs:=fs) hfw (e2:=e2) (H0:=H0) hp k n (i+1) o _ rfl (by omega) (by omega)
   rw [hb] at hop
   simp only [kv_cons,kv_nil,sel] at ih ⊢
   rw [aw M dS.eq_1]
   simp (maxSteps:=3000000) (maxDischargeDepth:=6) +contextual -implicitDefEqProofs only [amA M,amB,↓aj,↓ae,↓al,↓ak,Nat.reduceBEq,Nat.reduceAdd,env,ao,ew,amG,AV.cell,Nat.reduceMul,Nat.reduceLeDiff,hi,hkx,hop,hp',ih,w1,w2,w3,w4,w5,w6,hcc,MM,hws,bp hi,dZ,Fb,o4,ML]
  |true=>
   have ap:=fun L=>Jv (row:=bw.row) (l:=o) (x:=⟨⟨h.e,h.q,i⟩,h.w++kk.glue⟩) (r:=bw.row ⟨⟨h.e,h.q,i⟩,h.w++kk.glue⟩) (sz:=4) (bytes:=40) (e:=dk) H L rfl rfl rfl (by omega) (by omega)
   have ih:=WE hE hU hO hP hF hV hl hk hw hA (fs:=fs) hfw (e2:=e2) (H0:=H0) hp k n (i+1) (o++[⟨⟨h.e,h.q,i⟩,h.w++kk.glue⟩]) _ rfl (by omega) (by simp;omega)
   rw [hb] at hop
   simp only [bw.row,aQ.row,List.cons_append,List.nil_append] at ap
   simp only [kv_cons,kv_nil,sel,List.append_assoc,List.cons_append,List.nil_append] at ih ⊢
   rw [aw M dS.eq_1]
   simp (maxSteps:=3000000) (maxDischargeDepth:=6) +contextual -implicitDefEqProofs only [amA M,amB,↓aj,↓ae,↓al,↓ak,Nat.reduceBEq,Nat.reduceAdd,env,ao,ew,amG,AV.cell,Nat.reduceMul,Nat.reduceLeDiff,hi,hkx,hop,hp',ap,ih,w1,w2,w3,w4,w5,w6,hcc,MM,hws,vA (s:=h.w) (t:=kk.glue) (by omega),bp hi,dZ,Fb,o4,ML]
end
section
attribute [local congr] aF ca bg aG aZ aL aH aA aC aM aN
variable{E:bt}(M:cK cU E)
theorem Xf(hW:WdE M)(hE:jH E)(hU:AS E){srt:List au→List au}(hO:Fl M srt)(hP:Srt srt)(hF:u4 E)(hV:Pq E){l:Lex}(hl:l.ok 0)(hk:eE l=0){fs:List bS}(hfs:∀ h∈fs,Lg l h)(hfl:fs.length≤3072){tf:Tag}(hfw:qa 0 tf)
  {H H0:List ab}{p:Nat}{T:TypeId} (hp:H[p]?=some (.cells l.row T)) (k:List Fra):∀ (n i:Nat) (o:List bw) (He:List ab),He=H++[.tok (o.length*4) dk]→i+n=fs.length→o.length+8*n≤90000 →
  M.go bP H0 (.c fe :: .lp ⟨(some [2,5,12,13,14]),[(5,4,dk)],true⟩ fe He :: .blk 0 :: .c (.lv [5])::k) (kv [(2,.ptr p 0),(5,.slice (.own H.length) 4 (o.map bw.row)),(12,.slice tf 3 (fs.map bS.row)),(13,.int .i64 fs.length),(14,.int .i64 i)]) (H++[.tok (o.length*4) dk]) =
   M.go bP H0 k (kv [(5,.slice (.own H.length) 4 ((o++sS l (fs.drop i)).map bw.row))]) (H++[.tok ((o++sS l (fs.drop i)).length*4) dk])
 |0,i,o,He,hHe,hi0,ho=>by
  have e:i=fs.length:=by omega
  subst e
  rw [List.drop_length,sS,List.append_nil]
  rw [aw M fe.eq_1]
  simp (maxSteps:=3000000) (maxDischargeDepth:=6) +contextual -implicitDefEqProofs only [amA M,amB,↓aj,↓ae,↓al,↓ak,Nat.reduceBEq,Nat.reduceAdd,env,ao,ew,Nat.lt_irrefl]
 |n+1,i,o,He,hHe,hi0,ho=>by
  subst hHe
  have hi:i<fs.length:=by omega
  have hx0:fs[i]?=some fs[i]:=List.getElem?_eq_getElem hi
  have hm0:fs[i]∈fs:=List.getElem_mem hi
  have hd:fs.drop i=fs[i]::fs.drop (i+1):=List.drop_eq_getElem_cons hi
  generalize fs[i]=h at hx0 hm0 hd
  obtain ⟨⟨x,c,s,hA⟩,hw⟩:=hfs h hm0
  have hsl:=fun H=>Pd M hW hE hF hl h.e h.q H
  simp only [hA.sl hk,Option.getD_some,Option.isSome_some] at hsl
  have hp':=fun L=>dE (L:=L) hp
  have hpl:=(List.getElem?_eq_some_iff.1 hp).1
  have w1:Wk (H.length+1) (.ptr p 0) (.ptr p 0):=wk_ptr (by omega)
  have w2:Wk (H.length+1) (.slice tf 3 (fs.map bS.row)) (.slice tf 3 (fs.map bS.row)):=wk_slice (hfw.mono (Nat.zero_le _)) (tS Hb _ fs)
  have w4:=fun o:List bw=>wk_slice (n:=H.length+1) (esz:=4) (tag:=.own H.length) (show H.length<H.length+1 by omega) (tS Jw _ o)
  have hws:=de hi (show fs.length≤bE by simp only [bE];omega)
  have e1:Lb l h=Hc x s h 0 l.links.l:=by simp only [Lb,hA.sl hk,hA.ent']
  rw [hd,sS,e1]
  have hl8:=Ie hk
  have hol:=Lc x s h l.links.l 0
  have ih:=Xf hW hE hU hO hP hF hV hl hk hfs hfl hfw (H0:=H0) hp k n (i+1) (o++Hc x s h 0 l.links.l) _ rfl (by omega) (by simp only [List.length_append];omega)
  have hin:=fun k=>WE M hE hU hO hP hF hV hl hk hw hA (fs:=fs) hfw (e2:=(i:Int)) (H0:=H0) hp k l.links.l.length 0 o _ rfl (by omega) (by omega)
  simp only [kv_cons,kv_nil,Int.ofNat_zero,List.drop_zero,List.append_assoc] at ih hin ⊢
  rw [aw M fe.eq_1]
  simp (maxSteps:=3000000) (maxDischargeDepth:=6) +contextual -implicitDefEqProofs only [amA M,amB,↓aj,↓ae,↓al,↓ak,Nat.reduceBEq,Nat.reduceAdd,env,ao,ew,amG,AV.cell,Nat.reduceMul,Nat.reduceLeDiff,hi,hx0,hsl,hp',hin,ih,w1,w2,w4,yw,uw,hws,bp hi,dZ,Fb,o4,ML]
theorem NO(hW:WdE M)(hE:jH E)(hU:AS E){srt:List au→List au}(hO:Fl M srt)(hP:Srt srt)(hF:u4 E)(hV:Pq E)(hA:Ic E){l:Lex}(hl:l.ok 0)(hk:eE l=0){fs:List bS}(hfs:∀ h∈fs,Lg l h)(hfl:fs.length≤3072){tf:Tag}(hfw:qa 0 tf)(H:List ab) :
  M.run kp [.agg l.row,.slice tf 3 (fs.map bS.row)] H=some (.ret (.slice .any 4 ((sS l fs).map bw.row)),H):=by
 rw [a6 M hA.morph_language_openings rfl (c:=kq) rfl,kq]
 have h1:=fun k=>Xf M hW hE hU hO hP hF hV hl hk hfs hfl hfw (H:=H++[.cells l.row aE]) (H0:=H) (p:=H.length) (T:=aE) (by rw [ej];rfl) k fs.length 0 [] _ rfl (by omega) (by simp;omega)
 simp only [kv_cons,kv_nil,Int.ofNat_zero,List.drop_zero,List.length_append,List.length_cons,List.length_nil,Nat.zero_add,Nat.reduceAdd,List.append_assoc,List.cons_append,List.nil_append,List.map_nil,Nat.zero_mul] at h1
 simp (maxSteps:=3000000) (maxDischargeDepth:=6) +contextual -implicitDefEqProofs only [amA M,amB,↓aj,↓ae,↓al,↓ak,Nat.reduceBEq,Nat.reduceAdd,env,ao,ew,amG,AV.cell,Nat.reduceMul,Nat.reduceLeDiff,h1,dZ,Jw,implies_true,cut_app]
theorem Rs{l:Lex}(hk:eE l=0){e:Nat}{x:aK}{c:a8}(hx:l.entries.l[e]?=some x)(hc:DZ l x c):∀ (t:List bB) (i:Nat),(∀ (j:Nat) (s:bB),t[j]?=some s→c.slots.l[i+j]?=some s)→∀ h∈AT l x e i t,Lg l h
 |[],_,_,h,hm=>by cases hm
 |s::t,i,ht,h,hm=>by
  have h0:=ht 0 s rfl
  have hA:At l (e:Int) (i:Int) x c s:=VY hk (by omega) (by simpa using hx) hc (by simpa using h0)
  have ih:=Rs hk hx hc t (i+1) fun j s hj=>by have:=ht (j+1) s (by simpa using hj);rwa [show i+1+j=i+(j+1) by omega]
  rw [AT] at hm
  cases hw:F2 l x s i == [] with
  |true=>rw [hw] at hm;exact ih h hm
  |false=>
   rw [hw] at hm
   rcases List.mem_cons.1 hm with rfl | hm
   ·exact ⟨⟨x,c,s,hA⟩,Vn hc s i⟩
   ·exact ih h hm
theorem Rt{l:Lex}(hk:eE l=0):∀ (t:List aK) (e:Nat),(∀ (j:Nat) (x:aK),t[j]?=some x→l.entries.l[e+j]?=some x)→∀ h∈sR l e t,Lg l h
 |[],_,_,h,hm=>by cases hm
 |x::t,e,ht,h,hm=>by
  have h0:l.entries.l[e]?=some x:=ht 0 x rfl
  obtain ⟨c,hc⟩:=QF hk h0
  have ih:=Rt hk t (e+1) fun j s hj=>by have:=ht (j+1) s (by simpa using hj);rwa [show e+1+j=e+(j+1) by omega]
  rw [sR,hc.cls] at hm
  rcases List.mem_append.1 hm with hm | hm
  ·exact Rs hk h0 hc c.slots.l 0 (fun j s hj=>by rwa [Nat.zero_add]) h hm
  ·exact ih h hm
theorem Vt{l:Lex}(hk:eE l=0):∀ h∈vB l,Lg l h:=Rt hk l.entries.l 0 fun j x hj=>by rwa [Nat.zero_add]
end
end Go.Am
