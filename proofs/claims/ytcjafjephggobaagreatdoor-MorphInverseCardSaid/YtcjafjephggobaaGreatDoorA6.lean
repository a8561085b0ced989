import Derived.Test.YtcjafjephggobaaGreatDoorA5
import Derived.Lib.Bytealg
/-
  Part 6 of the tool: an abstract machine over the model, proved sound, and what it says of the functions that the law reaches. Condition: none but those that each theorem names.
-/
set_option linter.unusedVariables false
set_option linter.unusedSimpArgs false
set_option maxRecDepth 100000
set_option maxHeartbeats 4000000
namespace Go.Am
open Go.RowKit
section
attribute [local congr] aF cu bm aG a7 aR aH aA aC aS aT
variable{E:bC}(M:cT cY E)
def Wn(l:Lex):Prop:=∀ c∈l.classes.l,∀ s∈c.slots.l,s.feats.l.length≤8∧zq s.feats.l=true
theorem Ud{l:Lex}(h:F7 l=0):Wn l:=fun c hc s hs=>by
 obtain ⟨k,hk⟩:=List.getElem?_of_mem hc
 have h1:=(je h).2 k c hk
 unfold F6 at h1
 revert h1
 cases (!KM c.name) with
 |true=>intro h;simp [sel] at h
 |false=>
  cases (List.any _ _) with
  |true=>intro h;simp [sel] at h
  |false=>
   cases (decide ((24:Int)<(c.slots.l.length:Int))) with
   |true=>intro h;simp [sel] at h
   |false=>
    cases ((c.slots.l.length:Int) == 0) with
    |true=>intro h;simp [sel] at h
    |false=>
     intro h1
     obtain ⟨j,hj⟩:=List.getElem?_of_mem hs
     have h2:=(je h1).2 j s hj
     unfold I0 at h2
     revert h2
     cases (decide (s.cut<0)||decide (24<s.cut) || !pz lC s.pre || !pz lC s.add) with
     |true=>intro h;simp [sel] at h
     |false=>intro h;exact bundle_ok h
end
section
attribute [local congr] aF cu bm aG a7 aR aH aA aC aS aT
variable{E:bC}(M:cT cY E)
def M0(p:UInt8):Str→Bool
 |[]=>true
 |c::t => !decide ((c.toNat:Int)≤(p.toNat:Int))&&M0 c t
def WZ:Str→Bool
 |[]=>true
 |c::t=>M0 c t
theorem SR{α:Type}{b l:List α}{i:Nat}{x:α}(hd:b.drop (i+1)=x::l):b[i+1]?=some x∧b.drop (i+1+1)=l:=by
 constructor
 ·have:=List.getElem?_drop (xs:=b) (i:=i+1) (j:=0)
  rw [hd] at this;simpa using this.symm
 ·have:(b.drop (i+1)).drop 1=l:=by rw [hd];rfl
  rwa [List.drop_drop] at this
theorem Pm(v:Str):∀ (t:Str) (i:Nat) (p:UInt8),v[i]?=some p→v.drop (i+1)=t→BX (fun i c=>sel (SL v i c) 1 0) (i+1) t=sel (t.all lC&&M0 p t) 0 1
 |[],_,_,_,_=>rfl
 |c::t,i,p,h,hd=>by
  obtain ⟨h2,hd2⟩:=SR hd
  rw [BX,Pm v t (i+1) c h2 hd2,MX h,List.all_cons,M0]
  cases lC c<;>cases decide ((c.toNat:Int)≤(p.toNat:Int))<;>cases t.all lC<;>cases M0 c t<;>rfl
theorem VG(l:Lex):Ua l=sel (ofF [] l.vowels) (sel (WZ l.vowels) 0 1) 1:=by
 rw [Ua,Rz]
 cases hv:l.vowels with
 |nil=>rfl
 |cons c t=>
  rw [BX,Pm (c::t) t 0 c rfl rfl,MW,List.all_cons,WZ]
  cases lC c<;>cases t.all lC<;>cases M0 c t<;>rfl
theorem Ue(s:Str):ofF [43] s=s.all ku:=by
 unfold ofF
 congr 1;funext c
 simp only [List.any_cons,List.any_nil,Bool.or_false,ku]
 congr 1
 rw [Bool.eq_iff_iff];simp;omega
theorem Uf(s:Str):ofF [43,35,86,67] s=s.all IZ:=by
 unfold ofF
 congr 1;funext c
 simp only [List.any_cons,List.any_nil,Bool.or_false,IZ,ku,Bool.or_assoc]
 congr 1
 rw [Bool.eq_iff_iff];simp;omega
theorem En(p:UInt8→Bool)(s:Str):pz p s=(!decide ((6:Int)<(s.length:Int))&&s.all p):=by
 unfold pz;congr 1;rw [Bool.eq_iff_iff];simp
theorem Ug(x:bA):B1 x=sel (x.frm == []||(!ofF [43] x.frm||(!ofF [43] x.to||(!ofF [43,35,86,67] x.left || !ofF [43,35,86,67] x.right)))) 1
  (sel (decide ((6:Int)<(x.frm.length:Int))||(decide ((6:Int)<(x.to.length:Int))||(decide ((6:Int)<(x.left.length:Int))||decide ((6:Int)<(x.right.length:Int))))) 1 0):=by
 rw [B1,Ue,Ue,Uf,Uf,En,En,En,En]
 cases x.frm == []<;>cases x.frm.all ku<;>cases x.to.all ku<;>cases x.left.all IZ<;>cases x.right.all IZ<;>cases decide ((6:Int)<(x.frm.length:Int))<;>cases decide ((6:Int)<(x.to.length:Int))<;>cases decide ((6:Int)<(x.left.length:Int))<;>cases decide ((6:Int)<(x.right.length:Int))<;>rfl
end
section
attribute [local congr] aF cu bm aG a7 aR aH aA aC aS aT
variable{E:bC}(M:cT cY E)
theorem XA(e:Int)(i:Nat)(l:List Int):BX (fun _ e=>e) i (e::l)=sel (!(e == 0)) e (BX (fun _ e=>e) (i+1) l):=rfl
theorem XB(i:Nat):BX (fun _ (e:Int)=>e) i []=0:=rfl
end
section
attribute [local congr] aF cu bm aG a7 aR aH aA aC aS aT
variable{E:bC}(M:cT cY E)
abbrev w64(n:Int):Int:=IntKind.i64.wrap n
theorem Pn{H L:List ae}{k k':IntKind}{a b:Int}{T T':TypeId}(L2:List ae):dM (H++(.cells [.int k a] T::L)) (H++(.cells [.int k' b] T'::(L++L2))):=
 ⟨by simp,fun i x hi hx=>by
  rcases Nat.lt_trichotomy i H.length with h | h | h
  ·left;rw [List.getElem?_append_left h] at hx ⊢;exact hx
  ·subst h;rw [dX] at hx;right
   obtain rfl:_=x:=by simpa using hx
   intro c hc
   simp only [List.mem_singleton] at hc
   subst hc;exact wk_int _ _ _
  ·left
   obtain ⟨j,rfl⟩:∃ j,i=H.length+(j+1):=⟨i-H.length-1,by omega⟩
   rw [hp_getk] at hx ⊢
   simp only [List.getElem?_cons_succ] at hx ⊢
   have:j<L.length:=by simp at hi;omega
   rwa [List.getElem?_append_left this] at hx⟩
theorem Io{H:List ae}{k k':IntKind}{a b:Int}{T T':TypeId}(L2:List ae):dM (H++[.cells [.int k a] T]) (H++(.cells [.int k' b] T'::L2)):=Pn (L:=[]) L2
theorem SS{H L:List ae}{k k':IntKind}{a b:Int}{T T':TypeId}:dM (H++(.cells [.int k a] T::L)) (H++(.cells [.int k' b] T'::L)):=by
 have:=Pn (H:=H) (L:=L) (k:=k) (k':=k') (a:=a) (b:=b) (T:=T) (T':=T') []
 rwa [List.append_nil] at this
theorem W0(H L:List ae)(y:ae):(H++(y::L)).take (H.length+(L.length+1))=H++(y::L):=List.take_of_length_le (by simp)
theorem QF(H L:List ae)(y:ae):(H++(y::L)).take (H.length+1)=H++[y]:=by
 rw [List.take_append];simp
 exact List.take_of_length_le (by omega)
def Uh(m:Int)(f:aq):Int:=w64 (m+w64 (w64 (1+(f.name.length:Int))+(f.value.length:Int)))
def Lb(m:Int)(b:List aq):Int:=w64 ((b.take 100).foldl Uh m+(b.length:Int))
theorem N1{n m:Nat}(h:m=min 100 n):(decide (m<n)&&decide ((m:Int)<100))=false:=by
 rw [Bool.eq_false_iff];simp;omega
theorem QG{i m n:Nat}(h:m=min 100 n)(hi:i<m):decide ((i:Int)<100)=true:=decide_eq_true (by omega)
theorem gr1{H H0:List ae}{L:List ae}{T:TypeId}{b Lf:List aq}(hM:Lf.length=min 100 b.length)(hL:∀ k,k<Lf.length→b[k]?=Lf[k]?){tg:Tag}(k:List Fra):∀ (n i:Nat) (m:Int) (He:List ae),i+n=Lf.length →
  M.go cO H0 (.c fQ :: .lp ⟨(some [0,1,3]),[],false⟩ fQ He :: .blk 0 :: .c (.lv [0,1])::k) (kv [(0,.slice tg 2 (b.map aq.row)),(1,.ptr H.length 0),(3,.int .i64 i)]) (H++(.cells [.int .i64 m] T::L)) =
   (M.go cO H0 k (kv [(0,.slice tg 2 (b.map aq.row)),(1,.ptr H.length 0)]) (H++(.cells [.int .i64 ((Lf.drop i).foldl Uh m)] T::L)))
 |0,i,m,He,h=>by
  have e:i=Lf.length:=by omega
  subst e
  rw [aw M fQ.eq_1]
  simp (maxSteps:=3000000) (maxDischargeDepth:=6) +contextual -implicitDefEqProofs only [amA M,amB,↓aj,↓ab,↓al,↓ak,Nat.reduceBEq,Nat.reduceAdd,env,ao,lT,Nat.lt_irrefl,List.drop_length,N1 hM,List.foldl_nil]
 |n+1,i,m,He,h=>by
  have hi:i<Lf.length:=by omega
  have hx:Lf[i]?=some Lf[i]:=List.getElem?_eq_getElem hi
  have hd:(Lf.drop i)=Lf[i]::Lf.drop (i+1):=List.drop_eq_getElem_cons hi
  have hm:Lf[i]∈Lf:=List.getElem_mem hi
  have ih:=fun m He=>gr1 (H:=H) (H0:=H0) (L:=L) (T:=T) (b:=b) (Lf:=Lf) (hM:=hM) (hL:=hL) (tg:=tg) k n (i+1) m He (by omega)
  simp only [kv_cons,kv_nil] at ih
  have hib:i<b.length:=by omega
  have hxb:=(hL i hi).trans hx
  rw [aw M fQ.eq_1]
  simp (maxSteps:=3000000) (maxDischargeDepth:=6) +contextual -implicitDefEqProofs only [amA M,amB,↓aj,↓ab,↓al,↓ak,Nat.reduceBEq,Nat.reduceAdd,env,ao,lT,hx,hd,hi,ih,amG,AV.cell,hib,hxb,QG hM hi,bo hib,yE,c6 (n:=100) (show i<100 by omega) (by simp [bD]),List.foldl_cons,Uh]
theorem F8(hg:E.fn gE=some cO){b:List aq}{tg:Tag}(H L:List ae)(m:Int)(T:TypeId) :
  M.run gE [.slice tg 2 (b.map aq.row),.ptr H.length 0] (H++(.cells [.int .i64 m] T::L))=some (.ret (.tuple []),H++(.cells [.int .i64 (Lb m b)] T::L)):=by
 rw [aY M hg rfl (c:=lS) rfl,lS]
 have h1:=fun k He=>gr1 M (H:=H) (H0:=H++(.cells [.int .i64 m] T::L)) (L:=L) (T:=T) (b:=b) (Lf:=b.take 100) (by simp) (La b 100) (tg:=tg) k (b.take 100).length 0 m He (by omega)
 simp only [kv_cons,kv_nil,Int.ofNat_zero,List.drop_zero] at h1
 simp (maxSteps:=3000000) (maxDischargeDepth:=6) +contextual -implicitDefEqProofs only [amA M,amB,↓aj,↓ab,↓al,↓ak,Nat.reduceBEq,Nat.reduceAdd,env,ao,lT,amG,AV.cell,Nat.reduceMul,Nat.reduceLeDiff,h1,SS,W0,wk_tuple,Lb,lr_row1,List.set_cons_zero]
end
section
attribute [local congr] aF cu bm aG a7 aR aH aA aC aS aT
variable{E:bC}(M:cT cY E)
structure F9 (E:bC):Prop where
 truchmanlaw02_Great_1:E.fn gE=some cO
 truchmanlaw02_Great:E.fn iG=some aM
abbrev sY(m:Int):ae:=.cells [.int .i64 m] Ad
abbrev zr(n:Nat):AV:=.fn (.func gE) [] [.ptr n 0]
def W1(m:Int)(s:Str):Int:=w64 (m+w64 (1+(s.length:Int)))
def QH(m:Int)(t:bG):Int:=w64 ((t.values.l.take 100).foldl W1 (w64 (m+w64 (1+(t.name.length:Int))))+(t.values.l.length:Int))
theorem gl0{H H0:List ae}{l:Lex}{p:Nat}{T:TypeId}(hp:H[p]?=some (.cells l.row T)){i0:Nat}{t:bG}(ht:l.traits.l[i0]?=some t){Lf:List Str}(hM:Lf.length=min 100 t.values.l.length)(hL:∀ k,k<Lf.length→t.values.l[k]?=Lf[k]?)(k:List Fra):∀ (n i:Nat) (m:Int) (He:List ae),i+n=Lf.length →
  M.go aM H0 (.c gG :: .lp ⟨(some [1,3,4,5,6]),[],false⟩ gG He :: .blk 2 :: .c (.lv [1,3,4,5])::k) (kv [(1,.ptr p 0),(3,.ptr H.length 0),(4,zr H.length),(5,.int .i64 i0),(6,.int .i64 i)]) (H++[sY m]) =
   (M.go aM H0 k (kv [(1,.ptr p 0),(3,.ptr H.length 0),(4,zr H.length),(5,.int .i64 i0)]) (H++[sY ((Lf.drop i).foldl W1 m)]))
 |0,i,m,He,h=>by
  have e:i=Lf.length:=by omega
  subst e
  rw [aw M gG.eq_1]
  simp (maxSteps:=3000000) (maxDischargeDepth:=6) +contextual -implicitDefEqProofs only [amA M,amB,↓aj,↓ab,↓al,↓ak,Nat.reduceBEq,Nat.reduceAdd,env,ao,bg,Nat.lt_irrefl,List.drop_length,N1 hM,List.foldl_nil,dj hp,cZ,bo (List.getElem?_eq_some_iff.1 ht).1,ht,uL]
 |n+1,i,m,He,h=>by
  have hi:i<Lf.length:=by omega
  have hx:Lf[i]?=some Lf[i]:=List.getElem?_eq_getElem hi
  have hd:(Lf.drop i)=Lf[i]::Lf.drop (i+1):=List.drop_eq_getElem_cons hi
  have hm:Lf[i]∈Lf:=List.getElem_mem hi
  have ih:=fun m He=>gl0 (H:=H) (H0:=H0) (l:=l) (p:=p) (T:=T) (hp:=hp) (i0:=i0) (t:=t) (ht:=ht) (Lf:=Lf) (hM:=hM) (hL:=hL) k n (i+1) m He (by omega)
  simp only [kv_cons,kv_nil] at ih
  have hib:i<t.values.l.length:=by omega
  have hxb:=(hL i hi).trans hx
  rw [aw M gG.eq_1]
  simp (maxSteps:=3000000) (maxDischargeDepth:=6) +contextual -implicitDefEqProofs only [amA M,amB,↓aj,↓ab,↓al,↓ak,Nat.reduceBEq,Nat.reduceAdd,env,ao,bg,hx,hd,hi,ih,amG,AV.cell,Nat.reduceMul,Nat.reduceLeDiff,dj hp,cZ,bo (List.getElem?_eq_some_iff.1 ht).1,ht,uL,TV,hib,hxb,QG hM hi,bo hib,c6 (n:=100) (show i<100 by omega) (by simp [bD]),List.foldl_cons,W1]
theorem gl1{H H0:List ae}{l:Lex}{n0:Nat}(hl:l.ok n0){p:Nat}{T:TypeId}(hp:H[p]?=some (.cells l.row T))(k:List Fra):∀ (n i:Nat) (m:Int) (He:List ae),i+n=(l.traits.l).length →
  M.go aM H0 (.c gH :: .lp ⟨(some [1,3,4,5]),[],false⟩ gH He :: .blk 0 :: .c (.lv [1,3,4])::k) (kv [(1,.ptr p 0),(3,.ptr H.length 0),(4,zr H.length),(5,.int .i64 i)]) (H++[sY m]) =
   (M.go aM H0 k (kv [(1,.ptr p 0),(3,.ptr H.length 0),(4,zr H.length)]) (H++[sY ((l.traits.l.drop i).foldl QH m)]))
 |0,i,m,He,h=>by
  have e:i=(l.traits.l).length:=by omega
  subst e
  rw [aw M gH.eq_1]
  simp (maxSteps:=3000000) (maxDischargeDepth:=6) +contextual -implicitDefEqProofs only [amA M,amB,↓aj,↓ab,↓al,↓ak,Nat.reduceBEq,Nat.reduceAdd,env,ao,bg,Nat.lt_irrefl,List.drop_length,List.foldl_nil,dj hp,cZ]
 |n+1,i,m,He,h=>by
  have hi:i<(l.traits.l).length:=by omega
  have hx:(l.traits.l)[i]?=some (l.traits.l)[i]:=List.getElem?_eq_getElem hi
  have hd:((l.traits.l).drop i)=(l.traits.l)[i]::(l.traits.l).drop (i+1):=List.drop_eq_getElem_cons hi
  have hm:(l.traits.l)[i]∈(l.traits.l):=List.getElem_mem hi
  have ih:=fun m He=>gl1 (H:=H) (H0:=H0) (l:=l) (n0:=n0) (hl:=hl) (p:=p) (T:=T) (hp:=hp) k n (i+1) m He (by omega)
  simp only [kv_cons,kv_nil] at ih
  have h0:=fun m k He=>gl0 M (H0:=H0) hp (i0:=i) hx (Lf:=l.traits.l[i].values.l.take 100) (by simp) (La _ 100) k (l.traits.l[i].values.l.take 100).length 0 m He (by omega)
  simp only [kv_cons,kv_nil,Int.ofNat_zero,List.drop_zero] at h0
  rw [aw M gH.eq_1]
  simp (maxSteps:=3000000) (maxDischargeDepth:=6) +contextual -implicitDefEqProofs only [amA M,amB,↓aj,↓ab,↓al,↓ak,Nat.reduceBEq,Nat.reduceAdd,env,ao,bg,hx,hd,hi,ih,amG,AV.cell,Nat.reduceMul,Nat.reduceLeDiff,dj hp,cZ,bo hi,uL,h0,c6 hi hl.traits.len,List.foldl_cons,QH]
def Ui(m:Int)(s:bt):Int:=Lb (w64 (m+w64 (w64 (1+(s.pre.length:Int))+(s.add.length:Int)))) s.feats.l
def Uj(c:aZ):Bool:=decide ((12:Int)<(c.slots.l.length:Int))&&decide ((c.slots.l.length:Int)≤24)||decide ((60:Int)<(c.slots.l.length:Int))
def QI(m:Int)(c:aZ):Int:=c.slots.l.foldl Ui (w64 (m+w64 (1+(c.name.length:Int))))
theorem gl2{H H0:List ae}(hg:F9 E){l:Lex}{n0:Nat}(hl:l.ok n0){p:Nat}{T:TypeId}(hp:H[p]?=some (.cells l.row T)){i0:Nat}{c:aZ}(hci:l.classes.l[i0]?=some c)(k:List Fra):∀ (n i:Nat) (m:Int),i+n=(c.slots.l).length →
  M.go aM H0 (.c gI :: .lp ⟨(some [1,3,4,7,8]),[],true⟩ gI (H++[sY m]) :: .blk 6 :: .c (.lv [1,3,4,7])::k) (kv [(1,.ptr p 0),(3,.ptr H.length 0),(4,zr H.length),(7,.int .i64 i0),(8,.int .i64 i)]) (H++[sY m]) =
   (M.go aM H0 k (kv [(1,.ptr p 0),(3,.ptr H.length 0),(4,zr H.length),(7,.int .i64 i0)]) (H++[sY ((c.slots.l.drop i).foldl Ui m)]))
 |0,i,m,h=>by
  have e:i=(c.slots.l).length:=by omega
  subst e
  rw [aw M gI.eq_1]
  simp (maxSteps:=3000000) (maxDischargeDepth:=6) +contextual -implicitDefEqProofs only [amA M,amB,↓aj,↓ab,↓al,↓ak,Nat.reduceBEq,Nat.reduceAdd,env,ao,bg,Nat.lt_irrefl,List.drop_length,List.foldl_nil,dj hp,cZ,bo (List.getElem?_eq_some_iff.1 hci).1,hci,ky]
 |n+1,i,m,h=>by
  have hi:i<(c.slots.l).length:=by omega
  have hx:(c.slots.l)[i]?=some (c.slots.l)[i]:=List.getElem?_eq_getElem hi
  have hd:((c.slots.l).drop i)=(c.slots.l)[i]::(c.slots.l).drop (i+1):=List.drop_eq_getElem_cons hi
  have hm:(c.slots.l)[i]∈(c.slots.l):=List.getElem_mem hi
  have ih:=fun m=>gl2 (H:=H) (H0:=H0) (hg:=hg) (l:=l) (n0:=n0) (hl:=hl) (p:=p) (T:=T) (hp:=hp) (i0:=i0) (c:=c) (hci:=hci) k n (i+1) m (by omega)
  simp only [kv_cons,kv_nil] at ih
  have hco:=hl.classes.all c (List.mem_of_getElem? hci)
  have hpl:=(List.getElem?_eq_some_iff.1 hp).1
  have w1:Wk (H.length+1) (.ptr p 0) (.ptr p 0):=wk_ptr (by omega)
  have w2:Wk (H.length+1) (.ptr H.length 0) (.ptr H.length 0):=wk_ptr (by omega)
  have w3:Wk (H.length+1) (zr H.length) (zr H.length):=wk_fn trivial ⟨wk_ptr (by omega),trivial⟩
  rw [aw M gI.eq_1]
  simp (maxSteps:=3000000) (maxDischargeDepth:=6) +contextual -implicitDefEqProofs only [amA M,amB,↓aj,↓ab,↓al,↓ak,Nat.reduceBEq,Nat.reduceAdd,env,ao,bg,hx,hd,hi,ih,amG,AV.cell,Nat.reduceMul,Nat.reduceLeDiff,dj hp,w1,w2,w3,Io,QF,cZ,bo (List.getElem?_eq_some_iff.1 hci).1,hci,ky,bo hi,jz,F8 M hg.truchmanlaw02_Great_1,c6 hi hco.slots.len,List.foldl_cons,Ui]
theorem gl3{H H0:List ae}(hg:F9 E){l:Lex}{n0:Nat}(hl:l.ok n0){p:Nat}{T:TypeId}(hp:H[p]?=some (.cells l.row T))(hc:dM H0 H)(k:List Fra):∀ (n i:Nat) (m:Int),i+n=(l.classes.l).length →
  M.go aM H0 (.c gJ :: .lp ⟨(some [1,3,4,7]),[],true⟩ gJ (H++[sY m]) :: .blk 4 :: .c (.lv [1,3,4])::k) (kv [(1,.ptr p 0),(3,.ptr H.length 0),(4,zr H.length),(7,.int .i64 i)]) (H++[sY m]) =
   sel ((l.classes.l.drop i).any Uj) (some (.ret (.bool true),H.take H0.length)) (M.go aM H0 k (kv [(1,.ptr p 0),(3,.ptr H.length 0),(4,zr H.length)]) (H++[sY ((l.classes.l.drop i).foldl QI m)]))
 |0,i,m,h=>by
  have e:i=(l.classes.l).length:=by omega
  subst e
  rw [aw M gJ.eq_1]
  simp (maxSteps:=3000000) (maxDischargeDepth:=6) +contextual -implicitDefEqProofs only [amA M,amB,↓aj,↓ab,↓al,↓ak,Nat.reduceBEq,Nat.reduceAdd,env,ao,bg,Nat.lt_irrefl,List.drop_length,List.foldl_nil,List.any_nil,dj hp,cZ]
 |n+1,i,m,h=>by
  have hi:i<(l.classes.l).length:=by omega
  have hx:(l.classes.l)[i]?=some (l.classes.l)[i]:=List.getElem?_eq_getElem hi
  have hd:((l.classes.l).drop i)=(l.classes.l)[i]::(l.classes.l).drop (i+1):=List.drop_eq_getElem_cons hi
  have hm:(l.classes.l)[i]∈(l.classes.l):=List.getElem_mem hi
  have ih:=fun m=>gl3 (H:=H) (H0:=H0) (hg:=hg) (l:=l) (n0:=n0) (hl:=hl) (p:=p) (T:=T) (hp:=hp) hc k n (i+1) m (by omega)
  simp only [kv_cons,kv_nil] at ih
  have hco:=hl.classes.all _ hm
  have hpl:=(List.getElem?_eq_some_iff.1 hp).1
  have w1:Wk (H.length+1) (.ptr p 0) (.ptr p 0):=wk_ptr (by omega)
  have w2:Wk (H.length+1) (.ptr H.length 0) (.ptr H.length 0):=wk_ptr (by omega)
  have w3:Wk (H.length+1) (zr H.length) (zr H.length):=wk_fn trivial ⟨wk_ptr (by omega),trivial⟩
  have h0:=fun m k=>gl2 M (H0:=H0) hg hl hp (i0:=i) hx k l.classes.l[i].slots.l.length 0 m (by omega)
  simp only [kv_cons,kv_nil,Int.ofNat_zero,List.drop_zero] at h0
  rw [aw M gJ.eq_1]
  simp (maxSteps:=3000000) (maxDischargeDepth:=6) +contextual -implicitDefEqProofs only [amA M,amB,↓aj,↓ab,↓al,↓ak,Nat.reduceBEq,Nat.reduceAdd,env,ao,bg,hx,hd,hi,ih,amG,AV.cell,Nat.reduceMul,Nat.reduceLeDiff,dj hp,w1,w2,w3,Io,QF,cZ,bo hi,ky,h0,c6 hi hl.classes.len,List.foldl_cons,List.any_cons,QI,Uj,hc]
  generalize (decide ((12:Int)<(l.classes.l[i].slots.l.length:Int))&&decide ((l.classes.l[i].slots.l.length:Int)≤24)||decide ((60:Int)<(l.classes.l[i].slots.l.length:Int)))=b
  cases b<;>simp only [slc,Bool.true_or,Bool.false_or]
end
section
attribute [local congr] aF cu bm aG a7 aR aH aA aC aS aT
variable{E:bC}(M:cT cY E)
def irN(m:Int)(f:bX):Int:=w64 (m+(f.word.length:Int))
def QJ(m:Int)(x:aK):Int:=(x.forms.l.take 100).foldl irN (Lb (w64 (m+w64 (w64 (w64 (1+(x.lem.length:Int))+(x.cls.length:Int))+(x.forms.l.length:Int)))) x.feats.l)
theorem gl4{H H0:List ae}{x:aK}{T2:TypeId}{p i0:Nat}{Lf:List bX}(hM:Lf.length=min 100 x.forms.l.length)(hL:∀ k,k<Lf.length→x.forms.l[k]?=Lf[k]?)(k:List Fra):∀ (n i:Nat) (m:Int) (He:List ae),i+n=Lf.length →
  M.go aM H0 (.c gK :: .lp ⟨(some [1,3,4,10,11,12]),[],false⟩ gK He :: .blk 10 :: .c (.lv [1,3,4,10])::k) (kv [(1,.ptr p 0),(3,.ptr H.length 0),(4,zr H.length),(10,.int .i64 i0),(11,.ptr (H.length+1) 0),(12,.int .i64 i)]) (H++[sY m,.cells x.row T2]) =
   (M.go aM H0 k (kv [(1,.ptr p 0),(3,.ptr H.length 0),(4,zr H.length),(10,.int .i64 i0)]) (H++[sY ((Lf.drop i).foldl irN m),.cells x.row T2]))
 |0,i,m,He,h=>by
  have e:i=Lf.length:=by omega
  subst e
  rw [aw M gK.eq_1]
  simp (maxSteps:=3000000) (maxDischargeDepth:=6) +contextual -implicitDefEqProofs only [amA M,amB,↓aj,↓ab,↓al,↓ak,Nat.reduceBEq,Nat.reduceAdd,env,ao,bg,Nat.lt_irrefl,List.drop_length,N1 hM,List.foldl_nil,gZ]
 |n+1,i,m,He,h=>by
  have hi:i<Lf.length:=by omega
  have hx:Lf[i]?=some Lf[i]:=List.getElem?_eq_getElem hi
  have hd:(Lf.drop i)=Lf[i]::Lf.drop (i+1):=List.drop_eq_getElem_cons hi
  have hm:Lf[i]∈Lf:=List.getElem_mem hi
  have ih:=fun m He=>gl4 (H:=H) (H0:=H0) (x:=x) (T2:=T2) (p:=p) (i0:=i0) (Lf:=Lf) (hM:=hM) (hL:=hL) k n (i+1) m He (by omega)
  simp only [kv_cons,kv_nil] at ih
  have hib:i<x.forms.l.length:=by omega
  have hxb:=(hL i hi).trans hx
  rw [aw M gK.eq_1]
  simp (maxSteps:=3000000) (maxDischargeDepth:=6) +contextual -implicitDefEqProofs only [amA M,amB,↓aj,↓ab,↓al,↓ak,Nat.reduceBEq,Nat.reduceAdd,env,ao,bg,hx,hd,hi,ih,amG,AV.cell,Nat.reduceMul,Nat.reduceLeDiff,gZ,HR,hib,hxb,QG hM hi,bo hib,c6 (n:=100) (show i<100 by omega) (by simp [bD]),List.foldl_cons,irN]
theorem gl5{H H0:List ae}(hg:F9 E){l:Lex}{n0:Nat}(hl:l.ok n0){p:Nat}{T:TypeId}(hp:H[p]?=some (.cells l.row T))(k:List Fra):∀ (n i:Nat) (m:Int),i+n=(l.entries.l).length →
  M.go aM H0 (.c gL :: .lp ⟨(some [1,3,4,10]),[],true⟩ gL (H++[sY m]) :: .blk 8 :: .c (.lv [1,3,4])::k) (kv [(1,.ptr p 0),(3,.ptr H.length 0),(4,zr H.length),(10,.int .i64 i)]) (H++[sY m]) =
   (M.go aM H0 k (kv [(1,.ptr p 0),(3,.ptr H.length 0),(4,zr H.length)]) (H++[sY ((l.entries.l.drop i).foldl QJ m)]))
 |0,i,m,h=>by
  have e:i=(l.entries.l).length:=by omega
  subst e
  rw [aw M gL.eq_1]
  simp (maxSteps:=3000000) (maxDischargeDepth:=6) +contextual -implicitDefEqProofs only [amA M,amB,↓aj,↓ab,↓al,↓ak,Nat.reduceBEq,Nat.reduceAdd,env,ao,bg,Nat.lt_irrefl,List.drop_length,List.foldl_nil,dj hp,cZ]
 |n+1,i,m,h=>by
  have hi:i<(l.entries.l).length:=by omega
  have hx:(l.entries.l)[i]?=some (l.entries.l)[i]:=List.getElem?_eq_getElem hi
  have hd:((l.entries.l).drop i)=(l.entries.l)[i]::(l.entries.l).drop (i+1):=List.drop_eq_getElem_cons hi
  have hm:(l.entries.l)[i]∈(l.entries.l):=List.getElem_mem hi
  have ih:=fun m=>gl5 (H:=H) (H0:=H0) (hg:=hg) (l:=l) (n0:=n0) (hl:=hl) (p:=p) (T:=T) (hp:=hp) k n (i+1) m (by omega)
  simp only [kv_cons,kv_nil] at ih
  have hpl:=(List.getElem?_eq_some_iff.1 hp).1
  have w1:Wk (H.length+1) (.ptr p 0) (.ptr p 0):=wk_ptr (by omega)
  have w2:Wk (H.length+1) (.ptr H.length 0) (.ptr H.length 0):=wk_ptr (by omega)
  have w3:Wk (H.length+1) (zr H.length) (zr H.length):=wk_fn trivial ⟨wk_ptr (by omega),trivial⟩
  have h0:=fun m k He=>gl4 M (H:=H) (H0:=H0) (x:=l.entries.l[i]) (T2:=ec) (p:=p) (i0:=i) (Lf:=l.entries.l[i].forms.l.take 100) (by simp) (La _ 100) k (l.entries.l[i].forms.l.take 100).length 0 m He (by omega)
  simp only [kv_cons,kv_nil,Int.ofNat_zero,List.drop_zero] at h0
  rw [aw M gL.eq_1]
  simp (maxSteps:=3000000) (maxDischargeDepth:=6) +contextual -implicitDefEqProofs only [amA M,amB,↓aj,↓ab,↓al,↓ak,Nat.reduceBEq,Nat.reduceAdd,env,ao,bg,hx,hd,hi,ih,amG,AV.cell,Nat.reduceMul,Nat.reduceLeDiff,dj hp,w1,w2,w3,Io,QF,cZ,bo hi,gZ,h0,F8 M hg.truchmanlaw02_Great_1,c6 hi hl.entries.len,List.foldl_cons,QJ]
def QK(m:Int)(x:bA):Int:=w64 (m+w64 (w64 (w64 ((x.frm.length:Int)+(x.to.length:Int))+(x.left.length:Int))+(x.right.length:Int)))
def Uk(m:Int)(x:dt):Int:=Lb (w64 (m+w64 ((x.cls.length:Int)+(x.glue.length:Int)))) x.feats.l
theorem gl6{H H0:List ae}{l:Lex}{n0:Nat}(hl:l.ok n0){p:Nat}{T:TypeId}(hp:H[p]?=some (.cells l.row T))(k:List Fra):∀ (n i:Nat) (m:Int) (He:List ae),i+n=(l.spells.l).length →
  M.go aM H0 (.c gM :: .lp ⟨(some [1,3,4,13]),[],false⟩ gM He :: .blk 12 :: .c (.lv [1,3,4])::k) (kv [(1,.ptr p 0),(3,.ptr H.length 0),(4,zr H.length),(13,.int .i64 i)]) (H++[sY m]) =
   (M.go aM H0 k (kv [(1,.ptr p 0),(3,.ptr H.length 0),(4,zr H.length)]) (H++[sY ((l.spells.l.drop i).foldl QK m)]))
 |0,i,m,He,h=>by
  have e:i=(l.spells.l).length:=by omega
  subst e
  rw [aw M gM.eq_1]
  simp (maxSteps:=3000000) (maxDischargeDepth:=6) +contextual -implicitDefEqProofs only [amA M,amB,↓aj,↓ab,↓al,↓ak,Nat.reduceBEq,Nat.reduceAdd,env,ao,bg,Nat.lt_irrefl,List.drop_length,List.foldl_nil,dj hp,cZ]
 |n+1,i,m,He,h=>by
  have hi:i<(l.spells.l).length:=by omega
  have hx:(l.spells.l)[i]?=some (l.spells.l)[i]:=List.getElem?_eq_getElem hi
  have hd:((l.spells.l).drop i)=(l.spells.l)[i]::(l.spells.l).drop (i+1):=List.drop_eq_getElem_cons hi
  have hm:(l.spells.l)[i]∈(l.spells.l):=List.getElem_mem hi
  have ih:=fun m He=>gl6 (H:=H) (H0:=H0) (l:=l) (n0:=n0) (hl:=hl) (p:=p) (T:=T) (hp:=hp) k n (i+1) m He (by omega)
  simp only [kv_cons,kv_nil] at ih
  rw [aw M gM.eq_1]
  simp (maxSteps:=3000000) (maxDischargeDepth:=6) +contextual -implicitDefEqProofs only [amA M,amB,↓aj,↓ab,↓al,↓ak,Nat.reduceBEq,Nat.reduceAdd,env,ao,bg,hx,hd,hi,ih,amG,AV.cell,Nat.reduceMul,Nat.reduceLeDiff,dj hp,cZ,bo hi,yP,c6 hi hl.spells.len,List.foldl_cons,QK]
theorem gl7{H H0:List ae}(hg:F9 E){l:Lex}{n0:Nat}(hl:l.ok n0){p:Nat}{T:TypeId}(hp:H[p]?=some (.cells l.row T))(k:List Fra):∀ (n i:Nat) (m:Int) (He:List ae),i+n=(l.links.l).length →
  M.go aM H0 (.c gN :: .lp ⟨(some [1,3,4,14]),[],false⟩ gN He :: .blk 14 :: .c (.lv [3])::k) (kv [(1,.ptr p 0),(3,.ptr H.length 0),(4,zr H.length),(14,.int .i64 i)]) (H++[sY m]) =
   (M.go aM H0 k (kv [(3,.ptr H.length 0)]) (H++[sY ((l.links.l.drop i).foldl Uk m)]))
 |0,i,m,He,h=>by
  have e:i=(l.links.l).length:=by omega
  subst e
  rw [aw M gN.eq_1]
  simp (maxSteps:=3000000) (maxDischargeDepth:=6) +contextual -implicitDefEqProofs only [amA M,amB,↓aj,↓ab,↓al,↓ak,Nat.reduceBEq,Nat.reduceAdd,env,ao,bg,Nat.lt_irrefl,List.drop_length,List.foldl_nil,dj hp,cZ]
 |n+1,i,m,He,h=>by
  have hi:i<(l.links.l).length:=by omega
  have hx:(l.links.l)[i]?=some (l.links.l)[i]:=List.getElem?_eq_getElem hi
  have hd:((l.links.l).drop i)=(l.links.l)[i]::(l.links.l).drop (i+1):=List.drop_eq_getElem_cons hi
  have hm:(l.links.l)[i]∈(l.links.l):=List.getElem_mem hi
  have ih:=fun m He=>gl7 (H:=H) (H0:=H0) (hg:=hg) (l:=l) (n0:=n0) (hl:=hl) (p:=p) (T:=T) (hp:=hp) k n (i+1) m He (by omega)
  simp only [kv_cons,kv_nil] at ih
  rw [aw M gN.eq_1]
  simp (maxSteps:=3000000) (maxDischargeDepth:=6) +contextual -implicitDefEqProofs only [amA M,amB,↓aj,↓ab,↓al,↓ak,Nat.reduceBEq,Nat.reduceAdd,env,ao,bg,hx,hd,hi,ih,amG,AV.cell,Nat.reduceMul,Nat.reduceLeDiff,dj hp,cZ,bo hi,z8,F8 M hg.truchmanlaw02_Great_1,c6 hi hl.links.len,List.foldl_cons,Uk]
def Ul(l:Lex):Bool:=
 decide ((60:Int)<(l.entries.l.length:Int))&&decide ((l.entries.l.length:Int)≤128)||decide ((200:Int)<(l.entries.l.length:Int))||decide ((40:Int)<(l.traits.l.length:Int))||decide ((40:Int)<(l.classes.l.length:Int))||decide ((40:Int)<(l.spells.l.length:Int))||decide ((40:Int)<(l.links.l.length:Int)) ||
  (l.classes.l.any Uj||decide (6000<l.links.l.foldl Uk (l.spells.l.foldl QK (l.entries.l.foldl QJ (l.classes.l.foldl QI (l.traits.l.foldl QH (l.vowels.length:Int)))))))
theorem Eo(hg:F9 E){l:Lex}{n:Nat}(hl:l.ok n)(H:List ae):M.run iG [.agg l.row] H=some (.ret (.bool (Ul l)),H):=by
 rw [aY M hg.truchmanlaw02_Great rfl (c:=om) rfl,om]
 have hp:(H++[ae.cells l.row az])[H.length]?=some (.cells l.row az):=by rw [dX];rfl
 have h1:=fun m k He=>gl1 M (H0:=H) hl hp k l.traits.l.length 0 m He (by omega)
 have h3:=fun m k=>gl3 M (H0:=H) hg hl hp (cut_app H _) k l.classes.l.length 0 m (by omega)
 have h5:=fun m k=>gl5 M (H0:=H) hg hl hp k l.entries.l.length 0 m (by omega)
 have h6:=fun m k He=>gl6 M (H0:=H) hl hp k l.spells.l.length 0 m He (by omega)
 have h7:=fun m k He=>gl7 M (H0:=H) hg hl hp k l.links.l.length 0 m He (by omega)
 simp only [kv_cons,kv_nil,Int.ofNat_zero,List.drop_zero,lo_app3,NU,lo_app0,lo_len,lo_len1,lo_len0,Nat.zero_add,hp_take] at h1 h3 h5 h6 h7
 simp (maxSteps:=3000000) (maxDischargeDepth:=6) +contextual -implicitDefEqProofs only [amA M,amB,↓aj,↓ab,↓al,↓ak,Nat.reduceBEq,Nat.reduceAdd,env,ao,bg,amG,AV.cell,Nat.reduceMul,Nat.reduceLeDiff,h1,h3,h5,h6,h7,cZ,Ul,Bool.or_assoc]
end
section
attribute [local congr] aF cu bm aG a7 aR aH aA aC aS aT
variable{E:bC}(M:cT cY E)
structure o4 (M:cT cY E):Prop where
 index:∀ (s:Str) (c:UInt8) (H:List ae),M.run dv [.str s,.int .u8 c.toNat] H=some (.ret (.int .i64 (Lib.indexByte s c)),H)
 same:∀ (i o:Nat) (H:List ae),M.run gF [.ptr i o] H=some (.ret (.ptr i o),H)
structure pA (E:bC):Prop where
 strings_Builder_WriteString:E.fn aN=some cM
 strings_Builder_WriteByte:E.fn fh=some dc
 strings_Builder_String:E.fn dg=some dW
 strings_Builder_Len:E.fn og=some ff
 strings_Builder_copyCheck:E.fn cq=some de
abbrev gu(s:Str):List (List AV):=s.map fun b=>[.int .u8 (b.toNat:Int)]
abbrev bTok(w:Str):ae:=.tok w.length dL
abbrev j9(a:AV)(n:Nat)(w:Str)(T:TypeId):ae:=.cells [a,.slice (.own n) 1 (gu w)] T
theorem QL(s:Str):n9 1 (gu s)=true:=by simp [n9,gu,AV.cell]
theorem Hm:∀ s:Str,qQ (gu s)=some s
 |[]=>rfl
 |c::s=>by
  have:=Hm s
  simp only [gu] at this ⊢
  simp only [List.map_cons,qQ,this,Option.map_some]
  congr 2
  simp
theorem Po:∀ s:Str,Ek (gu s)=true
 |[]=>rfl
 |c::s=>by
  have:=Po s
  simp only [gu] at this ⊢
  simp only [List.map_cons,Ek,this,Bool.and_true,Bool.and_eq_true,decide_eq_true_eq]
  have:=c.toNat_lt
  omega
theorem M1(w s:Str):gu (w++s)=gu w++(gu s).map (·.map AV.strip):=by
 simp only [gu,List.map_append,List.map_map]
 congr 1
theorem Um(H L:List ae){w s:Str}(h:w.length+s.length≤140737488355328)(x:AV)(hx:∀ H,Ct H 1 true x=some (gu s)) :
  rap false (H++(bTok w::L)) dL 1 1 true (.slice (.own H.length) 1 (gu w)) x=some (.slice (.own H.length) 1 (gu (w++s)),H++(bTok (w++s)::L)):=by
 have h1:(gu w).length=w.length:=by simp [gu]
 have h2:(gu s).length=s.length:=by simp [gu]
 have hc:(w.length+s.length)*1≤140737488355328∧w.length+s.length≤4611686018427387904∧n9 1 (gu s)=true:=⟨by omega,by omega,QL s⟩
 rw [M1]
 cases s with
 |nil=>simp [rap,Dj,hx,h1,gu,n9];simp at h;omega
 |cons c s=>
  simp only [rap,Dj,hx,h1,h2,or_true,true_and,hc,if_true,and_self]
  simp only [gu,List.map_cons,dX,List.getElem?_cons_zero,hp_set0,List.set_cons_zero,Nat.mul_one,List.length_cons,List.length_map,and_self,if_true,List.length_append,bTok]
theorem VH(s:Str)(H:List ae):Ct H 1 true (.str s)=some (gu s):=by simp [Ct]
theorem QM(H L:List ae){w s:Str}(h:w.length+s.length≤140737488355328) :
  rap false (H++(bTok w::L)) dL 1 1 true (.slice (.own H.length) 1 (gu w)) (.str s)=some (.slice (.own H.length) 1 (gu (w++s)),H++(bTok (w++s)::L)):=Um H L h _ (VH s)
theorem RB(H L:List ae){w:Str}{c:UInt8}(h:w.length+1≤140737488355328) :
  rap false (H++(bTok w::L)) dL 1 1 false (.slice (.own H.length) 1 (gu w)) (.slice .full 1 [[.int .u8 (c.toNat:Int)]])=some (.slice (.own H.length) 1 (gu (w++[c])),H++(bTok (w++[c])::L)):=by
 have h1:(gu w).length=w.length:=by simp [gu]
 have hc:(w.length+1)*1≤140737488355328∧w.length+1≤4611686018427387904:=⟨by omega,by omega⟩
 simp only [rap,Dj,Ct,h1,or_true,if_true,List.length_cons,List.length_nil,Nat.zero_add,true_and,hc,and_self]
 simp [n9,AV.cell,dX,hp_set0,M1,gu,AV.strip,h1,List.map_append]
theorem Wo(H L:List ae)(w:Str)(hw:w.length≤9223372036854775807):NC (H++(bTok w::L)) dL (.sdp H.length (gu w)) (.int .i64 (w.length:Int))=some (.str w):=by
 cases w with
 |nil=>simp [gu,NC]
 |cons c w=>
  have h1:=Hm (c::w)
  have h2:=Po (c::w)
  simp only [gu,List.map_cons] at h1 h2 ⊢
  simp only [NC,dX,List.getElem?_cons_zero,h1,h2]
  rw [if_pos]
  exact ⟨trivial,trivial,Nat.le_refl _,hw,trivial⟩
theorem Wp(n:Nat)(w:Str):Sc (.slice (.own n) 1 (gu w))=some (.sdp n (gu w)):=by cases w<;>rfl
theorem Hn{H L:List ae}{n n':Nat}{T T' T1 T2:TypeId}{cs cs':List AV}(h:WkL (H.length+(L.length+1+1)) cs' cs'):dM (H++(.tok n T :: .cells cs T1::L)) (H++(.tok n' T' :: .cells cs' T2::L)):=
 ⟨by simp,fun i x hi hx=>by
  rcases Nat.lt_trichotomy i H.length with hl | hl | hl
  ·left;rw [List.getElem?_append_left hl] at hx ⊢;exact hx
  ·subst hl;rw [dX] at hx;right
   obtain rfl:_=x:=by simpa using hx
   trivial
  ·obtain ⟨j,rfl⟩:∃ j,i=H.length+(j+1):=⟨i-H.length-1,by omega⟩
   rw [hp_getk] at hx ⊢
   cases j with
   |zero=>
    right
    obtain rfl:_=x:=by simpa using hx
    intro c hc
    obtain ⟨k,hk⟩:=List.getElem?_of_mem hc
    obtain ⟨y,h1,h2⟩:=h.get k c hk
    rw [hk] at h1;cases h1
    simpa [Nat.add_assoc] using h2
   |succ j=>left;simpa using hx⟩
theorem uD(H L:List ae)(x y:ae):(H++(x::y::L)).take (H.length+(L.length+1+1))=H++(x::y::L):=List.take_of_length_le (by simp)
theorem Pp(n:Nat)(w:Str):mI n (gu w):=by
 rw [rowsWk_map];exact fun _ _=>⟨wk_int _ _ _,trivial⟩
theorem Un(H L:List ae)(w:Str):WkL (H.length+(L.length+1+1)) [.ptr (H.length+1) 0,.slice (.own H.length) 1 (gu w)] [.ptr (H.length+1) 0,.slice (.own H.length) 1 (gu w)]:=
 ⟨wk_ptr (by omega),wk_slice (show H.length<_ by omega) (Pp _ _),trivial⟩
theorem qU:(∀ (a:Env) (H:List ae) (x:RX),rop a H (.usl x)=cE H (Sc (rx a x)))∧(∀ (a:Env) (H:List ae) (e:TypeId) (x n:RX),rop a H (.ust e x n)=cE H (NC H e (rx a x) (rx a n)))∧(∀ (a:Env) (H:List ae) (x:RX),rop a H (.cvu x)=cE H (P9 H (rx a x)))∧(∀ (a:Env) (H:List ae) (u:TypeId) (sz:Nat) (x:RX),rop a H (.cvf u sz x)=cE H (Qa H u sz (rx a x))) ∧
 (∀ (a:Env) (H:List ae) (cs:List AV) (e:TypeId) (j:Nat) (T:TypeId),rop a H (.nwb cs e j T)=some (.ptr (H.length+1) 0,H++[.tok 0 T,.cells (cs.set j (.slice (.own H.length) 1 [])) e])):=
 ⟨fun _ _ _=>rfl,fun _ _ _ _ _=>rfl,fun _ _ _=>rfl,fun _ _ _ _ _=>rfl,fun _ _ _ _ _ _=>rfl⟩
theorem Pq:req .ptr .nilp .nilp=some true:=rfl
theorem Lc(i o:Nat):req .ptr (.ptr i o) .nilp=some false:=rfl
theorem Ps(i o:Nat):req .ptr (.ptr i o) (.ptr i o)=some true:=by simp [req]
theorem XC(H L:List ae)(x:ae)(a b:AV)(T:TypeId):P9 (H++(x :: .cells [a,b] T::L)) (.ptr (H.length+1) 0)=some (.ptr (H.length+1) 0):=by
 simp [P9,hp_getk]
theorem XD(H L:List ae)(x:ae)(a b:AV)(T:TypeId):Qa (H++(x :: .cells [a,b] T::L)) T 2 (.ptr (H.length+1) 0)=some (.ptr (H.length+1) 0):=by
 simp [Qa,hp_getk]
theorem D2(hB:pA E)(hX:o4 M)(H L:List ae)(w:Str) :
  M.run cq [.ptr (H.length+1) 0] (H++(bTok w::j9 .nilp H.length w bu::L))=some (.ret (.tuple []),H++(bTok w::j9 (.ptr (H.length+1) 0) H.length w bu::L)):=by
 rw [aY M hB.strings_Builder_copyCheck rfl (c:=bU) rfl,bU]
 have h1:=hX.same (H.length+1) 0
 have hw:=Un H L w
 simp (maxSteps:=3000000) (maxDischargeDepth:=6) +contextual -implicitDefEqProofs only [amA M,amB,↓aj,↓ab,↓al,↓ak,Nat.reduceBEq,Nat.reduceAdd,env,ao,gW,amG,AV.cell,Nat.reduceMul,Nat.reduceLeDiff,h1,qU,Pq,rnc,XC,XD,Hn hw,uD,wk_tuple]
theorem D3(hB:pA E)(H L:List ae)(w:Str)(T:TypeId) :
  M.run cq [.ptr (H.length+1) 0] (H++(bTok w::j9 (.ptr (H.length+1) 0) H.length w T::L))=some (.ret (.tuple []),H++(bTok w::j9 (.ptr (H.length+1) 0) H.length w T::L)):=by
 rw [aY M hB.strings_Builder_copyCheck rfl (c:=bU) rfl,bU]
 simp (maxSteps:=3000000) (maxDischargeDepth:=6) +contextual -implicitDefEqProofs only [amA M,amB,↓aj,↓ab,↓al,↓ak,Nat.reduceBEq,Nat.reduceAdd,env,ao,gW,Lc,Ps,rnc,uD,wk_tuple]
theorem Ip(hB:pA E)(hX:o4 M)(H L:List ae){w s:Str}{T:TypeId}(h:w.length+s.length≤140737488355328) :
  M.run aN [.ptr (H.length+1) 0,.str s] (H++(bTok w::j9 .nilp H.length w bu::L))=some (.ret (.tuple [.int .i64 s.length,.nilif]),H++(bTok (w++s)::j9 (.ptr (H.length+1) 0) H.length (w++s) bu::L)):=by
 rw [aY M hB.strings_Builder_WriteString rfl (c:=cL) rfl,cL]
 have hw:=Un H L (w++s)
 simp (maxSteps:=3000000) (maxDischargeDepth:=6) +contextual -implicitDefEqProofs only [amA M,amB,↓aj,↓ab,↓al,↓ak,Nat.reduceBEq,Nat.reduceAdd,env,ao,eA,amG,AV.cell,Nat.reduceMul,Nat.reduceLeDiff,(D2 M hB hX),rnc,QM _ _ h,Hn hw,uD,wk_tuple]
theorem Ld(hB:pA E)(hX:o4 M)(H L:List ae){w:Str}{c:UInt8}{T:TypeId}(h:w.length+1≤140737488355328) :
  M.run fh [.ptr (H.length+1) 0,.int .u8 c.toNat] (H++(bTok w::j9 .nilp H.length w bu::L))=some (.ret .nilif,H++(bTok (w++[c])::j9 (.ptr (H.length+1) 0) H.length (w++[c]) bu::L)):=by
 rw [aY M hB.strings_Builder_WriteByte rfl (c:=fm) rfl,fm]
 have hw:=Un H L (w++[c])
 simp (maxSteps:=3000000) (maxDischargeDepth:=6) +contextual -implicitDefEqProofs only [amA M,amB,↓aj,↓ab,↓al,↓ak,Nat.reduceBEq,Nat.reduceAdd,env,ao,oX,amG,AV.cell,Nat.reduceMul,Nat.reduceLeDiff,(D2 M hB hX),rnc,RB _ _ h,Hn hw,uD,wk_tuple]
theorem Iq(hB:pA E)(hX:o4 M)(H L:List ae){w s:Str}{T:TypeId}(h:w.length+s.length≤140737488355328) :
  M.run aN [.ptr (H.length+1) 0,.str s] (H++(bTok w::j9 (.ptr (H.length+1) 0) H.length w T::L))=some (.ret (.tuple [.int .i64 s.length,.nilif]),H++(bTok (w++s)::j9 (.ptr (H.length+1) 0) H.length (w++s) T::L)):=by
 rw [aY M hB.strings_Builder_WriteString rfl (c:=cL) rfl,cL]
 have hw:=Un H L (w++s)
 simp (maxSteps:=3000000) (maxDischargeDepth:=6) +contextual -implicitDefEqProofs only [amA M,amB,↓aj,↓ab,↓al,↓ak,Nat.reduceBEq,Nat.reduceAdd,env,ao,eA,amG,AV.cell,Nat.reduceMul,Nat.reduceLeDiff,(D3 M hB),rnc,QM _ _ h,Hn hw,uD,wk_tuple]
theorem Lg(hB:pA E)(hX:o4 M)(H L:List ae){w:Str}{c:UInt8}{T:TypeId}(h:w.length+1≤140737488355328) :
  M.run fh [.ptr (H.length+1) 0,.int .u8 c.toNat] (H++(bTok w::j9 (.ptr (H.length+1) 0) H.length w T::L))=some (.ret .nilif,H++(bTok (w++[c])::j9 (.ptr (H.length+1) 0) H.length (w++[c]) T::L)):=by
 rw [aY M hB.strings_Builder_WriteByte rfl (c:=fm) rfl,fm]
 have hw:=Un H L (w++[c])
 simp (maxSteps:=3000000) (maxDischargeDepth:=6) +contextual -implicitDefEqProofs only [amA M,amB,↓aj,↓ab,↓al,↓ak,Nat.reduceBEq,Nat.reduceAdd,env,ao,oX,amG,AV.cell,Nat.reduceMul,Nat.reduceLeDiff,(D3 M hB),rnc,RB _ _ h,Hn hw,uD,wk_tuple]
theorem Pt(hB:pA E)(H L:List ae){w:Str}{a:AV}{T:TypeId}(hw:w.length≤9223372036854775807) :
  M.run dg [.ptr (H.length+1) 0] (H++(bTok w::j9 a H.length w T::L))=some (.ret (.str w),H++(bTok w::j9 a H.length w T::L)):=by
 rw [aY M hB.strings_Builder_String rfl (c:=gr) rfl,gr]
 simp (maxSteps:=3000000) (maxDischargeDepth:=6) +contextual -implicitDefEqProofs only [amA M,amB,↓aj,↓ab,↓al,↓ak,Nat.reduceBEq,Nat.reduceAdd,env,ao,lA,qU,rnc,Wp,Wo H _ w hw,uD]
theorem Uo(hB:pA E)(H L:List ae){w:Str}{a:AV}{T:TypeId} :
  M.run og [.ptr (H.length+1) 0] (H++(bTok w::j9 a H.length w T::L))=some (.ret (.int .i64 w.length),H++(bTok w::j9 a H.length w T::L)):=by
 rw [aY M hB.strings_Builder_Len rfl (c:=oP) rfl,oP]
 simp (maxSteps:=3000000) (maxDischargeDepth:=6) +contextual -implicitDefEqProofs only [amA M,amB,↓aj,↓ab,↓al,↓ak,Nat.reduceBEq,Nat.reduceAdd,env,ao,CM,rnc,uD]
end
section
attribute [local congr] aF cu bm aG a7 aR aH aA aC aS aT
variable{E:bC}(M:cT cY E)
structure SpE (E:bC):Prop where
 internal_stringslite_HasPrefix:E.fn fi=some bZ
 internal_stringslite_IndexByte:E.fn cN=some b4
 morph_language_left:E.fn oe=some dC
 morph_language_match:E.fn jP=some eH
 morph_language_right:E.fn mN=some db
 morph_language_spell:E.fn mM=some da
 strings_HasPrefix:E.fn pX=some fX
 strings_IndexByte:E.fn pY=some fY
theorem xj{s:Str}{k:IntKind}{i:Nat}(h:i≤s.length):NA (.str s) (some (.int k (i:Int))) none=some (.str (s.drop i)):=by
 simp [NA,fI,h]
 exact List.take_of_length_le (by simp)
theorem Up{s:Str}{k:IntKind}{i:Nat}(h:i≤s.length):NA (.str s) none (some (.int k (i:Int)))=some (.str (s.take i)):=by
 simp [NA,fI,h]
theorem Uq{s:Str}{k k':IntKind}{i j:Nat}(h:i≤j)(hj:j≤s.length):NA (.str s) (some (.int k (i:Int))) (some (.int k' (j:Int)))=some (.str ((s.drop i).take (j-i))):=by
 simp [NA,fI,h,hj]
def kC(s p:Str):Bool:=decide (p.length≤s.length)&&(s.take p.length == p)
theorem D4(hS:SpE E)(s p:Str)(H:List ae):M.run fi [.str s,.str p] H=some (.ret (.bool (kC s p)),H):=by
 rw [aY M hS.internal_stringslite_HasPrefix rfl (c:=ir) rfl,ir]
 cases hd:decide (p.length≤s.length) with
 |true=>
  have hle:p.length≤s.length:=of_decide_eq_true hd
  simp (maxSteps:=3000000) (maxDischargeDepth:=6) +contextual -implicitDefEqProofs only [amA M,amB,↓aj,↓ab,↓al,↓ak,Nat.reduceBEq,Nat.reduceAdd,env,ao,kQ,kC,hd,Up hle]
 |false=>
  simp (maxSteps:=3000000) (maxDischargeDepth:=6) +contextual -implicitDefEqProofs only [amA M,amB,↓aj,↓ab,↓al,↓ak,Nat.reduceBEq,Nat.reduceAdd,env,ao,kQ,kC,hd]
theorem tZ(hS:SpE E)(s p:Str)(H:List ae):M.run pX [.str s,.str p] H=some (.ret (.bool (kC s p)),H):=by
 have h1:=D4 M hS s p H
 rw [aY M hS.strings_HasPrefix rfl (c:=p7) rfl,p7]
 simp (maxSteps:=3000000) (maxDischargeDepth:=6) +contextual -implicitDefEqProofs only [amA M,amB,↓aj,↓ab,↓al,↓ak,Nat.reduceBEq,Nat.reduceAdd,env,ao,EH,h1]
theorem M3:∀ (s:Str) (c:UInt8),decide ((0:Int)≤Lib.indexByte s c)=s.any fun d=>d == c
 |[],c=>rfl
 |d::s,c=>by
  rw [Lib.indexByte,List.any_cons,← M3 s c]
  cases h:d == c with
  |true=>simp
  |false=>
   have hg:=Lib.indexByte_ge s c
   simp only [Bool.false_or]
   by_cases h2:Lib.indexByte s c = -1
   ·simp [h2]
   ·have:(Lib.indexByte s c == -1)=false:=by simpa using h2
    simp only [this]
    rw [Bool.eq_iff_iff];simp;omega
theorem Mj(hS:SpE E)(hX:o4 M)(s:Str)(c:UInt8)(H:List ae):M.run pY [.str s,.int .u8 c.toNat] H=some (.ret (.int .i64 (Lib.indexByte s c)),H):=by
 have h1:M.run cN [.str s,.int .u8 c.toNat] H=some (.ret (.int .i64 (Lib.indexByte s c)),H):=by
  rw [aY M hS.internal_stringslite_IndexByte rfl (c:=dP) rfl,dP]
  simp (maxSteps:=3000000) (maxDischargeDepth:=6) +contextual -implicitDefEqProofs only [amA M,amB,↓aj,↓ab,↓al,↓ak,Nat.reduceBEq,Nat.reduceAdd,env,ao,kR,hX.index]
 rw [aY M hS.strings_IndexByte rfl (c:=p8) rfl,p8]
 simp (maxSteps:=3000000) (maxDischargeDepth:=6) +contextual -implicitDefEqProofs only [amA M,amB,↓aj,↓ab,↓al,↓ak,Nat.reduceBEq,Nat.reduceAdd,env,ao,EI,h1]
def RC(s:Str)(at_:Int):Option UInt8:=if at_<0 then none else s[at_.toNat]?
def isV(v:Str)(c:UInt8):Bool:=v.any fun d=>d == c
def D5(v:Str)(p:UInt8)(s:Str)(at_:Int):Bool:=
 match RC s at_ with
 |none=>((p.toNat:Int) == 35)&&((at_ == -1)||(at_ == (s.length:Int)))
 |some c=>sel ((p.toNat:Int) == 67) (lC c && !isV v c) (sel ((p.toNat:Int) == 86) (lC c&&isV v c) (p.toNat == c.toNat))
theorem M4(hN:dG E)(hS:SpE E)(hX:o4 M){l:Lex}(p:UInt8)(s:Str)(at_:Int)(H:List ae) :
  M.run jP [.agg l.row,.int .u8 p.toNat,.str s,.int .i64 at_] H=some (.ret (.bool (D5 l.vowels p s at_)),H):=by
 rw [aY M hS.morph_language_match rfl (c:=ns) rfl,ns]
 by_cases h:at_<0
 ·have e:RC s at_=none:=if_pos h
  have hd:decide (at_<0)=true:=decide_eq_true h
  simp (maxSteps:=3000000) (maxDischargeDepth:=6) +contextual -implicitDefEqProofs only [amA M,amB,↓aj,↓ab,↓al,↓ak,Nat.reduceBEq,Nat.reduceAdd,env,ao,nu,hd,D5,e,cut_app]
 ·obtain ⟨j,rfl⟩:∃ j:Nat,at_=(j:Int):=⟨at_.toNat,by omega⟩
  have e:RC s (j:Int)=s[j]? := by simp [RC,h]
  by_cases hj:j<s.length
  ·have hx:s[j]?=some s[j]:=List.getElem?_eq_getElem hj
   have hd:decide (s.length≤j)=false:=decide_eq_false (by omega)
   simp (maxSteps:=3000000) (maxDischargeDepth:=6) +contextual -implicitDefEqProofs only [amA M,amB,↓aj,↓ab,↓al,↓ak,Nat.reduceBEq,Nat.reduceAdd,env,ao,nu,Ub,hd,hx,D5,e,cZ,cut_app,Mj M hS hX,M3,nD M hN.letter,isV]
  ·have hx:s[j]?=none:=List.getElem?_eq_none (by omega)
   have hd:decide (s.length≤j)=true:=decide_eq_true (by omega)
   simp (maxSteps:=3000000) (maxDischargeDepth:=6) +contextual -implicitDefEqProofs only [amA M,amB,↓aj,↓ab,↓al,↓ak,Nat.reduceBEq,Nat.reduceAdd,env,ao,nu,Ub,hd,hx,D5,e,cut_app]
def Ur{α:Type}(f:Nat→α→Bool):Nat→List α→Bool
 |_,[]=>true
 |i,x::l=>f i x&&Ur f (i+1) l
def SU{α:Type}(f:Nat→α→Bool):Nat→α→Option AV:=fun i x=>sel (f i x) none (some (.bool false))
theorem Ga{α:Type}(f:Nat→α→Bool)(H:List ae)(x:Option Out):∀ (l:List α) (i:Nat),orE (fJ (SU f) i l) H x=sel (Ur f i l) x (some (.ret (.bool false),H))
 |[],_=>rfl
 |y::l,i=>by
  rw [ui,Rt,Ga f H x l,Ur]
  unfold SU
  cases f i y<;>rfl
theorem spl{H H0:List ae}(hN:dG E)(hS:SpE E)(hX:o4 M){l:Lex}{q:Str}{s:Str}{a:Nat}(ha:a≤bD){L:Str}(hLl:L.length=q.length)(hqs:q.length≤bD)(hL:∀ k,k<L.length→q[q.length-1-k]?=L[k]?){p:Nat}{T:TypeId}(hp:H[p]?=some (.cells l.row T))(hc:dM H0 H)(k:List Fra):∀ (n i:Nat) (He:List ae),i+n=L.length →
  M.go dC H0 (.c gV :: .lp ⟨(some [1,2,3,4,11,12]),[],false⟩ gV He :: .blk 0 :: .c (.lv [])::k) (kv [(1,.str q),(2,.str s),(3,.int .i64 a),(4,.ptr p 0),(11,.int .i64 L.length),(12,.int .i64 i)]) H =
   orE (fJ (SU fun k c=>D5 l.vowels c s ((a:Int)-1-(k:Int))) i (L.drop i)) (H.take H0.length) (M.go dC H0 k .leaf H)
 |0,i,He,h=>by
  have e:i=L.length:=by omega
  subst e
  rw [aw M gV.eq_1]
  simp (maxSteps:=3000000) (maxDischargeDepth:=6) +contextual -implicitDefEqProofs only [amA M,amB,↓aj,↓ab,↓al,↓ak,Nat.reduceBEq,Nat.reduceAdd,env,ao,oO,Nat.lt_irrefl,List.drop_length]
 |n+1,i,He,h=>by
  have hi:i<L.length:=by omega
  have hx:L[i]?=some L[i]:=List.getElem?_eq_getElem hi
  have hd:(L.drop i)=L[i]::L.drop (i+1):=List.drop_eq_getElem_cons hi
  have hm:L[i]∈L:=List.getElem_mem hi
  have ih:=fun He=>spl (H:=H) (H0:=H0) (hN:=hN) (hS:=hS) (hX:=hX) (l:=l) (q:=q) (s:=s) (a:=a) (ha:=ha) (L:=L) (hLl:=hLl) (hqs:=hqs) (hL:=hL) (p:=p) (T:=T) (hp:=hp) hc k n (i+1)  He (by omega)
  simp only [kv_cons,kv_nil] at ih
  have hq:=(hL i hi).trans hx
  have e1:IntKind.i64.wrap ((q.length:Int)-1)=((q.length-1:Nat):Int):=Vy (by omega) hqs
  have e2:IntKind.i64.wrap (((q.length-1:Nat):Int)-(i:Int))=((q.length-1-i:Nat):Int):=by
   simp only [bD] at hqs;rw [eK (by omega) (by omega)];omega
  have e3:IntKind.i64.wrap ((a:Int)-1)=(a:Int)-1:=by simp only [bD] at ha;exact eK (by omega) (by omega)
  have e4:IntKind.i64.wrap ((a:Int)-1-(i:Int))=(a:Int)-1-(i:Int):=by simp only [bD] at ha hqs;exact eK (by omega) (by omega)
  rw [aw M gV.eq_1]
  simp (maxSteps:=3000000) (maxDischargeDepth:=6) +contextual -implicitDefEqProofs only [amA M,amB,↓aj,↓ab,↓al,↓ak,Nat.reduceBEq,Nat.reduceAdd,env,ao,oO,hx,hd,hi,ih,hq,e1,e2,e3,e4,hp,cZ,M4 M hN hS hX,c6 hi (show L.length≤bD by omega),SU,hc]
def Pu(v p s:Str)(a:Nat):Bool:=Ur (fun k c=>D5 v c s ((a:Int)-1-(k:Int))) 0 p.reverse
theorem VI(q:Str):∀ k,k<q.reverse.length→q[q.length-1-k]?=q.reverse[k]? := fun k hk=>by
 rw [List.getElem?_reverse (by simpa using hk)]
theorem Us(hN:dG E)(hS:SpE E)(hX:o4 M){l:Lex}{q:Str}(hq:q.length≤bD)(s:Str){a:Nat}(ha:a≤bD)(H:List ae) :
  M.run oe [.agg l.row,.str q,.str s,.int .i64 a] H=some (.ret (.bool (Pu l.vowels q s a)),H):=by
 rw [aY M hS.morph_language_left rfl (c:=oN) rfl,oN]
 have h1:=fun k He=>spl M hN hS hX (H:=H++[.cells l.row aD]) (H0:=H) (l:=l) (q:=q) (s:=s) ha (L:=q.reverse) (by simp) hq (VI q) (p:=H.length) (T:=aD) (by rw [dX];rfl) (cut_app H _) k q.reverse.length 0 He (by omega)
 simp only [kv_cons,kv_nil,Int.ofNat_zero,List.drop_zero,Ga,List.length_reverse] at h1
 simp (maxSteps:=3000000) (maxDischargeDepth:=6) +contextual -implicitDefEqProofs only [amA M,amB,↓aj,↓ab,↓al,↓ak,Nat.reduceBEq,Nat.reduceAdd,env,ao,oO,h1,Pu,cut_app]
theorem spr{H H0:List ae}(hN:dG E)(hS:SpE E)(hX:o4 M){l:Lex}{q:Str}{s:Str}{a:Nat}(ha:a+q.length≤bD){p:Nat}{T:TypeId}(hp:H[p]?=some (.cells l.row T))(hc:dM H0 H)(k:List Fra):∀ (n i:Nat) (He:List ae),i+n=q.length →
  M.go db H0 (.c gq :: .lp ⟨(some [1,2,3,4,11,12]),[],false⟩ gq He :: .blk 0 :: .c (.lv [])::k) (kv [(1,.str q),(2,.str s),(3,.int .i64 a),(4,.ptr p 0),(11,.int .i64 q.length),(12,.int .i64 i)]) H =
   orE (fJ (SU fun k c=>D5 l.vowels c s ((a+k:Nat):Int)) i (q.drop i)) (H.take H0.length) (M.go db H0 k .leaf H)
 |0,i,He,h=>by
  have e:i=q.length:=by omega
  subst e
  rw [aw M gq.eq_1]
  simp (maxSteps:=3000000) (maxDischargeDepth:=6) +contextual -implicitDefEqProofs only [amA M,amB,↓aj,↓ab,↓al,↓ak,Nat.reduceBEq,Nat.reduceAdd,env,ao,nr,Nat.lt_irrefl,List.drop_length]
 |n+1,i,He,h=>by
  have hi:i<q.length:=by omega
  have hx:q[i]?=some q[i]:=List.getElem?_eq_getElem hi
  have hd:(q.drop i)=q[i]::q.drop (i+1):=List.drop_eq_getElem_cons hi
  have hm:q[i]∈q:=List.getElem_mem hi
  have ih:=fun He=>spr (H:=H) (H0:=H0) (hN:=hN) (hS:=hS) (hX:=hX) (l:=l) (q:=q) (s:=s) (a:=a) (ha:=ha) (p:=p) (T:=T) (hp:=hp) hc k n (i+1)  He (by omega)
  simp only [kv_cons,kv_nil] at ih
  have e1:IntKind.i64.wrap ((a:Int)+(i:Int))=((a+i:Nat):Int):=by simp only [bD] at ha;rw [eK (by omega) (by omega)];omega
  rw [aw M gq.eq_1]
  simp (maxSteps:=3000000) (maxDischargeDepth:=6) +contextual -implicitDefEqProofs only [amA M,amB,↓aj,↓ab,↓al,↓ak,Nat.reduceBEq,Nat.reduceAdd,env,ao,nr,hx,hd,hi,ih,e1,hp,cZ,M4 M hN hS hX,c6 hi (show q.length≤bD by omega),SU,hc]
def N2(v p s:Str)(a:Nat):Bool:=Ur (fun k c=>D5 v c s ((a+k:Nat):Int)) 0 p
theorem SV(hN:dG E)(hS:SpE E)(hX:o4 M){l:Lex}{q:Str}(s:Str){a:Nat}(ha:a+q.length≤bD)(H:List ae) :
  M.run mN [.agg l.row,.str q,.str s,.int .i64 a] H=some (.ret (.bool (N2 l.vowels q s a)),H):=by
 rw [aY M hS.morph_language_right rfl (c:=nq) rfl,nq]
 have h1:=fun k He=>spr M hN hS hX (H:=H++[.cells l.row aD]) (H0:=H) (l:=l) (q:=q) (s:=s) ha (p:=H.length) (T:=aD) (by rw [dX];rfl) (cut_app H _) k q.length 0 He (by omega)
 simp only [kv_cons,kv_nil,Int.ofNat_zero,List.drop_zero,Ga] at h1
 simp (maxSteps:=3000000) (maxDischargeDepth:=6) +contextual -implicitDefEqProofs only [amA M,amB,↓aj,↓ab,↓al,↓ak,Nat.reduceBEq,Nat.reduceAdd,env,ao,nr,h1,N2,cut_app]
end
section
attribute [local congr] aF cu bm aG a7 aR aH aA aC aS aT
variable{E:bC}(M:cT cY E)
def Ut(v:Str)(x:bA)(s:Str)(i:Nat):Bool:=kC (s.drop i) x.frm&&(Pu v x.left s i&&N2 v x.right s (i+x.frm.length))
def Gb(v:Str)(x:bA)(s:Str):Nat→Nat→Str→Str
 |0,_,w=>w
 |n+1,i,w=>match s[i]? with
  |none=>w
  |some c=>match Ut v x s i with
   |true=>Gb v x s n (i+x.frm.length) (w++x.to)
   |false=>Gb v x s n (i+1) (w++[c])
def uE(v:Str)(x:bA)(s:Str):Str:=Gb v x s (s.length+1) 0 []
theorem Lh(v:Str)(x:bA)(s:Str)(ht:x.to.length≤6):∀ (n i:Nat) (w:Str),(Gb v x s n i w).length≤w.length+6*n
 |0,i,w=>by simp only [Gb];omega
 |n+1,i,w=>by
  unfold Gb
  split
  ·omega
  ·split
   ·have:=Lh v x s ht n (i+x.frm.length) (w++x.to)
    simp only [List.length_append] at this
    omega
   ·rename_i c _ _ _
    have:=Lh v x s ht n (i+1) (w++[c])
    simp only [List.length_append,List.length_singleton] at this
    omega
theorem SX(v:Str)(x:bA)(s:Str)(ht:x.to.length≤6):(uE v x s).length≤6*(s.length+1):=by
 have:=Lh v x s ht (s.length+1) 0 []
 simpa [uE] using this
theorem Ir(hB:pA E)(hX:o4 M)(H L:List ae){w s:Str}{a:AV}(ha:a = .nilp∨a = .ptr (H.length+1) 0)(h:w.length+s.length≤140737488355328) :
  M.run aN [.ptr (H.length+1) 0,.str s] (H++(bTok w::j9 a H.length w bu::L))=some (.ret (.tuple [.int .i64 s.length,.nilif]),H++(bTok (w++s)::j9 (.ptr (H.length+1) 0) H.length (w++s) bu::L)):=by
 rcases ha with rfl | rfl
 ·exact Ip M (T:=0) hB hX H L h
 ·exact Iq M hB hX H L h
theorem Li(hB:pA E)(hX:o4 M)(H L:List ae){w:Str}{c:UInt8}{a:AV}(ha:a = .nilp∨a = .ptr (H.length+1) 0)(h:w.length+1≤140737488355328) :
  M.run fh [.ptr (H.length+1) 0,.int .u8 c.toNat] (H++(bTok w::j9 a H.length w bu::L))=some (.ret .nilif,H++(bTok (w++[c])::j9 (.ptr (H.length+1) 0) H.length (w++[c]) bu::L)):=by
 rcases ha with rfl | rfl
 ·exact Ld M (T:=0) hB hX H L h
 ·exact Lg M hB hX H L h
theorem spw(hN:dG E)(hS:SpE E)(hX:o4 M)(hB:pA E){l:Lex}{x:bA}{n0:Nat}(hx0:x.ok n0)(h0:x.frm≠[])(ht:x.to.length≤6)(hfr:x.frm.length≤6)(hri:x.right.length≤6){s:Str}(hs:s.length≤1000000)
  {H H0:List ae}{p q:Nat}{T T2:TypeId} (hp:H[p]?=some (.cells l.row T)) (hq:H[q]?=some (.cells x.row T2)):∀ (n i:Nat) (w:Str) (a:AV),(a = .nilp∨a = .ptr (H.length+1) 0)→s.length<i+n→i≤s.length+6→w.length≤6*i →
  ∃ a',∀ (k:List Fra) (He:List ae),M.go da H0 (.c dS :: .lp ⟨(some [2,3,4,8,9]),[],false⟩ dS He :: .blk 0 :: .c (.lv [8])::k) (kv [(2,.str s),(3,.ptr p 0),(4,.ptr q 0),(8,.ptr (H.length+1) 0),(9,.int .i64 i)]) (H++[bTok w,j9 a H.length w bu]) =
   M.go da H0 k (kv [(8,.ptr (H.length+1) 0)]) (H++[bTok (Gb l.vowels x s n i w),j9 a' H.length (Gb l.vowels x s n i w) bu])
 |0,i,w,a,ha,hn,hi,hw=>by
  refine ⟨a,fun k He => ?_⟩
  have e:¬ i<s.length:=by omega
  rw [Gb]
  rw [aw M dS.eq_1]
  simp (maxSteps:=3000000) (maxDischargeDepth:=6) +contextual -implicitDefEqProofs only [amA M,amB,↓aj,↓ab,↓al,↓ak,Nat.reduceBEq,Nat.reduceAdd,env,ao,eF,e]
 |n+1,i,w,a,ha,hn,hi,hw=>by
  have hp':=fun L=>dj (L:=L) hp
  have hq':=fun L=>dj (L:=L) hq
  by_cases h:i<s.length
  ·have hx:s[i]?=some s[i]:=List.getElem?_eq_getElem h
   have hf:0<x.frm.length:=by cases hxf:x.frm with
    |nil=>exact absurd hxf h0
    |cons a b=>simp
   have l1:=fun H=>Us M hN hS hX (l:=l) hx0.left s (show i≤bD by simp only [bD];omega) H
   have r1:=fun H=>SV M hN hS hX (l:=l) (q:=x.right) s (show (i+x.frm.length)+x.right.length≤bD by simp only [bD];omega) H
   have e1:IntKind.i64.wrap ((i:Int)+(x.frm.length:Int))=((i+x.frm.length:Nat):Int):=by rw [eK (by omega) (by omega)];omega
   cases hA:Ut l.vowels x s i with
   |true=>
    obtain ⟨a',ih⟩:=spw hN hS hX hB hx0 h0 ht hfr hri hs hp hq n (i+x.frm.length) (w++x.to) (.ptr (H.length+1) 0) (.inr rfl) (by omega) (by omega) (by simp;omega)
    refine ⟨a',fun k He => ?_⟩
    simp only [kv_cons,kv_nil] at ih
    rw [Gb,hx,hA]
    simp only [Ut,Bool.and_eq_true] at hA
    have w1:=Ir M hB hX H [] (w:=w) (s:=x.to) ha (by omega)
    rw [aw M dS.eq_1]
    simp (maxSteps:=3000000) (maxDischargeDepth:=6) +contextual -implicitDefEqProofs only [amA M,amB,↓aj,↓ab,↓al,↓ak,Nat.reduceBEq,Nat.reduceAdd,env,ao,eF,h,hx,ih,hp',hq',cZ,yP,xj (Nat.le_of_lt h),tZ M hS,l1,r1,e1,hA.1,hA.2.1,hA.2.2,w1]
    all_goals exact ih _ _
   |false=>
    obtain ⟨a',ih⟩:=spw hN hS hX hB hx0 h0 ht hfr hri hs hp hq n (i+1) (w++[s[i]]) (.ptr (H.length+1) 0) (.inr rfl) (by omega) (by omega) (by simp;omega)
    refine ⟨a',fun k He => ?_⟩
    simp only [kv_cons,kv_nil] at ih
    rw [Gb,hx,hA]
    have w1:=Li M hB hX H [] (w:=w) (c:=s[i]) ha (by omega)
    have hA2:(kC (s.drop i) x.frm&&Pu l.vowels x.left s i&&N2 l.vowels x.right s (i+x.frm.length))=false:=by rw [← hA,Ut,Bool.and_assoc]
    rw [aw M dS.eq_1]
    cases c1:kC (s.drop i) x.frm with
    |false=>
     simp (maxSteps:=3000000) (maxDischargeDepth:=6) +contextual -implicitDefEqProofs only [amA M,amB,↓aj,↓ab,↓al,↓ak,Nat.reduceBEq,Nat.reduceAdd,env,ao,eF,h,hx,ih,hp',hq',cZ,yP,xj (Nat.le_of_lt h),tZ M hS,c1,w1,c6 h (show s.length≤bD by simp only [bD];omega)]
     all_goals exact ih _ _
    |true=>
     cases c2:Pu l.vowels x.left s i with
     |false=>
      simp (maxSteps:=3000000) (maxDischargeDepth:=6) +contextual -implicitDefEqProofs only [amA M,amB,↓aj,↓ab,↓al,↓ak,Nat.reduceBEq,Nat.reduceAdd,env,ao,eF,h,hx,ih,hp',hq',cZ,yP,xj (Nat.le_of_lt h),tZ M hS,l1,c1,c2,w1,c6 h (show s.length≤bD by simp only [bD];omega)]
      all_goals exact ih _ _
     |true=>
      rw [c1,c2] at hA2
      simp only [Bool.true_and] at hA2
      simp (maxSteps:=3000000) (maxDischargeDepth:=6) +contextual -implicitDefEqProofs only [amA M,amB,↓aj,↓ab,↓al,↓ak,Nat.reduceBEq,Nat.reduceAdd,env,ao,eF,h,hx,ih,hp',hq',cZ,yP,xj (Nat.le_of_lt h),tZ M hS,l1,r1,e1,c1,c2,hA2,w1,c6 h (show s.length≤bD by simp only [bD];omega)]
      all_goals exact ih _ _
  ·refine ⟨a,fun k He => ?_⟩
   have hx:s[i]?=none:=List.getElem?_eq_none (by omega)
   rw [Gb,hx]
   rw [aw M dS.eq_1]
   simp (maxSteps:=3000000) (maxDischargeDepth:=6) +contextual -implicitDefEqProofs only [amA M,amB,↓aj,↓ab,↓al,↓ak,Nat.reduceBEq,Nat.reduceAdd,env,ao,eF,h]
theorem SY(hN:dG E)(hS:SpE E)(hX:o4 M)(hB:pA E){l:Lex}{x:bA}{n0:Nat}(hx0:x.ok n0)(h0:x.frm≠[])(ht:x.to.length≤6)(hfr:x.frm.length≤6)(hri:x.right.length≤6){s:Str}(hs:s.length≤1000000)(H:List ae) :
  M.run mM [.agg l.row,.agg x.row,.str s] H=some (.ret (.tuple [.str (uE l.vowels x s),.bool (decide (((uE l.vowels x s).length:Int)≤512))]),H):=by
 rw [aY M hS.morph_language_spell rfl (c:=nn) rfl,nn]
 have hlen:(uE l.vowels x s).length≤9223372036854775807:=by have:=SX l.vowels x s ht;omega
 obtain ⟨a',h1⟩:=spw M hN hS hX hB hx0 h0 ht hfr hri hs (l:=l) (H:=H++[.cells l.row aD,.cells x.row eV]) (H0:=H) (p:=H.length) (q:=H.length+1) (T:=aD) (T2:=eV) (by rw [dX];rfl) (by rw [hp_getk];rfl) (s.length+1) 0 [] .nilp (.inl rfl) (by omega) (by omega) (by simp)
 have h2:=Pt M hB (H++[.cells l.row aD,.cells x.row eV]) [] (a:=a') (T:=bu) hlen
 have h3:=Uo M hB (H++[.cells l.row aD,.cells x.row eV]) [] (w:=uE l.vowels x s) (a:=a') (T:=bu)
 rw [← uE] at h1
 simp only [kv_cons,kv_nil,Int.ofNat_zero,lo_app3,NU,lo_app0,lo_len,lo_len1,lo_len0,Nat.zero_add,Nat.reduceAdd,Nat.add_assoc,(show bTok [] = .tok 0 dL from rfl),(show ∀ a n T,j9 a n [] T = .cells [a,.slice (.own n) 1 []] T from fun _ _ _=>rfl)] at h1 h2 h3
 simp (maxSteps:=3000000) (maxDischargeDepth:=6) +contextual -implicitDefEqProofs only [amA M,amB,↓aj,↓ab,↓al,↓ak,Nat.reduceBEq,Nat.reduceAdd,env,ao,eF,amG,AV.cell,Nat.reduceMul,Nat.reduceLeDiff,qU,Nat.add_assoc,h1,h2,h3,wk_tuple]
end
section
attribute [local congr] aF cu bm aG a7 aR aH aA aC aS aT
variable{E:bC}(M:cT cY E)
structure RSpE (E:bC):Prop where
 truchmanref02_matches:E.fn lR=some l9
 truchmanref02_applies:E.fn rz=some l8
 truchmanref02_rewrite:E.fn ry=some l7
end
section
attribute [local congr] aF cu bm aG a7 aR aH aA aC aS aT
variable{E:bC}(M:cT cY E)
theorem qZ{s t:Str}(h:s.length+t.length<9223372036854775808):rX .add s t=some (.str (s++t)):=WO h
structure Uu (l:Lex):Prop where
 vowels:l.vowels.all lC=true
 spells:∀ x∈l.spells.l,B1 x=0
 short:Wn l
theorem Uv{l:Lex}(h:cD l=0):Uu l:=by
 unfold cD at h
 simp only [XA,XB] at h
 rw [VG,Rz] at h
 cases hv:l.vowels.all lC with
 |false=>rw [hv] at h;simp [sel] at h
 |true=>
  rw [hv] at h
  cases hi:WZ l.vowels with
  |false=>rw [hi] at h;simp [sel] at h
  |true=>
   rw [hi] at h
   simp only [sel,beq_self_eq_true,Bool.not_true] at h
   cases h1:K6 l == 0 with
   |false=>rw [h1] at h;simp only [Bool.not_false] at h;rw [h] at h1;simp at h1
   |true=>
    rw [h1] at h;simp only [Bool.not_true] at h
    cases h2:F7 l == 0 with
    |false=>rw [h2] at h;simp only [Bool.not_false] at h;rw [h] at h2;simp at h2
    |true=>
     rw [h2] at h;simp only [Bool.not_true] at h
     cases h3:Il l == 0 with
     |false=>rw [h3] at h;simp only [Bool.not_false] at h;rw [h] at h3;simp at h3
     |true=>
      rw [h3] at h;simp only [Bool.not_true] at h
      cases h4:Im l == 0 with
      |false=>rw [h4] at h;simp only [Bool.not_false] at h;rw [h] at h4;simp at h4
      |true=>
       refine ⟨hv,fun x hx => ?_,Ud (eq_of_beq h2)⟩
       obtain ⟨k,hk⟩:=List.getElem?_of_mem hx
       exact (je (eq_of_beq h4)).2 k x hk
theorem Uw{x:bA}(h:B1 x=0):x.frm≠[]∧x.to.length≤6∧x.frm.length≤6∧x.right.length≤6∧x.left.length≤6:=by
 rw [Ug] at h
 cases c1:(x.frm == []||(!ofF [43] x.frm||(!ofF [43] x.to||(!ofF [43,35,86,67] x.left || !ofF [43,35,86,67] x.right)))) with
 |true=>rw [c1] at h;simp [sel] at h
 |false=>
  rw [c1] at h
  cases c2:(decide ((6:Int)<(x.frm.length:Int))||(decide ((6:Int)<(x.to.length:Int))||(decide ((6:Int)<(x.left.length:Int))||decide ((6:Int)<(x.right.length:Int))))) with
  |true=>rw [c2] at h;simp [sel] at h
  |false=>
   simp at c1 c2
   exact ⟨c1.1,by omega,by omega,by omega,by omega⟩
theorem iD{α:Type}{row:α→List AV}{l:List α}{tag:Tag}{sz:Nat}{k:IntKind}{r:Int}(h0:0≤r)(h:r.toNat<l.length):Bk sz (.slice tag sz (l.map row)) (.int k r)=some (.vptr sz (l.map row) r.toNat 0):=by
 have:=bo (row:=row) (tag:=tag) (sz:=sz) (k:=k) h
 rwa [Int.toNat_of_nonneg h0] at this
end
section
attribute [local congr] aF cu bm aG a7 aR aH aA aC aS aT
variable{E:bC}(M:cT cY E)
structure vL (E:bC):Prop where
 slices_Grow_api_Feat_api_Feat:E.fn fu=some cX
 slices_Concat_api_Feat_api_Feat:E.fn eQ=some cF
 slices_Compact_api_Feat_api_Feat:E.fn eD=some aV
 morph_union:E.fn yU=some n5
 slices_Index_api_Feat_api_Feat:E.fn hT=some bJ
 slices_Contains_api_Feat_api_Feat:E.fn gf=some ca
 morph_Subsumes_1:E.fn mK=some iJ
 morph_Subsumes:E.fn jX=some jY
 truchmanref02_Subsumes:E.fn qn=some lB
def bW(l:List aq):List AV:=(l.map aq.row).flatten
def nE(n:Nat):List AV:=(List.replicate n [AV.str [],AV.str []]).flatten
theorem pM(l:List aq):(bW l).length=l.length*2:=by
 unfold bW
 induction l with
 |nil=>rfl
 |cons x l ih=>simp only [List.map_cons,List.flatten_cons,List.length_append,ih,List.length_cons];simp [aq.row];omega
theorem Ep(a b:List aq):bW (a++b)=bW a++bW b:=by simp [bW]
theorem QN(n:Nat):(nE n).length=n*2:=by
 unfold nE;rw [List.length_flatten];simp
theorem I2(n:Nat):nE n=bW (List.replicate n ⟨[],[]⟩):=by simp [nE,bW,aq.row]
theorem SZ(hU:vL E)(H:List ae):M.run fu [.slice .nil 2 [],.int .i64 0] H=some (.ret (.slice .nil 2 []),H):=by
 rw [aY M hU.slices_Grow_api_Feat_api_Feat rfl (c:=ea) rfl,ea]
 have w0:IntKind.i64.wrap 0=0:=by decide
 simp (maxSteps:=3000000) (maxDischargeDepth:=6) +contextual -implicitDefEqProofs only [amA M,amB,↓aj,↓ab,↓al,↓ak,Nat.reduceBEq,Nat.reduceAdd,env,ao,lG,Oz,List.length_nil,Int.ofNat_zero,Int.sub_self,w0,(show decide ((0:Int)<0)=false from rfl)]
theorem Ux(hU:vL E){n:Nat}(h0:0<n)(hn:n≤4000000000)(H:List ae) :
  M.run fu [.slice .nil 2 [],.int .i64 n] H=some (.ret (.rslice H.length 0 0 2 true),H++[.cells (nE n) a6]):=by
 rw [aY M hU.slices_Grow_api_Feat_api_Feat rfl (c:=ea) rfl,ea]
 have w0:IntKind.i64.wrap 0=0:=by decide
 have w1:IntKind.i64.wrap ((n:Int)-0)=(n:Int):=by rw [eK (by omega) (by omega)];omega
 have h1:decide ((n:Int)<0)=false:=decide_eq_false (by omega)
 have h2:decide ((n:Int) > 0)=true:=decide_eq_true (by omega)
 have e1:Ez 2 (.slice .nil 2 []) none (some (.int .i64 0)) none=some (.slice .nil 2 []):=rfl
 have e2:Qb H a6 2 32 [.str [],.str []] (.slice .nil 2 []) (.int .i64 n)=some (.rslice H.length 0 n 2 true,H++[.cells (nE n) a6]):=by
  have a1:¬ (n:Int)=0:=by omega
  have a2:(0:Int)<n∧(n:Int).toNat*32≤140737488355328∧(n:Int)≤4611686018427387904:=by refine ⟨by omega, ?_,by omega⟩;simp;omega
  unfold Qb;dsimp only;rw [if_neg a1,if_pos a2];rfl
 have e3:Ez 2 (.rslice H.length 0 n 2 true) none (some (.int .i64 0)) none=some (.rslice H.length 0 0 2 true):=by simp [Ez,fI]
 simp (maxSteps:=3000000) (maxDischargeDepth:=6) +contextual -implicitDefEqProofs only [amA M,amB,↓aj,↓ab,↓al,↓ak,Nat.reduceBEq,Nat.reduceAdd,env,ao,lG,amZ,Oz,List.length_nil,Int.ofNat_zero,Int.sub_self,w0,w1,h1,h2,e1,e2,e3]
theorem S0{H:List ae}{n:Nat}{t:Tag}{a:List aq}(h:a.length≤4000000000) :
  rap true (H++[.cells (nE n) a6]) a6 2 32 false (.rslice H.length 0 0 2 true) (.slice t 2 (a.map aq.row))=some (.rslice (H.length+1) 0 a.length 2 true,H++[.dead,.cells (bW a) a6]):=by
 have hr:n9 2 (a.map aq.row)=true:=by simp [n9,aq.row,AV.cell]
 simp only [rap,GI,Ct,or_true,if_true,hr,dX,List.length_map,Nat.zero_add,Nat.zero_mul,Nat.zero_le,true_and,List.take_zero,List.nil_append,hp_set0,List.length_append,List.length_cons,List.length_nil,List.getElem?_cons_zero,List.set_cons_zero]
 rw [if_pos ⟨by omega,by omega⟩]
 simp [bW]
theorem Uy{H:List ae}{a b:List aq}{t:Tag}(h:a.length+b.length≤4000000000) :
  rap true (H++[.dead,.cells (bW a) a6]) a6 2 32 false (.rslice (H.length+1) 0 a.length 2 true) (.slice t 2 (b.map aq.row))=some (.rslice (H.length+2) 0 (a++b).length 2 true,H++[.dead,.dead,.cells (bW (a++b)) a6]):=by
 have hr:n9 2 (b.map aq.row)=true:=by simp [n9,aq.row,AV.cell]
 have hg:(H++[ae.dead,.cells (bW a) a6])[H.length+1]?=some (.cells (bW a) a6):=by rw [hp_getk];rfl
 have hs:(H++[ae.dead,.cells (bW a) a6]).set (H.length+1) .dead=H++[.dead,.dead]:=by
  rw [List.set_append_right _ _ (by omega)];simp
 simp only [rap,GI,Ct,or_true,if_true,hr,hg,hs,List.length_map,true_and,List.length_append,List.length_cons,List.length_nil]
 rw [if_pos ⟨by rw [pM];exact Nat.le_refl _,by omega,by omega⟩]
 have e:(bW a).take (a.length*2)=bW a:=List.take_of_length_le (by rw [pM];exact Nat.le_refl _)
 rw [e,Ep]
 simp [bW]
theorem M5{H:List ae}{t:Tag}(ht:t = .nil∨t = .full){t2:Tag}:rap true H a6 2 32 false (.slice t 2 []) (.slice t2 2 [])=some (.slice .full 2 [],H):=by
 rcases ht with rfl | rfl<;>rfl
theorem QO(hU:vL E){a b:List aq}{ta tb:Tag}(h0:0<a.length+b.length)(h:a.length+b.length≤4000000000)(H:List ae) :
  M.run eQ [.slice .full 1 [[.slice ta 2 (a.map aq.row)],[.slice tb 2 (b.map aq.row)]]] H=some (.ret (.rslice (H.length+2) 0 (a++b).length 2 true),H++[.dead,.dead,.cells (bW (a++b)) a6]):=by
 rw [aY M hU.slices_Concat_api_Feat_api_Feat rfl (c:=dJ) rfl,dJ]
 have w1:IntKind.i64.wrap (0+(a.length:Int))=(a.length:Int):=by rw [eK (by omega) (by omega)];omega
 have w2:IntKind.i64.wrap ((a.length:Int)+(b.length:Int))=((a.length+b.length:Nat):Int):=by rw [eK (by omega) (by omega)];omega
 have w3:IntKind.i64.wrap (0+1)=1:=by decide
 have w4:IntKind.i64.wrap (1+1)=2:=by decide
 have d1:decide ((a.length:Int)<0)=false:=decide_eq_false (by omega)
 have d2:decide (((a.length+b.length:Nat):Int)<0)=false:=decide_eq_false (by omega)
 have i0:Bk 1 (.slice .full 1 [[.slice ta 2 (a.map aq.row)],[.slice tb 2 (b.map aq.row)]]) (.int .i64 0)=some (.vptr 1 [[.slice ta 2 (a.map aq.row)],[.slice tb 2 (b.map aq.row)]] 0 0):=rfl
 have i1:Bk 1 (.slice .full 1 [[.slice ta 2 (a.map aq.row)],[.slice tb 2 (b.map aq.row)]]) (.int .i64 1)=some (.vptr 1 [[.slice ta 2 (a.map aq.row)],[.slice tb 2 (b.map aq.row)]] 1 0):=rfl
 have n0:(([[.slice ta 2 (a.map aq.row)],[.slice tb 2 (b.map aq.row)]]:List (List AV)).length:Int)=2:=rfl
 have n1:decide ((0:Int)<2)=true:=rfl
 have n2:decide ((1:Int)<2)=true:=rfl
 have n3:decide ((2:Int)<2)=false:=rfl
 have g0:([[.slice ta 2 (a.map aq.row)],[.slice tb 2 (b.map aq.row)]]:List (List AV))[0]?=some [.slice ta 2 (a.map aq.row)]:=rfl
 have g1:([[.slice ta 2 (a.map aq.row)],[.slice tb 2 (b.map aq.row)]]:List (List AV))[1]?=some [.slice tb 2 (b.map aq.row)]:=rfl
 have l0:∀ x:AV,cG none [x] 0=some x:=fun _=>rfl
 simp (maxSteps:=3000000) (maxDischargeDepth:=6) +contextual -implicitDefEqProofs only [amA M,amB,↓aj,↓ab,↓al,↓ak,Nat.reduceBEq,Nat.reduceAdd,env,ao,kp,n0,n1,n2,n3,g0,g1,l0,aw M gn.eq_1,aw M gp.eq_1,w1,w2,w3,w4,d1,d2,i0,i1,Ux M hU h0 h,S0 (show a.length≤4000000000 by omega),Uy h]
end
section
attribute [local congr] aF cu bm aG a7 aR aH aA aC aS aT
variable{E:bC}(M:cT cY E)
def ddF:aq→List aq→List aq
 |_,[]=>[]
 |p,q::t=>if (q.name == p.name&&q.value == p.value)=true then ddF q t else q::ddF q t
def jkF:List aq→aq→List aq→List aq
 |mid,p,[]=>mid++[p]
 |mid,p,q::t=>if (q.name == p.name&&q.value == p.value)=true then jkF (mid++[p]) q t else jkF ((mid++[p]).tail) q t
def yI:List aq→List aq
 |[]=>[]
 |x::l=>x::ddF x l
theorem QP:∀ (t mid:List aq) (p:aq),(jkF mid p t).length+(ddF p t).length=mid.length+1+t.length
 |[],mid,p=>by simp [jkF,ddF]
 |q::t,mid,p=>by
  rw [jkF,ddF]
  split
  ·rw [QP t (mid++[p]) q];simp;omega
  ·rw [List.length_cons,← Nat.add_assoc,QP t ((mid++[p]).tail) q];simp;omega
theorem Er(A B:List aq)(q:aq)(rest:List AV){n:Nat}(h:n=A.length*2):cG (some 2) (bW (A++q::B)++rest) n=some (.agg q.row):=by
 subst h
 have hl:=pM A
 have e:bW (A++q::B)++rest=bW A++(q.row++(bW B++rest)):=by rw [Ep];simp [bW]
 have hq:q.row.length=2:=rfl
 simp only [cG]
 rw [e,if_pos (by simp only [List.length_append,hl,hq];omega),← hl,List.drop_left,List.take_left' hq]
theorem Gc:∀ (A x y rest:List AV),x.length=y.length→aL (A++(x++rest)) A.length y=A++(y++rest)
 |A,[],[],rest,_=>by simp [setRow_nil]
 |A,[],_::_,rest,h=>by cases h
 |A,_::_,[],rest,h=>by cases h
 |A,b::x,a::y,rest,h=>by
  rw [setRow_cons]
  have h2:(A++(b::x++rest)).set A.length a=(A++[a])++(x++rest):=by simp
  have:=Gc (A++[a]) x y rest (by simpa using h)
  rw [List.length_append,List.length_cons,List.length_nil,Nat.zero_add] at this
  rw [h2,this];simp
theorem QQ(A B:List aq)(m q:aq)(rest:List AV){n:Nat}(h:n=A.length*2):aL (bW (A++m::B)++rest) n q.row=bW (A++q::B)++rest:=by
 subst h
 have e:∀ m:aq,bW (A++m::B)++rest=bW A++(m.row++(bW B++rest)):=fun m=>by rw [Ep];simp [bW]
 rw [e,e,← pM A,Gc (bW A) m.row q.row (bW B++rest) rfl]
theorem Lj{id off len n:Nat}{room:Bool}(h:n<len):Bk 2 (.rslice id off len 2 room) (.int .i64 (n:Int))=some (.ptr id (off+n*2)):=by simp [Bk,h]
theorem Et{g:Option Nat}{H:List ae}{id n:Nat}{cs:List AV}{T:TypeId}(h:H[id]?=some (.cells cs T)):pF g H (.ptr id n)=cG g cs n:=by simp [pF,h]
theorem RD{H:List ae}{id:Nat}(h:id<H.length)(o:ae):(H.set id o)[id]?=some o:=by simp [h]
theorem Ho(n:Nat)(L:List aq)(rest:List AV)(hr:∀ c∈rest,Wk n c c)(T:TypeId):Rk n (.cells (bW L++rest) T):=fun c hc=>by
 rcases List.mem_append.1 hc with h | h
 ·unfold bW at h
  obtain ⟨r,hr1,hr2⟩:=List.mem_flatten.1 h
  obtain ⟨f,_,rfl⟩:=List.mem_map.1 hr1
  simp only [aq.row,List.mem_cons,List.not_mem_nil,or_false] at hr2
  rcases hr2 with rfl | rfl<;>exact wk_str _ _
 ·exact hr c h
theorem cpi(hU:vL E){H H0:List ae}{id:Nat}(hid:id<H.length){T:TypeId}{rest:List AV}(k:List Fra){n off:Nat}(hn:n≤4000000000) :
  ∀ (t out mid:List aq) (p:aq) (k2:Nat) (He:List ae),out.length+mid.length+1=off+k2→out.length+mid.length+1+t.length=n→1≤k2 →
  M.go aV H0 (.c b5 :: .lp ⟨(some [0,3,4,5]),[],false⟩ b5 He :: .blk 2 :: .c (.lv [0,3])::k) (kv [(0,.rslice id 0 n 2 true),(3,.int .i64 out.length),(4,.rslice id (off*2) (n-off) 2 true),(5,.int .i64 k2)]) (H.set id (.cells (bW (out++(mid++p::t))++rest) T)) =
   M.go aV H0 k (kv [(0,.rslice id 0 n 2 true),(3,.int .i64 (out++ddF p t).length)]) (H.set id (.cells (bW ((out++ddF p t)++jkF mid p t)++rest) T))
 |[],out,mid,p,k2,He,h1,h2,h3=>by
  have d:decide (k2<n-off)=false:=decide_eq_false (by simp at h2;omega)
  have e:bW ((out++ddF p [])++jkF mid p [])=bW (out++(mid++[p])):=by simp [ddF,jkF]
  rw [e,show out++ddF p []=out by simp [ddF]]
  rw [aw M b5.eq_1]
  simp (maxSteps:=3000000) (maxDischargeDepth:=6) +contextual -implicitDefEqProofs only [amA M,amB,↓aj,↓ab,↓al,↓ak,Nat.reduceBEq,Nat.reduceAdd,env,ao,a8,d,Bl]
 |q::t,out,mid,p,k2,He,h1,h2,h3=>by
  simp only [List.length_cons] at h2
  have d:decide (k2<n-off)=true:=decide_eq_true (by omega)
  have b1:IntKind.i64.wrap ((k2:Int)-1)=((k2-1:Nat):Int):=by rw [eK (by omega) (by omega)];omega
  have b2:IntKind.i64.wrap ((k2:Int)+1)=((k2+1:Nat):Int):=by rw [eK (by omega) (by omega)];omega
  have b3:IntKind.i64.wrap ((out.length:Int)+1)=((out.length+1:Nat):Int):=by rw [eK (by omega) (by omega)];omega
  have i1:Bk 2 (.rslice id (off*2) (n-off) 2 true) (.int .i64 (k2:Int))=some (.ptr id (off*2+k2*2)):=Lj (by omega)
  have i2:Bk 2 (.rslice id (off*2) (n-off) 2 true) (.int .i64 ((k2-1:Nat):Int))=some (.ptr id (off*2+(k2-1)*2)):=Lj (by omega)
  have i3:Bk 2 (.rslice id 0 n 2 true) (.int .i64 (out.length:Int))=some (.ptr id (0+out.length*2)):=Lj (by omega)
  have hg:∀ c,(H.set id c)[id]?=some c:=fun c=>RD hid c
  have l1:cG (some 2) (bW (out++(mid++p::q::t))++rest) (off*2+k2*2)=some (.agg q.row):=by
   have:=Er (out++(mid++[p])) t q rest (n:=off*2+k2*2) (by simp;omega)
   simpa [List.append_assoc] using this
  have l2:cG (some 2) (bW (out++(mid++p::q::t))++rest) (off*2+(k2-1)*2)=some (.agg p.row):=by
   have:=Er (out++mid) (q::t) p rest (n:=off*2+(k2-1)*2) (by simp;omega)
   simpa [List.append_assoc] using this
  cases hqp:(q.name == p.name&&q.value == p.value) with
  |true=>
   have ih:=fun He=>cpi hU (H:=H) (H0:=H0) hid (T:=T) (rest:=rest) k (off:=off) hn t out (mid++[p]) q (k2+1) He (by simp;omega) (by simp;omega) (by omega)
   simp only [kv_cons,kv_nil,List.append_assoc,List.cons_append,List.nil_append] at ih
   rw [ddF,if_pos hqp,jkF,if_pos hqp,List.append_assoc out (ddF q t)]
   rw [aw M b5.eq_1]
   simp (maxSteps:=3000000) (maxDischargeDepth:=6) +contextual -implicitDefEqProofs only [amA M,amB,↓aj,↓ab,↓al,↓ak,Nat.reduceBEq,Nat.reduceAdd,env,ao,a8,d,Bl,b1,b2,i1,i2,hg,l1,l2,Et (hg _),DY,hqp,ih]
  |false=>
   have hne:¬ ((q.name == p.name&&q.value == p.value)=true):=by rw [hqp];simp
   obtain ⟨m0,mid',hm⟩:∃ m0 mid',mid++[p]=m0::mid':=by cases mid with
    |nil=>exact ⟨p,[],rfl⟩
    |cons a b=>exact ⟨a,b++[p],rfl⟩
   have hml:mid'.length=mid.length:=by have:=congrArg List.length hm;simp at this;omega
   have ih:=fun He=>cpi hU (H:=H) (H0:=H0) hid (T:=T) (rest:=rest) k (off:=off) hn t (out++[q]) mid' q (k2+1) He (by simp;omega) (by simp;omega) (by omega)
   have hst:aL (bW (out++(mid++p::q::t))++rest) (0+out.length*2) q.row=bW ((out++[q])++(mid'++q::t))++rest:=by
    have e1:out++(mid++p::q::t)=out++m0::(mid'++q::t):=by
     have:mid++p::q::t=(mid++[p])++q::t:=by simp
     rw [this,hm];rfl
    rw [e1,QQ out (mid'++q::t) m0 q rest (by omega)];simp
   have hlen:0+out.length*2+2≤(bW (out++(mid++p::q::t))++rest).length:=by
    rw [List.length_append,pM];simp;omega
   rw [ddF,if_neg hne,jkF,if_neg hne,hm,List.tail_cons]
   simp only [kv_cons,kv_nil,List.length_append,List.length_cons,List.length_nil,Nat.zero_add] at ih
   rw [show out++q::ddF q t=(out++[q])++ddF q t by simp,show ((out++[q])++ddF q t).length=out.length+1+(ddF q t).length by simp;omega]
   have hss:∀ a b,(H.set id a).set id b=H.set id b:=fun a b=>by rw [List.set_set]
   rw [aw M b5.eq_1]
   have hsto:stO 2 (H.set id (.cells (bW (out++(mid++p::q::t))++rest) T)) id (0+out.length*2) q.row (some (.cells (bW (out++(mid++p::q::t))++rest) T))=some (H.set id (.cells (bW ((out++[q])++(mid'++q::t))++rest) T)):=by
    simp only [stO]
    rw [if_pos ⟨rfl,hlen,rfl⟩,hst,hss]
   simp (maxSteps:=3000000) (maxDischargeDepth:=6) +contextual -implicitDefEqProofs only [amA M,amB,↓aj,↓ab,↓al,↓ak,Nat.reduceBEq,Nat.reduceAdd,env,ao,a8,d,Bl,b1,b2,b3,i1,i2,i3,hg,l1,l2,Et (hg _),DY,hqp,hsto,(show ∀ H,Fm (some H)=some (jf,H) from fun _=>rfl),ih]
theorem VJ{H0 H:List ae}(h:dM H0 H)(id:Nat){o:ae}(hw:Rk H0.length o):dM H0 (H.set id o):=by
 refine ⟨by simpa using h.1,fun i x hi hx => ?_⟩
 rw [List.getElem?_set] at hx
 split at hx
 ·split at hx
  ·cases hx;exact .inr hw
  ·cases hx
 ·exact h.2 i x hi hx
def cpR(M:cT cY E)(H0:List ae)(k:List Fra)(id:Nat)(T:TypeId)(rest:List AV)(H:List ae)(n:Nat):List aq→aq→List aq→Option Out
 |_,_,[]=>M.go aV H0 k (kv [(0,.rslice id 0 n 2 true)]) H
 |out,p,q::t=>if (q.name == p.name&&q.value == p.value)=true then
   some (.ret (.rslice id 0 (out++p::ddF q t).length 2 true),(H.set id (.cells (bW (out++p::ddF q t)++(nE (n-(out++p::ddF q t).length)++rest)) T)).take H0.length)
  else cpR M H0 k id T rest H n (out++[p]) q t
theorem cpo(hU:vL E){H H0:List ae}{id:Nat}(hid:id<H.length)(hi0:id<H0.length)(hc:dM H0 H){T:TypeId}{rest:List AV}(hr:∀ c∈rest,Wk H0.length c c)(k:List Fra){l:List aq}(hn:l.length≤4000000000)(hx:H[id]?=some (.cells (bW l++rest) T)) :
  ∀ (t out:List aq) (p:aq) (He:List ae),l=out++p::t →
  M.go aV H0 (.c b6 :: .lp ⟨(some [0,3]),[],false⟩ b6 He :: .blk 0 :: .c (.lv [0])::k) (kv [(0,.rslice id 0 l.length 2 true),(3,.int .i64 (out.length+1:Nat))]) H=cpR M H0 k id T rest H l.length out p t
 |[],out,p,He,hl=>by
  have d:decide (out.length+1<l.length)=false:=decide_eq_false (by rw [hl];simp)
  rw [cpR]
  rw [aw M b6.eq_1]
  simp (maxSteps:=3000000) (maxDischargeDepth:=6) +contextual -implicitDefEqProofs only [amA M,amB,↓aj,↓ab,↓al,↓ak,Nat.reduceBEq,Nat.reduceAdd,env,ao,a8,d,Bl]
 |q::t,out,p,He,hl=>by
  have hll:l.length=out.length+1+(t.length+1):=by rw [hl];simp;omega
  have d:decide (out.length+1<l.length)=true:=decide_eq_true (by omega)
  have b1:IntKind.i64.wrap (((out.length+1:Nat):Int)-1)=((out.length:Nat):Int):=by rw [eK (by omega) (by omega)];omega
  have b2:IntKind.i64.wrap (((out.length+1:Nat):Int)+1)=((out.length+1+1:Nat):Int):=by rw [eK (by omega) (by omega)];omega
  have i1:Bk 2 (.rslice id 0 l.length 2 true) (.int .i64 ((out.length+1:Nat):Int))=some (.ptr id (0+(out.length+1)*2)):=Lj (by omega)
  have i2:Bk 2 (.rslice id 0 l.length 2 true) (.int .i64 ((out.length:Nat):Int))=some (.ptr id (0+out.length*2)):=Lj (by omega)
  have l1:cG (some 2) (bW l++rest) (0+(out.length+1)*2)=some (.agg q.row):=by
   have:=Er (out++[p]) t q rest (n:=0+(out.length+1)*2) (by simp)
   rw [hl];simpa [List.append_assoc] using this
  have l2:cG (some 2) (bW l++rest) (0+out.length*2)=some (.agg p.row):=by
   rw [hl];exact Er out (q::t) p rest (by omega)
  cases hqp:(q.name == p.name&&q.value == p.value) with
  |true=>
   rw [cpR,if_pos hqp]
   have hin:=fun k He=>cpi M hU (H:=H) (H0:=H0) hid (T:=T) (rest:=rest) k (n:=l.length) (off:=out.length+1) hn t (out++[p]) [] q 1 He (by simp) (by simp;omega) (by omega)
   have hl2:l=(out++[p])++([]++q::t):=by rw [hl];simp
   have hs:H.set id (.cells (bW ((out++[p])++([]++q::t))++rest) T)=H:=by rw [← hl2];exact zQ hx
   have ho:(out++[p]).length=out.length+1:=by simp
   simp only [hs,ho,(show ((1:Nat):Int)=1 from rfl)] at hin
   simp only [kv_cons,kv_nil] at hin
   generalize hK:(out++[p])++ddF q t=K at hin
   have hjk:=QP t [] q
   have hKl:K.length+(jkF [] q t).length=l.length:=by rw [← hK,hll];simp;simp at hjk;omega
   have hjp:0<(jkF [] q t).length:=by
    have:(ddF q t).length≤t.length:=by
     have key:∀ (t:List aq) (q:aq),(ddF q t).length≤t.length:=fun t=>by
      induction t with
      |nil=>intro q;simp [ddF]
      |cons a t ih=>
       intro q;rw [ddF];have:=ih a;split<;>simp<;>omega
     exact key t q
    simp at hjk;omega
   have hKp:0<K.length:=by rw [← hK];simp;omega
   have s1:Ez 2 (.rslice id 0 l.length 2 true) (some (.int .i64 ((out.length+1:Nat):Int))) none none=some (.rslice id ((out.length+1)*2) (l.length-(out.length+1)) 2 true):=by
    simp only [Ez,fI]
    rw [if_pos (by omega),Int.toNat_natCast]
    simp only []
    rw [if_pos ⟨trivial,.inl (by omega),Nat.le_refl _⟩,Nat.zero_add]
   have s2:Ez 2 (.rslice id 0 l.length 2 true) (some (.int .i64 (K.length:Int))) none none=some (.rslice id (K.length*2) (l.length-K.length) 2 true):=by
    simp only [Ez,fI]
    rw [if_pos (by omega),Int.toNat_natCast]
    simp only []
    rw [if_pos ⟨trivial,.inl (by omega),Nat.le_refl _⟩,Nat.zero_add]
   have s3:Ez 2 (.rslice id 0 l.length 2 true) none (some (.int .i64 (K.length:Int))) none=some (.rslice id 0 K.length 2 true):=by
    simp only [Ez,fI]
    rw [if_pos (by omega),Int.toNat_natCast]
    simp only []
    rw [if_pos ⟨trivial,.inl (by omega),by omega⟩];simp
   have hcl:rcl (H.set id (.cells (bW (K++jkF [] q t)++rest) T)) 2 [.str [],.str []] (.rslice id (K.length*2) (l.length-K.length) 2 true)=some (H.set id (.cells (bW K++(nE (l.length-K.length)++rest)) T)):=by
    simp only [rcl,RD hid]
    rw [if_pos ⟨trivial,by rw [List.length_append,pM,List.length_append];omega⟩,List.set_set]
    have e:bW (K++jkF [] q t)++rest=bW K++(bW (jkF [] q t)++rest):=by rw [Ep];simp
    have:=Gc (bW K) (bW (jkF [] q t)) (nE (l.length-K.length)) rest (by rw [pM,QN];omega)
    rw [pM] at this
    rw [e]
    show some (H.set id (.cells (aL _ _ (nE (l.length-K.length))) T))=_
    rw [this]
   have hcut:dM H0 (H.set id (.cells (bW K++(nE (l.length-K.length)++rest)) T)):=VJ hc id (Ho _ K _ (fun c hcm=>by
    rcases List.mem_append.1 hcm with h | h
    ·rw [I2] at h
     exact Ho _ _ [] (fun _ h=>by cases h) T c (by simpa using h)
    ·exact hr c h) T)
   have hfin:vj cY .drop H0 (H.set id (.cells (bW K++(nE (l.length-K.length)++rest)) T)) (.rslice id 0 K.length 2 true)=some (.rslice id 0 K.length 2 true,(H.set id (.cells (bW K++(nE (l.length-K.length)++rest)) T)).take H0.length):=handV_drop hcut (wk_rslice hi0)
   have hK2:out++p::ddF q t=K:=by rw [← hK];simp
   rw [hK2]
   rw [aw M b6.eq_1]
   simp (maxSteps:=3000000) (maxDischargeDepth:=6) +contextual -implicitDefEqProofs only [amA M,amB,↓aj,↓ab,↓al,↓ak,Nat.reduceBEq,Nat.reduceAdd,env,ao,a8,amZ,d,Bl,b1,i1,i2,hx,l1,l2,Et hx,DY,hqp,s1,s2,s3,hin,hcl,hfin]
  |false=>
   have hne:¬ ((q.name == p.name&&q.value == p.value)=true):=by rw [hqp];simp
   rw [cpR,if_neg hne]
   have ih:=fun He=>cpo hU (H0:=H0) hid hi0 hc hr k hn hx t (out++[p]) q He (by rw [hl];simp)
   have ho:(out++[p]).length=out.length+1:=by simp
   simp only [kv_cons,kv_nil,ho] at ih
   rw [aw M b6.eq_1]
   simp (maxSteps:=3000000) (maxDischargeDepth:=6) +contextual -implicitDefEqProofs only [amA M,amB,↓aj,↓ab,↓al,↓ak,Nat.reduceBEq,Nat.reduceAdd,env,ao,a8,d,Bl,b1,b2,i1,i2,hx,l1,l2,Et hx,DY,hqp,ih]
end
def Gd(l:List aq):Prop:=l.Pairwise fun x y=>Op.bytesLess x.name y.name=true
def Wek(l:List aq):Prop:=l.Pairwise fun x y=>Op.bytesLess y.name x.name=false
theorem D6:∀ {l:List aq},zq l=true→Gd l
 |[],_=>.nil
 |x::l,h=>.cons (vK h) (D6 (A4 h))
theorem Lk{x y:aq}(h:(x.name == y.name&&x.value == y.value)=true):x=y:=by
 simp only [Bool.and_eq_true,beq_iff_eq] at h
 cases x;cases y;simp only at h;rw [h.1,h.2]
theorem QR(x:aq):(x.name == x.name&&x.value == x.value)=true:=by simp
theorem Pv{l:List aq}(h:Gd l){x y:aq}(hx:x∈l)(hy:y∈l)(hn:x.name=y.name):x=y:=by
 induction l with
 |nil=>cases hx
 |cons a l ih=>
  rw [Gd,List.pairwise_cons] at h
  rcases List.mem_cons.1 hx with hx1 | hx1<;>rcases List.mem_cons.1 hy with hy1 | hy1
  ·rw [hx1,hy1]
  ·have:=h.1 y hy1;rw [← hx1,hn,D0] at this;cases this
  ·have:=h.1 x hx1;rw [← hy1,hn,D0] at this;cases this
  ·exact ih h.2 hx1 hy1
theorem RE:∀ {l m:List aq},Gd l→Gd m→(∀ x,x∈l↔x∈m)→l=m
 |[],[],_,_,_=>rfl
 |[],y::m,_,_,h=>by have:=(h y).2 (by simp);cases this
 |x::l,[],_,_,h=>by have:=(h x).1 (by simp);cases this
 |x::l,y::m,hl,hm,h=>by
  rw [Gd,List.pairwise_cons] at hl hm
  have hxy:x=y:=by
   rcases List.mem_cons.1 ((h x).1 (by simp)) with e | h1
   ·exact e
   ·rcases List.mem_cons.1 ((h y).2 (by simp)) with e | h2
    ·exact e.symm
    ·have a1:=hm.1 x h1
     have a2:=hl.1 y h2
     rw [Uc a1] at a2;cases a2
  subst hxy
  congr 1
  refine RE hl.2 hm.2 fun z=>⟨fun hz => ?_,fun hz => ?_⟩
  ·rcases List.mem_cons.1 ((h z).1 (by simp [hz])) with e | h1
   ·have:=hl.1 z hz;rw [e,D0] at this;cases this
   ·exact h1
  ·rcases List.mem_cons.1 ((h z).2 (by simp [hz])) with e | h1
   ·have:=hm.1 z hz;rw [e,D0] at this;cases this
   ·exact h1
theorem yJ:∀ (n:Nat) (a b m:List aq),a.length+b.length≤n→Gd a→Gd b→kB a b=some m→(∀ x,x∈m↔x∈a∨x∈b)∧Gd m
 |_,[],b,m,_,_,hb,h=>by
  have:kB [] b=some b:=by cases b<;>simp [kB]
  rw [this] at h;cases h
  exact ⟨fun x=>by simp,hb⟩
 |_,x::a,[],m,_,ha,_,h=>by
  have:kB (x::a) []=some (x::a):=by simp [kB]
  rw [this] at h;cases h
  exact ⟨fun x=>by simp,ha⟩
 |0,x::a,y::b,m,hl,_,_,_=>by simp at hl
 |n+1,x::a,y::b,m,hl,ha,hb,h=>by
  have ha':=ha;have hb':=hb
  rw [Gd,List.pairwise_cons] at ha hb
  simp only [List.length_cons] at hl
  rw [kB] at h
  cases c1:Op.bytesLess x.name y.name with
  |true=>
   rw [c1] at h
   simp only [Option.map_eq_some_iff] at h
   obtain ⟨m',h1,rfl⟩:=h
   obtain ⟨g1,g2⟩:=yJ n a (y::b) m' (by simp only [List.length_cons];omega) ha.2 hb' h1
   refine ⟨fun z=>by rw [List.mem_cons,g1,List.mem_cons (a:=z) (b:=x),or_assoc],List.pairwise_cons.2 ⟨fun z hz => ?_,g2⟩⟩
   rcases (g1 z).1 hz with h | h
   ·exact ha.1 z h
   ·rcases List.mem_cons.1 h with rfl | h
    ·exact c1
    ·exact qI c1 (hb.1 z h)
  |false=>
   rw [c1] at h
   simp only at h
   cases c2:Op.bytesLess y.name x.name with
   |true=>
    rw [c2] at h
    simp only [Option.map_eq_some_iff] at h
    obtain ⟨m',h1,rfl⟩:=h
    obtain ⟨g1,g2⟩:=yJ n (x::a) b m' (by simp only [List.length_cons];omega) ha' hb.2 h1
    refine ⟨fun z=>by rw [List.mem_cons,g1,List.mem_cons (a:=z) (b:=y) (l:=b)];exact or_left_comm,List.pairwise_cons.2 ⟨fun z hz => ?_,g2⟩⟩
    rcases (g1 z).1 hz with h | h
    ·rcases List.mem_cons.1 h with rfl | h
     ·exact c2
     ·exact qI c2 (ha.1 z h)
    ·exact hb.1 z h
   |false=>
    rw [c2] at h
    simp only at h
    have hn:=K8 c1 c2
    cases c3:(x.name == y.name&&x.value == y.value) with
    |false=>rw [c3] at h;cases h
    |true=>
     rw [c3] at h
     simp only [Option.map_eq_some_iff] at h
     obtain ⟨m',h1,rfl⟩:=h
     have hxy:=Lk c3
     subst hxy
     obtain ⟨g1,g2⟩:=yJ n a b m' (by omega) ha.2 hb.2 h1
     refine ⟨fun z=>by rw [List.mem_cons,g1,List.mem_cons (a:=z) (b:=x) (l:=a),List.mem_cons (a:=z) (b:=x) (l:=b)];exact or_or_distrib_left,List.pairwise_cons.2 ⟨fun z hz => ?_,g2⟩⟩
     rcases (g1 z).1 hz with h | h
     ·exact ha.1 z h
     ·exact hb.1 z h
theorem QS:∀ (l:List aq) (p q:aq),q∈p::ddF p l↔q∈p::l
 |[],p,q=>by simp [ddF]
 |r::t,p,q=>by
  rw [ddF]
  split
  ·rename_i h
   obtain rfl:=Lk h
   rw [QS t r q];simp
  ·rw [List.mem_cons,QS t r q,List.mem_cons (a:=q) (b:=p)]
theorem Uz:∀ (l:List aq) (p:aq),Wek (p::l)→(∀ x∈p::l,∀ y∈p::l,x.name=y.name→x=y)→Gd (p::ddF p l)
 |[],p,_,_=>by simp [ddF,Gd]
 |q::t,p,hw,hu=>by
  have hw':=hw
  rw [Wek,List.pairwise_cons] at hw
  have ih:=Uz t q hw.2 (fun x hx y hy=>hu x (by simp at hx ⊢;exact .inr hx) y (by simp at hy ⊢;exact .inr hy))
  rw [ddF]
  split
  ·rename_i h
   obtain rfl:=Lk h
   exact ih
  ·rename_i h
   have hpq:Op.bytesLess p.name q.name=true:=by
    have h1:=hw.1 q (by simp)
    cases h2:Op.bytesLess p.name q.name with
    |true=>rfl
    |false=>
     have:=hu p (by simp) q (by simp) (K8 h2 h1)
     subst this
     exact absurd (QR p) h
   refine List.pairwise_cons.2 ⟨fun z hz => ?_,ih⟩
   rcases List.mem_cons.1 hz with rfl | hz
   ·exact hpq
   ·exact qI hpq ((List.pairwise_cons.1 ih).1 z hz)
structure Srt (srt:List aq→List aq):Prop where
 perm:∀ l,(srt l).Perm l
 ord:∀ l,Wek (srt l)
theorem UA{a b:List aq}(ha:Gd a)(hb:Gd b)(hc:lD a b=false):∀ x∈a++b,∀ y∈a++b,x.name=y.name→x=y:=by
 have hab:∀ x∈a,∀ y∈b,x.name=y.name→x=y:=fun x hx y hy hn=>by
  have h1:(b.any fun g=>jS x g)=false:=by
   unfold lD at hc
   rw [List.any_eq_false] at hc
   have:=hc x hx
   simpa using this
  rw [List.any_eq_false] at h1
  have h2:=h1 y hy
  simp only [jS,hn,beq_self_eq_true,Bool.true_and,Bool.not_eq_true,Bool.not_eq_false'] at h2
  cases x;cases y;simp only at hn h2;rw [hn,eq_of_beq h2]
 intro x hx y hy hn
 rcases List.mem_append.1 hx with hx | hx<;>rcases List.mem_append.1 hy with hy | hy
 ·exact Pv ha hx hy hn
 ·exact hab x hx y hy hn
 ·exact (hab y hy x hx hn.symm).symm
 ·exact Pv hb hx hy hn
theorem QT{srt:List aq→List aq}(hs:Srt srt){l:List aq}(hu:∀ x∈l,∀ y∈l,x.name=y.name→x=y):(∀ x,x∈yI (srt l)↔x∈l)∧Gd (yI (srt l)):=by
 have hp:=hs.perm l
 have ho:=hs.ord l
 generalize srt l=s at hp ho
 have hm:∀ x,x∈s↔x∈l:=fun x=>hp.mem_iff
 cases s with
 |nil=>exact ⟨fun x=>by rw [← hm];rfl,.nil⟩
 |cons p s=>exact ⟨fun x=>by rw [← hm];exact QS s p x,Uz s p ho fun x hx y hy=>hu x ((hm x).1 hx) y ((hm y).1 hy)⟩
def QU(srt:List aq→List aq)(a b:List aq):Option (List aq):=sel (zq a&&zq b && !lD a b) (some (yI (srt (a++b)))) none
theorem UB{srt:List aq→List aq}(hs:Srt srt)(a b:List aq):QU srt a b=DZ a b:=by
 unfold QU DZ
 cases ha:zq a with
 |false=>rfl
 |true=>
  cases hb:zq b with
  |false=>rfl
  |true=>
   have hc:=uC _ a b (Nat.le_refl _) ha hb
   simp only [Bool.true_and,sel]
   cases hcl:lD a b with
   |true=>
    rw [hcl] at hc
    cases hm:kB a b with
    |none=>rfl
    |some m=>rw [hm] at hc;cases hc
   |false=>
    rw [hcl] at hc
    cases hm:kB a b with
    |none=>rw [hm] at hc;cases hc
    |some m=>
     obtain ⟨g1,g2⟩:=yJ _ a b m (Nat.le_refl _) (D6 ha) (D6 hb) hm
     obtain ⟨g3,g4⟩:=QT hs (UA (D6 ha) (D6 hb) hcl)
     simp only [Bool.not_false]
     congr 1
     exact RE g4 g2 fun x=>by rw [g3,g1,List.mem_append]
theorem Eu:∀ (n:Nat) (a b m:List aq),a.length+b.length≤n→kB a b=some m→m.length≤a.length+b.length
 |_,[],b,m,_,h=>by
  have:kB [] b=some b:=by cases b<;>simp [kB]
  rw [this] at h;cases h;simp
 |_,x::a,[],m,_,h=>by
  have:kB (x::a) []=some (x::a):=by simp [kB]
  rw [this] at h;cases h;simp
 |0,x::a,y::b,m,hl,_=>by simp at hl
 |n+1,x::a,y::b,m,hl,h=>by
  simp only [List.length_cons] at hl
  rw [kB] at h
  split at h
  ·simp only [Option.map_eq_some_iff] at h
   obtain ⟨m',h1,rfl⟩:=h
   have:=Eu n a (y::b) m' (by simp only [List.length_cons];omega) h1
   simp only [List.length_cons] at this ⊢;omega
  ·split at h
   ·simp only [Option.map_eq_some_iff] at h
    obtain ⟨m',h1,rfl⟩:=h
    have:=Eu n (x::a) b m' (by simp only [List.length_cons];omega) h1
    simp only [List.length_cons] at this ⊢;omega
   ·split at h
    ·simp only [Option.map_eq_some_iff] at h
     obtain ⟨m',h1,rfl⟩:=h
     have:=Eu n a b m' (by omega) h1
     simp only [List.length_cons];omega
    ·cases h
section
attribute [local congr] aF cu bm aG a7 aR aH aA aC aS aT
variable{E:bC}(M:cT cY E)
theorem UC{H0:List ae}{k:List Fra}{id:Nat}{T:TypeId}{rest:List AV}{H:List ae}{l:List aq}(hx:H[id]?=some (.cells (bW l++rest) T))
  (hk:M.go aV H0 k (kv [(0,.rslice id 0 l.length 2 true)]) H=some (.ret (.rslice id 0 l.length 2 true),H.take H0.length)) :
  ∀ (t out:List aq) (p:aq),l=out++p::t→cpR M H0 k id T rest H l.length out p t=some (.ret (.rslice id 0 (out++p::ddF p t).length 2 true),(H.set id (.cells (bW (out++p::ddF p t)++(nE (l.length-(out++p::ddF p t).length)++rest)) T)).take H0.length)
 |[],out,p,hl=>by
  rw [cpR,hk,ddF,← hl,Nat.sub_self,show nE 0=[] from rfl,List.nil_append,zQ hx]
 |q::t,out,p,hl=>by
  rw [cpR,ddF]
  split
  ·rfl
  ·have:=UC hx hk t (out++[p]) q (by rw [hl];simp)
   rw [this]
   simp only [List.append_assoc,List.cons_append,List.nil_append]
theorem Pw(hU:vL E){l:List aq}(h0:0<l.length)(hn:l.length≤4000000000){H:List ae}{id:Nat}{T:TypeId}{rest:List AV}(hr:∀ c∈rest,Wk H.length c c)(hx:H[id]?=some (.cells (bW l++rest) T)) :
  M.run eD [.rslice id 0 l.length 2 true] H=some (.ret (.rslice id 0 (yI l).length 2 true),H.set id (.cells (bW (yI l)++(nE (l.length-(yI l).length)++rest)) T)):=by
 have hid:id<H.length:=(List.getElem?_eq_some_iff.1 hx).1
 have hw:∀ n,vj cY .drop H H (.rslice id 0 n 2 true)=some (.rslice id 0 n 2 true,H.take H.length):=fun n=>handV_drop (cut_refl H) (wk_rslice hid)
 match l,h0,hn,hx with
 |[x],_,_,hx=>
  rw [aY M hU.slices_Compact_api_Feat_api_Feat rfl (c:=bQ) rfl,bQ]
  have e:yI [x]=[x]:=rfl
  have hs:H.set id (.cells (bW [x]++(nE ([x].length-[x].length)++rest)) T)=H:=by rw [Nat.sub_self];exact zQ hx
  rw [e,hs]
  simp (maxSteps:=3000000) (maxDischargeDepth:=6) +contextual -implicitDefEqProofs only [amA M,amB,↓aj,↓ab,↓al,↓ak,Nat.reduceBEq,Nat.reduceAdd,env,ao,a8,Bl,hw,(show decide ([x].length<2)=true from rfl),(show decide ((([x].length:Nat):Int)<2)=true from rfl)]
 |x::y::t,_,hn,hx=>
  rw [aY M hU.slices_Compact_api_Feat_api_Feat rfl (c:=bQ) rfl,bQ]
  generalize hl:x::y::t=l at *
  have d:decide ((l.length:Int)<2)=false:=decide_eq_false (by rw [← hl];simp;omega)
  have h1:=fun k He=>cpo M hU (H:=H) (H0:=H) hid hid (cut_refl H) (T:=T) (rest:=rest) hr k (l:=l) hn hx (y::t) [] x He (by rw [← hl];rfl)
  simp only [kv_cons,kv_nil,List.length_nil,Nat.zero_add,(show ((1:Nat):Int)=1 from rfl)] at h1
  have hk:M.go aV H [.c (Sh.Q (Sh.O [Sh.m 60 0,Sh.m 2 60]) Sh.R)] (kv [(0,.rslice id 0 l.length 2 true)]) H=some (.ret (.rslice id 0 l.length 2 true),H.take H.length):=by
   simp only [kv_cons,kv_nil]
   simp (maxSteps:=3000000) (maxDischargeDepth:=6) +contextual -implicitDefEqProofs only [amA M,amB,↓aj,↓ab,↓al,↓ak,Nat.reduceBEq,Nat.reduceAdd,env,ao,a8,hw]
  have h2:=UC M (rest:=rest) hx hk (y::t) [] x (by rw [← hl];rfl)
  have hc:yI l=[]++x::ddF x (y::t):=by rw [← hl];rfl
  rw [← hc,List.take_of_length_le (by simp)] at h2
  simp (maxSteps:=3000000) (maxDischargeDepth:=6) +contextual -implicitDefEqProofs only [amA M,amB,↓aj,↓ab,↓al,↓ak,Nat.reduceBEq,Nat.reduceAdd,env,ao,a8,Bl,d,h1]
  exact h2
theorem Px(hU:vL E){ta tb:Tag}(H:List ae) :
  M.run eQ [.slice .full 1 [[.slice ta 2 []],[.slice tb 2 []]]] H=some (.ret (.slice .full 2 []),H):=by
 rw [aY M hU.slices_Concat_api_Feat_api_Feat rfl (c:=dJ) rfl,dJ]
 have w1:IntKind.i64.wrap (0+0)=0:=by decide
 have w3:IntKind.i64.wrap (0+1)=1:=by decide
 have w4:IntKind.i64.wrap (1+1)=2:=by decide
 have d1:decide ((0:Int)<0)=false:=rfl
 have i0:Bk 1 (.slice .full 1 [[.slice ta 2 []],[.slice tb 2 []]]) (.int .i64 0)=some (.vptr 1 [[.slice ta 2 []],[.slice tb 2 []]] 0 0):=rfl
 have i1:Bk 1 (.slice .full 1 [[.slice ta 2 []],[.slice tb 2 []]]) (.int .i64 1)=some (.vptr 1 [[.slice ta 2 []],[.slice tb 2 []]] 1 0):=rfl
 have n0:(([[.slice ta 2 []],[.slice tb 2 []]]:List (List AV)).length:Int)=2:=rfl
 have n1:decide ((0:Int)<2)=true:=rfl
 have n2:decide ((1:Int)<2)=true:=rfl
 have n3:decide ((2:Int)<2)=false:=rfl
 have g0:([[.slice ta 2 []],[.slice tb 2 []]]:List (List AV))[0]?=some [.slice ta 2 []]:=rfl
 have g1:([[.slice ta 2 []],[.slice tb 2 []]]:List (List AV))[1]?=some [.slice tb 2 []]:=rfl
 have l0:∀ x:AV,cG none [x] 0=some x:=fun _=>rfl
 have e0:(((List.length ([]:List (List AV))):Nat):Int)=0:=rfl
 simp (maxSteps:=3000000) (maxDischargeDepth:=6) +contextual -implicitDefEqProofs only [amA M,amB,↓aj,↓ab,↓al,↓ak,Nat.reduceBEq,Nat.reduceAdd,env,ao,kp,n0,n1,n2,n3,g0,g1,l0,e0,aw M gn.eq_1,aw M gp.eq_1,w1,w3,w4,d1,i0,i1,SZ M hU,M5 (.inl rfl),M5 (.inr rfl)]
structure yK (M:cT cY E) (srt:List aq→List aq):Prop where
 none:∀ H,M.run bn [.slice .full 2 [],.fn (.func gv) [] []] H=some (.ret (.tuple []),H)
 some:∀ {l:List aq}{H:List ae}{id:Nat}{T:TypeId},0<l.length→l.length≤4000000000→H[id]? = .some (.cells (bW l) T) →
  M.run bn [.rslice id 0 l.length 2 true,.fn (.func gv) [] []] H = .some (.ret (.tuple []),H.set id (.cells (bW (srt l)) T))
 len:∀ l,(srt l).length=l.length
theorem Ll:∀ (l:List aq) (rest:List AV),kY 2 l.length (bW l++rest)=l.map aq.row
 |[],_=>rfl
 |x::l,rest=>by
  have e:bW (x::l)++rest=x.row++(bW l++rest):=by simp [bW]
  rw [e,List.length_cons,kY]
  show x.row::kY 2 l.length (bW l++rest)=_
  rw [Ll l rest];rfl
theorem Py(H:List ae)(o o':ae):(H++[.dead,.dead,o]).set (H.length+2) o'=H++[.dead,.dead,o']:=by
 rw [List.set_append_right _ _ (by omega)];simp
theorem Lm(H:List ae)(o:ae):(H++[.dead,.dead,o])[H.length+2]?=some o:=by
 rw [List.getElem?_append_right (by omega)];simp
theorem S1(hU:vL E){srt:List aq→List aq}(hS:yK M srt){a b:Sl aq}(h:a.l.length+b.l.length≤4000000000)(H:List ae) :
  M.run yU [.slice a.tag 2 (a.l.map aq.row),.slice b.tag 2 (b.l.map aq.row)] H=some (.ret (.slice .any 2 ((yI (srt (a.l++b.l))).map aq.row)),H):=by
 rw [aY M hU.morph_union rfl (c:=ze) rfl,ze]
 have e1:List.map AV.strip [AV.slice a.tag 2 (a.l.map aq.row),.slice b.tag 2 (b.l.map aq.row)]=[.slice a.tag.strip 2 (a.l.map aq.row),.slice b.tag.strip 2 (b.l.map aq.row)]:=by simp [yD]
 have e2:∀ x y:AV,yw 1 2 [x,y]=[[x],[y]]:=fun _ _=>rfl
 by_cases h0:a.l.length+b.l.length=0
 ·have ha:a.l=[]:=List.length_eq_zero_iff.1 (by omega)
  have hb:b.l=[]:=List.length_eq_zero_iff.1 (by omega)
  have hs:srt ([]++[])=[]:=List.length_eq_zero_iff.1 (by rw [hS.len];rfl)
  have hcp:M.run eD [.slice .full 2 []] H=some (.ret (.slice .any 2 []),H):=by
   rw [aY M hU.slices_Compact_api_Feat_api_Feat rfl (c:=bQ) rfl,bQ]
   simp (maxSteps:=3000000) (maxDischargeDepth:=6) +contextual -implicitDefEqProofs only [amA M,amB,↓aj,↓ab,↓al,↓ak,Nat.reduceBEq,Nat.reduceAdd,env,ao,a8,Bl,(show decide ((((List.length ([]:List (List AV))):Nat):Int)<2)=true from rfl),(show decide (List.length ([]:List (List AV))<2)=true from rfl),k6]
  rw [ha,hb,hs]
  rw [ha,hb] at e1
  simp only [List.map_nil] at e1 ⊢
  simp (maxSteps:=3000000) (maxDischargeDepth:=6) +contextual -implicitDefEqProofs only [amA M,amB,↓aj,↓ab,↓al,↓ak,Nat.reduceBEq,Nat.reduceAdd,env,ao,Ft,amG,AV.cell,Nat.reduceMul,Nat.reduceLeDiff,yD,Px M hU,hS.none,hcp]
  rw [MM (v':=.slice .any 2 []) rfl (fun K K' w w' x hi hi' hk hv=>by
   obtain ⟨hc1,hc2⟩:=hi.cut hi' hk (cut_refl H)
   exact ⟨_,hc2,wk_any (k6 _) K' x (by rw [hi'.len];exact Nat.le_refl _) hv,hc1⟩)]
  simp only [List.take_length]
  rfl
 ·have hcc:=fun H=>QO M hU (a:=a.l) (b:=b.l) (ta:=a.tag.strip) (tb:=b.tag.strip) (by omega) h H
  have hll:0<(a.l++b.l).length:=by simp;omega
  have hlm:(a.l++b.l).length≤4000000000:=by simp;omega
  have hso:=hS.some (l:=a.l++b.l) (H:=H++[.dead,.dead,.cells (bW (a.l++b.l)) a6]) (id:=H.length+2) (T:=a6) hll hlm (Lm _ _)
  rw [Py] at hso
  have hsl:=hS.len (a.l++b.l)
  generalize hL:srt (a.l++b.l)=L at hso hsl ⊢
  have hcp:=Pw M hU (l:=L) (by omega) (by omega) (H:=H++[.dead,.dead,.cells (bW L) a6]) (id:=H.length+2) (T:=a6) (rest:=[]) (fun c h=>by cases h) (by rw [Lm,List.append_nil])
  rw [Py,hsl] at hcp
  have hfz:vj cY .frz H (H++[.dead,.dead,.cells (bW (yI L)++(nE ((a.l++b.l).length-(yI L).length)++[])) a6]) (.rslice (H.length+2) 0 (yI L).length 2 true)=some (.slice .any 2 ((yI L).map aq.row),H):=by
   rw [HP (by omega) (Lm _ _) (by simp) (by simp) (by rw [List.length_append,pM];omega) (Ho _ _ _ (fun c hc=>by
    rw [List.append_nil,I2] at hc
    exact Ho _ _ [] (fun _ h=>by cases h) 0 c (by simpa using hc)) 0),List.drop_zero,Ll]
  simp only [List.append_nil] at hfz
  simp (maxSteps:=3000000) (maxDischargeDepth:=6) +contextual -implicitDefEqProofs only [amA M,amB,↓aj,↓ab,↓al,↓ak,Nat.reduceBEq,Nat.reduceAdd,env,ao,Ft,amG,AV.cell,Nat.reduceMul,Nat.reduceLeDiff,yD,hcc,hso,hcp,hfz]
end
section
attribute [local congr] aF cu bm aG a7 aR aH aA aC aS aT
variable{E:bC}(M:cT cY E)
def Lo(x y:aq):Bool:=x.name == y.name&&x.value == y.value
theorem ixq{H H0:List ae}{v:aq}{tg:Tag}{l:List aq}(hs:l.length≤bD){q:Nat}{T:TypeId}(hq:H[q]?=some (.cells v.row T))(hc:dM H0 H)(k:List Fra):∀ (n i:Nat) (He:List ae),i+n=l.length →
  M.go bJ H0 (.c dw :: .lp ⟨(some [0,3,7,8]),[],false⟩ dw He :: .blk 0 :: .c (.lv [])::k) (kv [(0,.slice tg 2 (l.map aq.row)),(3,.ptr q 0),(7,.int .i64 l.length),(8,.int .i64 i)]) H =
   orE (fJ (CV fun s=>Lo v s) i (l.drop i)) (H.take H0.length) (M.go bJ H0 k .leaf H)
 |0,i,He,h=>by
  have e:i=l.length:=by omega
  subst e
  rw [aw M dw.eq_1]
  simp (maxSteps:=3000000) (maxDischargeDepth:=6) +contextual -implicitDefEqProofs only [amA M,amB,↓aj,↓ab,↓al,↓ak,Nat.reduceBEq,Nat.reduceAdd,env,ao,ie,Nat.lt_irrefl,List.drop_length]
 |n+1,i,He,h=>by
  have hi:i<l.length:=by omega
  have hx:l[i]?=some l[i]:=List.getElem?_eq_getElem hi
  have hd:(l.drop i)=l[i]::l.drop (i+1):=List.drop_eq_getElem_cons hi
  have hm:l[i]∈l:=List.getElem_mem hi
  have ih:=fun He=>ixq (H:=H) (H0:=H0) (v:=v) (tg:=tg) (l:=l) (hs:=hs) (q:=q) (T:=T) (hq:=hq) hc k n (i+1)  He (by omega)
  simp only [kv_cons,kv_nil] at ih
  rw [aw M dw.eq_1]
  simp (maxSteps:=3000000) (maxDischargeDepth:=6) +contextual -implicitDefEqProofs only [amA M,amB,↓aj,↓ab,↓al,↓ak,Nat.reduceBEq,Nat.reduceAdd,env,ao,ie,hx,hd,hi,ih,c6 hi hs,bo hi,yE,CV,hc,hq,DY,Lo]
theorem Mk(hU:vL E){v:aq}{tg:Tag}{l:List aq}(hs:l.length≤bD)(H:List ae):M.run gf [.slice tg 2 (l.map aq.row),.agg v.row] H=some (.ret (.bool (l.any fun s=>Lo v s)),H):=by
 have h1:∀ H,M.run hT [.slice tg 2 (l.map aq.row),.agg v.row] H=some (.ret (.int .i64 (CW (fun s=>Lo v s) 0 l)),H):=fun H=>by
  rw [aY M hU.slices_Index_api_Feat_api_Feat rfl (c:=ic) rfl,ic]
  have hl:=fun k He=>ixq M (H:=H++[.cells v.row a6]) (H0:=H) (tg:=tg) (v:=v) hs (q:=H.length) (T:=a6) (by rw [dX];rfl) (cut_app H _) k l.length 0 He (by omega)
  simp only [kv_cons,kv_nil,Int.ofNat_zero,List.drop_zero,hp_take] at hl
  simp (maxSteps:=3000000) (maxDischargeDepth:=6) +contextual -implicitDefEqProofs only [amA M,amB,↓aj,↓ab,↓al,↓ak,Nat.reduceBEq,Nat.reduceAdd,env,ao,ie,hl,yE]
  exact pK _ l 0 H
 rw [aY M hU.slices_Contains_api_Feat_api_Feat rfl (c:=gh) rfl,gh]
 simp (maxSteps:=3000000) (maxDischargeDepth:=6) +contextual -implicitDefEqProofs only [amA M,amB,↓aj,↓ab,↓al,↓ak,Nat.reduceBEq,Nat.reduceAdd,env,ao,qo,h1,vI,yE,dX]
theorem Lp(hU:vL E)(f:aq){b:Sl aq}(hb:b.l.length≤bD){H:List ae}{q:Nat}{T:TypeId}(hq:H[q]?=some (.cells [.slice b.tag 2 (b.l.map aq.row)] T)) :
  M.run mK [.agg f.row,.ptr q 0] H=some (.ret (.bool (!(b.l.any fun g=>Lo f g))),H):=by
 rw [aY M hU.morph_Subsumes_1 rfl (c:=re) rfl,re]
 simp (maxSteps:=3000000) (maxDischargeDepth:=6) +contextual -implicitDefEqProofs only [amA M,amB,↓aj,↓ab,↓al,↓ak,Nat.reduceBEq,Nat.reduceAdd,env,ao,FN,Mk M hU hb,yE,dj hq]
def W2(a b:List aq):Bool := !(a.any fun f => !(b.any fun g=>Lo f g))
theorem N3(hE:iV E)(hU:vL E){a b:Sl aq}(ha:a.l.length≤bD)(hb:b.l.length≤bD)(H:List ae) :
  M.run jX [.slice a.tag 2 (a.l.map aq.row),.slice b.tag 2 (b.l.map aq.row)] H=some (.ret (.bool (W2 a.l b.l)),H):=by
 rw [aY M hU.morph_Subsumes rfl (c:=tG) rfl,tG]
 have hcf:=oT M hE.slices_IndexFunc_api_Feat_api_Feat hE.slices_ContainsFunc_api_Feat_api_Feat (g:=mK) (fr:=[]) (cap:=[.ptr H.length 0]) (p:=fun f => !(b.l.any fun g=>Lo f g)) (tg:=a.tag) ha (H:=H++[.cells [.slice b.tag 2 (b.l.map aq.row)] dH]) (fun x _=>Lp M hU x hb (T:=dH) (by rw [dX];rfl))
 simp (maxSteps:=3000000) (maxDischargeDepth:=6) +contextual -implicitDefEqProofs only [amA M,amB,↓aj,↓ab,↓al,↓ak,Nat.reduceBEq,Nat.reduceAdd,env,ao,HV,hcf,W2]
end
section
attribute [local congr] aF cu bm aG a7 aR aH aA aC aS aT
variable{E:bC}(M:cT cY E)
structure sZ (E:bC):Prop where
 morph_language_slot:E.fn eb=some eZ
 morph_asked:E.fn yR=some tX
 morph_language_feats:E.fn hQ=some fM
 morph_Feats:E.fn yQ=some y0
 truchmanref02_slot:E.fn kL=some pw
 morph_language_underlying:E.fn jM=some c9
 morph_language_steps:E.fn mL=some c8
 truchmanref02_steps:E.fn tu=some oM
 strings_Index:E.fn nH=some jv
 strings_Count:E.fn kD=some ju
 strings_Builder_grow:E.fn mO=some eI
 strings_Builder_Grow:E.fn jO=some eG
 strings_Replace:E.fn sb=some ew
 strings_ReplaceAll:E.fn pe=some fy
 internal_stringslite_Index:E.fn gx=some cU
 morph_language_form:E.fn eY=some dz
 morph_Form:E.fn Bu=some vx
 truchmanref02_form:E.fn uj=some pq
 morph_language_slots:E.fn jD=some fL
 truchmanref02_Slots:E.fn tt=some oE
def UD:bt:=⟨0,[],[],⟨.nil,[]⟩⟩
theorem rl:UD.row=[AV.int .i64 0,.str [],.str [],.slice .nil 2 []]:=rfl
def Is(l:Lex)(e:Int):Option aK:=if e<0 then none else l.entries.l[e.toNat]?
def slC(c:Option aZ)(q:Int):Option bt:=
 match c with
 |none=>none
 |some c=>if q<0 then none else c.slots.l[q.toNat]?
def slF(l:Lex)(e q:Int):Option bt:=
 match Is l e with
 |none=>none
 |some x=>slC (Cq l x.cls) q
theorem vW(n:Nat):Wk n (.slice .nil 2 []) (.slice .nil 2 []):=wk_slice trivial (k6 n)
theorem Hp(hW:WdE M)(hE:iV E)(hF:sZ E){l:Lex}(hl:l.ok 0)(e q:Int)(H:List ae) :
  M.run eb [.agg l.row,.int .i64 e,.int .i64 q] H=some (.ret (.tuple [.agg ((slF l e q).getD UD).row,.bool (slF l e q).isSome]),H):=by
 rw [aY M hF.morph_language_slot rfl (c:=oq) rfl,oq]
 cases hr1:decide (e<0) with
 |true=>
  have e1:slF l e q=none:=by simp [slF,Is,of_decide_eq_true hr1]
  rw [e1]
  simp (maxSteps:=3000000) (maxDischargeDepth:=6) +contextual -implicitDefEqProofs only [amA M,amB,↓aj,↓ab,↓al,↓ak,Nat.reduceBEq,Nat.reduceAdd,env,ao,fb,amG,AV.cell,Nat.reduceMul,Nat.reduceLeDiff,hr1,cZ,rl,vW,wk_tuple,wk_agg,Option.getD_none,Option.isSome_none]
 |false=>
  have hr0:¬ e<0:=of_decide_eq_false hr1
  cases hr2:decide ((l.entries.l.length:Int)≤e) with
  |true=>
   have hrl:l.entries.l.length≤e.toNat:=by have:=of_decide_eq_true hr2;omega
   have e1:slF l e q=none:=by simp [slF,Is,hr0,List.getElem?_eq_none hrl]
   rw [e1]
   simp (maxSteps:=3000000) (maxDischargeDepth:=6) +contextual -implicitDefEqProofs only [amA M,amB,↓aj,↓ab,↓al,↓ak,Nat.reduceBEq,Nat.reduceAdd,env,ao,fb,amG,AV.cell,Nat.reduceMul,Nat.reduceLeDiff,hr1,hr2,cZ,rl,vW,wk_tuple,wk_agg,Option.getD_none,Option.isSome_none]
  |false=>
   have hrl:e.toNat<l.entries.l.length:=by have:=of_decide_eq_false hr2;omega
   have hx:l.entries.l[e.toNat]?=some l.entries.l[e.toNat]:=List.getElem?_eq_getElem hrl
   generalize hxx:l.entries.l[e.toNat]=x at hx
   have e0:Is l e=some x:=by simp [Is,hr0,hx]
   cases hc:Cq l x.cls with
   |none=>
    have e1:slF l e q=none:=by simp [slF,e0,hc,slC]
    have hcl:=fun H=>tM M hE hl hc H
    have hw:=fun H T L=>NV hW (g:=fH) (first:=[]) (cap:=[]) (args:=[.agg l.row,.str x.cls]) (v:=.tuple [.agg yH.row,.bool false]) hcl H T L
    have z:(((yH.slots.l.length:Nat):Int))=0:=rfl
    rw [e1]
    cases hq:decide (q<0) with
    |true=>
     simp (maxSteps:=3000000) (maxDischargeDepth:=6) +contextual -implicitDefEqProofs only [amA M,amB,↓aj,↓ab,↓al,↓ak,Nat.reduceBEq,Nat.reduceAdd,env,ao,fb,amG,AV.cell,Nat.reduceMul,Nat.reduceLeDiff,hr1,hr2,hq,hx,iD (Int.not_lt.1 hr0) hrl,z7 hW,hcl,hw,cZ,gZ,ky,rl,kW,vW,wk_tuple,wk_agg,Option.getD_none,Option.isSome_none]
    |false=>
     have hq2:decide ((0:Int)≤q)=true:=decide_eq_true (Int.not_lt.1 (of_decide_eq_false hq))
     simp (maxSteps:=3000000) (maxDischargeDepth:=6) +contextual -implicitDefEqProofs only [amA M,amB,↓aj,↓ab,↓al,↓ak,Nat.reduceBEq,Nat.reduceAdd,env,ao,fb,amG,AV.cell,Nat.reduceMul,Nat.reduceLeDiff,hr1,hr2,hq,hq2,z,hx,iD (Int.not_lt.1 hr0) hrl,z7 hW,hcl,hw,cZ,gZ,ky,rl,kW,vW,wk_tuple,wk_agg,Option.getD_none,Option.isSome_none]
   |some c=>
    have hcl:=fun H=>pL M hE hl hc (H:=H) (Nat.zero_le _)
    have hw:=fun H T L=>NV hW (g:=fH) (first:=[]) (cap:=[]) (args:=[.agg l.row,.str x.cls]) (v:=.tuple [.agg c.row,.bool true]) hcl H T L
    cases hq:decide (q<0) with
    |true=>
     have e1:slF l e q=none:=by simp [slF,e0,hc,slC,of_decide_eq_true hq]
     rw [e1]
     simp (maxSteps:=3000000) (maxDischargeDepth:=6) +contextual -implicitDefEqProofs only [amA M,amB,↓aj,↓ab,↓al,↓ak,Nat.reduceBEq,Nat.reduceAdd,env,ao,fb,amG,AV.cell,Nat.reduceMul,Nat.reduceLeDiff,hr1,hr2,hq,hx,iD (Int.not_lt.1 hr0) hrl,z7 hW,hcl,hw,cZ,gZ,ky,rl,kW,vW,wk_tuple,wk_agg,Option.getD_none,Option.isSome_none]
    |false=>
     have hq0:¬ q<0:=of_decide_eq_false hq
     cases hq2:decide ((c.slots.l.length:Int)≤q) with
     |true=>
      have hql:c.slots.l.length≤q.toNat:=by have:=of_decide_eq_true hq2;omega
      have e1:slF l e q=none:=by simp [slF,e0,hc,slC,hq0,List.getElem?_eq_none hql]
      rw [e1]
      simp (maxSteps:=3000000) (maxDischargeDepth:=6) +contextual -implicitDefEqProofs only [amA M,amB,↓aj,↓ab,↓al,↓ak,Nat.reduceBEq,Nat.reduceAdd,env,ao,fb,amG,AV.cell,Nat.reduceMul,Nat.reduceLeDiff,hr1,hr2,hq,hq2,hx,iD (Int.not_lt.1 hr0) hrl,z7 hW,hcl,hw,cZ,gZ,ky,rl,kW,vW,wk_tuple,wk_agg,Option.getD_none,Option.isSome_none]
     |false=>
      have hql:q.toNat<c.slots.l.length:=by have:=of_decide_eq_false hq2;omega
      have hs:c.slots.l[q.toNat]?=some c.slots.l[q.toNat]:=List.getElem?_eq_getElem hql
      have hcm:c∈l.classes.l:=List.mem_of_find?_eq_some hc
      have hsk:=((hl.classes.all c hcm).slots.all _ (List.getElem_mem hql)).mono (Nat.zero_le H.length)
      generalize c.slots.l[q.toNat]=s at hs hsk
      have e1:slF l e q=some s:=by simp [slF,e0,hc,slC,hq0,hs]
      rw [e1]
      simp (maxSteps:=3000000) (maxDischargeDepth:=6) +contextual -implicitDefEqProofs only [amA M,amB,↓aj,↓ab,↓al,↓ak,Nat.reduceBEq,Nat.reduceAdd,env,ao,fb,amG,AV.cell,Nat.reduceMul,Nat.reduceLeDiff,hr1,hr2,hq,hq2,hx,hs,iD (Int.not_lt.1 hr0) hrl,iD (Int.not_lt.1 hq0) hql,z7 hW,hcl,hw,cZ,gZ,ky,jz,rl,kW,hsk.wk,wk_tuple,wk_agg,Option.getD_some,Option.isSome_some]
end
section
attribute [local congr] aF cu bm aG a7 aR aH aA aC aS aT
variable{E:bC}(M:cT cY E)
theorem pN{l:Lex}(h:cD l=0):F7 l=0∧Il l=0∧Im l=0∧K7 l=0:=
 ⟨rQ h 2 _ rfl,rQ h 3 _ rfl,rQ h 4 _ rfl,rQ h 5 _ rfl⟩
structure Cr (l:Lex) (x:aK) (c:aZ):Prop where
 cls:Cq l x.cls=some c
 lem:zp x.lem=true
 short:x.feats.l.length≤8∧zq x.feats.l=true
 clash:∀ s∈c.slots.l,lD x.feats.l s.feats.l=false
 forms:BX (MY c.slots.l.length x.forms.l) 0 x.forms.l=0
theorem fo{b:Bool}{x y:Int}(hx:x≠0)(h:sel b x y=0):b=false∧y=0:=by
 cases b with
 |true=>exact absurd h hx
 |false=>exact ⟨rfl,h⟩
theorem Lq{l:Lex}(h:cD l=0){k:Nat}{x:aK}(hx:l.entries.l[k]?=some x):∃ c,Cr l x c:=by
 have h3:=(je (pN h).2.1).2 k x hx
 unfold Ik at h3
 cases hc:Cq l x.cls with
 |none=>
  rw [hc] at h3
  exact absurd (fo (by decide) h3).2 (by decide)
 |some c=>
  rw [hc] at h3
  obtain ⟨a1,h3⟩:=fo (by decide) h3
  obtain ⟨_,h3⟩:=fo (by decide) h3
  cases hb:vJ l x.feats.l == 0 with
  |false=>
   rw [hb] at h3
   rw [show vJ l x.feats.l=0 from h3] at hb
   exact absurd hb (by decide)
  |true=>
   rw [hb] at h3
   obtain ⟨a2,h3⟩:=fo (b:=c.slots.l.any fun s=>lD x.feats.l s.feats.l) (by decide) h3
   exact ⟨c,hc,by simpa using a1,bundle_ok (eq_of_beq hb),by simpa using a2,h3⟩
theorem RF{l:Lex}(h:cD l=0){c:aZ}(hc:c∈l.classes.l){s:bt}(hs:s∈c.slots.l):I0 l s=0:=by
 obtain ⟨k,hk⟩:=List.getElem?_of_mem hc
 have h2:=(je (pN h).1).2 k c hk
 unfold F6 at h2
 have h3:=(fo (by decide) (fo (by decide) (fo (by decide) (fo (by decide) h2).2).2).2).2
 obtain ⟨j,hj⟩:=List.getElem?_of_mem hs
 exact (je h3).2 j s hj
structure UE (s:bt):Prop where
 cut:0≤s.cut∧s.cut≤24
 pre:s.pre.length≤6∧s.pre.all lC=true
 add:s.add.length≤6∧s.add.all lC=true
 feats:s.feats.l.length≤8∧zq s.feats.l=true
theorem Wq{l:Lex}{s:bt}(h:I0 l s=0):UE s:=by
 unfold I0 at h
 obtain ⟨h1,h2⟩:=fo (by decide) h
 simp only [Bool.or_eq_false_iff,decide_eq_false_iff_not,Bool.not_eq_false',pz,Bool.and_eq_true,decide_eq_true_eq] at h1
 refine ⟨⟨by omega,by omega⟩,⟨by omega, ?_⟩,⟨by omega, ?_⟩,bundle_ok h2⟩
 ·simp_all
 ·simp_all
structure At (l:Lex) (e q:Int) (x:aK) (c:aZ) (s:bt):Prop where
 e0:0≤e
 q0:0≤q
 el:e.toNat<l.entries.l.length
 ex:l.entries.l[e.toNat]?=some x
 ent:Cr l x c
 cm:c∈l.classes.l
 ql:q.toNat<c.slots.l.length
 sx:c.slots.l[q.toNat]?=some s
 sok:UE s
theorem M6{l:Lex}(h:cD l=0){e q:Int}{s:bt}(hs:slF l e q=some s):∃ x c,At l e q x c s:=by
 unfold slF at hs
 cases hx:Is l e with
 |none=>rw [hx] at hs;exact absurd hs (by simp)
 |some x=>
  rw [hx] at hs
  simp only at hs
  unfold Is at hx
  split at hx
  ·exact absurd hx (by simp)
  ·rename_i he
   obtain ⟨c,hc⟩:=Lq h hx
   rw [hc.cls] at hs
   simp only [slC] at hs
   split at hs
   ·exact absurd hs (by simp)
   ·rename_i hq
    have hcm:c∈l.classes.l:=List.mem_of_find?_eq_some hc.cls
    exact ⟨x,c,by omega,by omega,(List.getElem?_eq_some_iff.1 hx).1,hx,hc,hcm,(List.getElem?_eq_some_iff.1 hs).1,hs,Wq (RF h hcm (List.mem_of_getElem? hs))⟩
theorem W3(n k:Nat):Wk n (.slice .nil k []) (.slice .nil k []):=wk_slice trivial (k6 n)
end
section
attribute [local congr] aF cu bm aG a7 aR aH aA aC aS aT
variable{E:bC}(M:cT cY E)
def QV(x:aK)(s:bt):List aq:=(DZ x.feats.l s.feats.l).getD []
theorem At.clash{l:Lex}{e q:Int}{x:aK}{c:aZ}{s:bt}(h:At l e q x c s):lD x.feats.l s.feats.l=false:=h.ent.clash s (List.mem_of_getElem? h.sx)
theorem At.uni{l:Lex}{e q:Int}{x:aK}{c:aZ}{s:bt}(h:At l e q x c s):DZ x.feats.l s.feats.l=some (QV x s):=by
 have:=Pk h.ent.short.2 h.sok.feats.2
 rw [h.clash] at this
 unfold QV
 cases hu:DZ x.feats.l s.feats.l with
 |none=>rw [hu] at this;simp at this
 |some r=>rfl
theorem At.comp{srt:List aq→List aq}(hs:Srt srt){l:Lex}{e q:Int}{x:aK}{c:aZ}{s:bt}(h:At l e q x c s):yI (srt (x.feats.l++s.feats.l))=QV x s:=by
 have h1:=UB hs x.feats.l s.feats.l
 rw [h.uni,QU,h.ent.short.2,h.sok.feats.2,h.clash] at h1
 exact Option.some.inj h1
theorem At.sl{l:Lex}{e q:Int}{x:aK}{c:aZ}{s:bt}(hk:cD l=0)(h:At l e q x c s):slF l e q=some s:=by
 have h0:¬ e<0:=by have:=h.e0;omega
 have h1:¬ q<0:=by have:=h.q0;omega
 simp only [slF,Is,h0,if_false,h.ex,h.ent.cls,slC,h1,h.sx]
theorem QW(hU:vL E){srt:List aq→List aq}(hS:yK M srt)(hs:Srt srt)(hF:sZ E){l:Lex}{e q:Int}{x:aK}{c:aZ}{s:bt}(hA:At l e q x c s)(H:List ae) :
  M.run hQ [.agg l.row,.int .i64 e,.agg s.row] H=some (.ret (.slice .any 2 ((QV x s).map aq.row)),H):=by
 rw [aY M hF.morph_language_feats rfl (c:=mU) rfl,mU]
 have hu:=fun H=>S1 M hU hS (a:=x.feats) (b:=s.feats) (by have:=hA.ent.short.1;have:=hA.sok.feats.1;omega) H
 rw [hA.comp hs] at hu
 simp (maxSteps:=3000000) (maxDischargeDepth:=6) +contextual -implicitDefEqProofs only [amA M,amB,↓aj,↓ab,↓al,↓ak,Nat.reduceBEq,Nat.reduceAdd,env,ao,BA,hu,hA.ex,iD hA.e0 hA.el,cZ,gZ,jz,VF,implies_true]
theorem At.ent'{l:Lex}{e q:Int}{x:aK}{c:aZ}{s:bt}(h:At l e q x c s):Is l e=some x:=by
 have h0:¬ e<0:=by have:=h.e0;omega
 simp only [Is,h0,if_false,h.ex]
end
section
attribute [local congr] aF cu bm aG a7 aR aH aA aC aS aT
variable{E:bC}(M:cT cY E)
def Lr(s:bt)(a:Str):Str:=sel (s.pre == []) a ((s.pre++[43])++a)
def It(s:bt)(b:Str):Str:=sel (s.add == []) b (b++([43]++s.add))
def Pz(lem:Str)(s:bt):Str:=It s (Lr s (lem.take (lem.length-s.cut.toNat)))
def Ls(lem:Str)(s:bt):Option Str:=sel (decide ((lem.length:Int)<s.cut)) none (some (Pz lem s))
def QX(o:Option Str):AV:=.tuple [.str (o.getD []),.bool o.isSome]
theorem Ev{s:Str}(h:zp s=true):s.length≤24:=by
 simp only [zp,Cp,Bool.and_eq_true,decide_eq_true_eq] at h
 omega
theorem PA(s:bt)(a:Str)(h:s.pre.length≤6):(Lr s a).length≤a.length+7:=by
 unfold Lr;cases s.pre == []<;>simp [sel]<;>omega
theorem UF(s:bt)(a:Str)(h:s.add.length≤6):(It s a).length≤a.length+7:=by
 unfold It;cases s.add == []<;>simp [sel];omega
theorem PB{lem:Str}{s:bt}(h:lem.length≤24)(hs:UE s):(Pz lem s).length≤38:=by
 have h1:=UF s (Lr s (lem.take (lem.length-s.cut.toNat))) hs.add.1
 have h2:=PA s (lem.take (lem.length-s.cut.toNat)) hs.pre.1
 unfold Pz
 simp at h2
 omega
theorem run_underlying(hF:sZ E){l:Lex}{e q:Int}{x:aK}{c:aZ}{s:bt}(hA:At l e q x c s)(H:List ae) :
  M.run jM [.agg l.row,.int .i64 e,.agg s.row] H=some (.ret (QX (Ls x.lem s)),H):=by
 rw [aY M hF.morph_language_underlying rfl (c:=jR) rfl,jR]
 have hl:=Ev hA.ent.lem
 have hp:=hA.sok.pre.1
 have ha:=hA.sok.add.1
 cases hd:decide ((x.lem.length:Int)<s.cut) with
 |true=>
  have e1:QX (Ls x.lem s) = .tuple [.str [],.bool false]:=by simp [QX,Ls,hd,sel]
  rw [e1]
  simp (maxSteps:=3000000) (maxDischargeDepth:=6) +contextual -implicitDefEqProofs only [amA M,amB,↓aj,↓ab,↓al,↓ak,Nat.reduceBEq,Nat.reduceAdd,env,ao,fk,amG,AV.cell,Nat.reduceMul,Nat.reduceLeDiff,hd,hA.ex,iD hA.e0 hA.el,cZ,gZ,jz,wk_tuple]
 |false=>
  obtain ⟨m,hm⟩:=Int.eq_ofNat_of_zero_le hA.sok.cut.1
  have hml:m≤x.lem.length:=by have:=of_decide_eq_false hd;omega
  have hw:IntKind.i64.wrap ((x.lem.length:Int)-(m:Int))=((x.lem.length-m:Nat):Int):=by rw [eK (by omega) (by omega)];omega
  have hsl:=Up (s:=x.lem) (k:=.i64) (i:=x.lem.length-m) (by omega)
  have e1:QX (Ls x.lem s) = .tuple [.str (Pz x.lem s),.bool true]:=by simp [QX,Ls,hd,sel]
  have e2:Pz x.lem s=It s (Lr s (x.lem.take (x.lem.length-m))):=by rw [Pz,hm];rfl
  have hal:(x.lem.take (x.lem.length-m)).length≤24:=by simp;omega
  rw [e1,e2]
  generalize x.lem.take (x.lem.length-m)=a at hsl hal
  rw [hm] at hd
  have hdn:decide (x.lem.length<m)=false:=decide_eq_false (by omega)
  have hbl:=PA s a hp
  cases hp0:s.pre == [] with
  |true=>
   have e3:Lr s a=a:=by simp [Lr,hp0,sel]
   rw [e3] at hbl ⊢
   cases ha0:s.add == [] with
   |true=>
    have e4:It s a=a:=by simp [It,ha0,sel]
    rw [e4]
    simp (maxSteps:=3000000) (maxDischargeDepth:=6) +contextual -implicitDefEqProofs only [amA M,amB,↓aj,↓ab,↓al,↓ak,Nat.reduceBEq,Nat.reduceAdd,env,ao,fk,amG,AV.cell,Nat.reduceMul,Nat.reduceLeDiff,hd,hdn,hm,hw,hsl,hp0,ha0,hA.ex,iD hA.e0 hA.el,cZ,gZ,jz,wk_tuple]
   |false=>
    have e4:It s a=a++([43]++s.add):=by simp [It,ha0,sel]
    rw [e4]
    simp (maxSteps:=3000000) (maxDischargeDepth:=6) +contextual -implicitDefEqProofs only [amA M,amB,↓aj,↓ab,↓al,↓ak,Nat.reduceBEq,Nat.reduceAdd,env,ao,fk,amG,AV.cell,Nat.reduceMul,Nat.reduceLeDiff,hd,hdn,hm,hw,hsl,hp0,ha0,qZ (s:=[43]) (t:=s.add) (by simp;omega),qZ (s:=a) (t:=43::s.add) (by simp;omega),hA.ex,iD hA.e0 hA.el,cZ,gZ,jz,wk_tuple]
  |false=>
   have e3:Lr s a=(s.pre++[43])++a:=by simp [Lr,hp0,sel]
   rw [e3] at hbl ⊢
   cases ha0:s.add == [] with
   |true=>
    have e4:It s ((s.pre++[43])++a)=(s.pre++[43])++a:=by simp [It,ha0,sel]
    rw [e4]
    simp (maxSteps:=3000000) (maxDischargeDepth:=6) +contextual -implicitDefEqProofs only [amA M,amB,↓aj,↓ab,↓al,↓ak,Nat.reduceBEq,Nat.reduceAdd,env,ao,fk,amG,AV.cell,Nat.reduceMul,Nat.reduceLeDiff,hd,hdn,hm,hw,hsl,hp0,ha0,qZ (s:=s.pre) (t:=[43]) (by simp;omega),qZ (s:=s.pre++[43]) (t:=a) (by simp;omega),hA.ex,iD hA.e0 hA.el,cZ,gZ,jz,wk_tuple]
   |false=>
    have e4:It s ((s.pre++[43])++a)=((s.pre++[43])++a)++([43]++s.add):=by simp [It,ha0,sel]
    rw [e4]
    simp (maxSteps:=3000000) (maxDischargeDepth:=6) +contextual -implicitDefEqProofs only [amA M,amB,↓aj,↓ab,↓al,↓ak,Nat.reduceBEq,Nat.reduceAdd,env,ao,fk,amG,AV.cell,Nat.reduceMul,Nat.reduceLeDiff,hd,hdn,hm,hw,hsl,hp0,ha0,qZ (s:=s.pre) (t:=[43]) (by simp;omega),qZ (s:=s.pre++[43]) (t:=a) (by simp;omega),qZ (s:=[43]) (t:=s.add) (by simp;omega),qZ (s:=s.pre++[43]++a) (t:=43::s.add) (by simp at hbl ⊢;omega),hA.ex,iD hA.e0 hA.el,cZ,gZ,jz,wk_tuple]
def Cs(v:Str):List Str→Str→List bA→Option (List Str)
 |o,_,[]=>some o
 |o,u,x::l=>sel (decide (((uE v x u).length:Int)≤512)) (Cs v (o++[uE v x u]) (uE v x u) l) none
def noS:AV:=.tuple [.slice .any 1 [],.bool false]
def PC(o:Option (List Str)):AV:=.tuple [.slice .any 1 ((o.getD []).map k7),.bool o.isSome]
theorem yL{H0:List ae}(n m:Nat)(T:TypeId)(L:List ae):dM (H0++[.tok n T]) (H0++(.tok m T::L)):=⟨by simp,fun i x hi hx=>by
 rw [List.length_append] at hi
 by_cases h:i<H0.length
 ·rw [List.getElem?_append_left h] at hx ⊢;exact .inl hx
 ·obtain rfl:i=H0.length:=by simp at hi;omega
  rw [dX] at hx
  obtain rfl:=Option.some.inj hx
  exact .inr trivial⟩
theorem uF(H0:List ae)(o:ae)(L:List ae):(H0++(o::L)).take (H0.length+1)=H0++[o]:=by
 rw [show H0++(o::L)=(H0++[o])++L by simp,show H0.length+1=(H0++[o]).length by simp,List.take_left]
theorem RG(n:Nat)(l:List Str):mI n (l.map k7):=by
 rw [rowsWk_map];exact fun _ _=>⟨wk_str _ _,trivial⟩
theorem W4(n:Nat)(s:Str):WkL n (k7 s) (k7 s):=⟨wk_str _ _,trivial⟩
def UG(M:cT cY E)(fn:AFn)(d:Nat)(H0:List ae)(k:List Fra)(r:Option (List Str))(H:List ae):Option Out:=
 match r with
 |none=>some (.ret noS,H.take H0.length)
 |some r=>M.go fn H0 k (kv [(d,.slice (.own H.length) 1 (r.map k7))]) (H++[.tok (r.length*1) bB])
theorem JJ{α:Type}{row:α→List AV}{l:List α}{x:α}{r:List AV}{sz bytes:Nat}{e:TypeId}(H L:List ae)(h1:r.length=sz)(h2:r.all AV.cell=true)(h3:r.map AV.strip=row x)
  (hl:(l.length+1)*bytes≤140737488355328) (hl2:l.length+1≤4611686018427387904) :
  rap false (H++(.tok (l.length*sz) e::L)) e sz bytes false (.slice (.own H.length) sz (l.map row)) (.slice .full sz [r])=some (.slice (.own H.length) sz ((l++[x]).map row),H++(.tok ((l++[x]).length*sz) e::L)):=by
 have hr:(r.length=sz∧∀ x∈r,x.cell=true):=⟨h1,by simpa using h2⟩
 simp only [rap,Dj,Ct,List.length_map,List.length_cons,List.length_nil,Nat.zero_add,or_true,if_true,hl,hl2,KA h1 h2,and_true,true_and,dX,List.getElem?_cons_zero,hp_set0,List.set_cons_zero,List.map_cons,List.map_nil,h3,List.map_append,List.length_append,Nat.add_mul,Nat.one_mul]
 rw [Nat.add_mul,Nat.one_mul] at hl
 rw [if_pos hl]
theorem stl(hN:dG E)(hS:SpE E)(hX:o4 M)(hB:pA E){l:Lex}(hl:l.ok 0)(hV:Uu l){H H0:List ae}(hc:dM H0 H){p:Nat}{T:TypeId}(hp:H[p]?=some (.cells l.row T))(k:List Fra) :
  ∀ (n i:Nat) (o:List Str) (u:Str) (He:List ae),He=H++[.tok (o.length*1) bB]→i+n=l.spells.l.length→u.length≤1000→o.length+n≤1000 →
  M.go c8 H0 (.c eU :: .lp ⟨(some [3,8,10,26,27,28]),[(10,1,bB)],true⟩ eU He :: .blk 0 :: .c (.lv [10])::k) (kv [(3,.ptr p 0),(8,.str u),(10,.slice (.own H.length) 1 (o.map k7)),(26,.slice l.spells.tag 4 (l.spells.l.map bA.row)),(27,.int .i64 l.spells.l.length),(28,.int .i64 i)]) (H++[.tok (o.length*1) bB]) =
   UG M c8 10 H0 k (Cs l.vowels o u (l.spells.l.drop i)) H
 |0,i,o,u,He,hHe,h,hu,ho=>by
  have e:i=l.spells.l.length:=by omega
  subst e
  rw [List.drop_length,Cs,UG]
  rw [aw M eU.eq_1]
  simp (maxSteps:=3000000) (maxDischargeDepth:=6) +contextual -implicitDefEqProofs only [amA M,amB,↓aj,↓ab,↓al,↓ak,Nat.reduceBEq,Nat.reduceAdd,env,ao,fO,Nat.lt_irrefl]
 |n+1,i,o,u,He,hHe,h,hu,ho=>by
  subst hHe
  have hi:i<l.spells.l.length:=by omega
  have hx:l.spells.l[i]?=some l.spells.l[i]:=List.getElem?_eq_getElem hi
  have hd:(l.spells.l.drop i)=l.spells.l[i]::l.spells.l.drop (i+1):=List.drop_eq_getElem_cons hi
  have hm:l.spells.l[i]∈l.spells.l:=List.getElem_mem hi
  obtain ⟨p1,p2,p3,p4,p5⟩:=Uw (hV.spells _ hm)
  have hx0:=hl.spells.all _ hm
  have hsp:=fun H=>SY M hN hS hX hB (l:=l) hx0 p1 p2 p3 p4 (s:=u) (by omega) H
  have hp':=fun L=>dj (L:=L) hp
  have hpl:=(List.getElem?_eq_some_iff.1 hp).1
  have w1:Wk (H.length+1) (.ptr p 0) (.ptr p 0):=wk_ptr (by omega)
  have w2:Wk (H.length+1) (.slice l.spells.tag 4 (l.spells.l.map bA.row)) (.slice l.spells.tag 4 (l.spells.l.map bA.row)):=(hl.spells.mono (Nat.zero_le _) (fun _ h=>h.mono (Nat.zero_le _))).wk (fun _ h=>h.wk)
  have w3:=fun l:List Str=>wk_slice (n:=H.length+1) (esz:=1) (tag:=.own H.length) (by simp [qk]) (RG _ l)
  have hcm:=fun L=>Kz hc L
  have htm:=fun L=>HS hc L
  rw [hd,Cs]
  generalize l.spells.l[i]=x at hx hsp
  generalize uE l.vowels x u=u' at hsp
  cases hdl:decide ((u'.length:Int)≤512) with
  |false=>
   simp only [sel,UG]
   simp only [hdl] at hsp
   rw [aw M eU.eq_1]
   simp (maxSteps:=3000000) (maxDischargeDepth:=6) +contextual -implicitDefEqProofs only [amA M,amB,↓aj,↓ab,↓al,↓ak,Nat.reduceBEq,Nat.reduceAdd,env,ao,fO,amG,AV.cell,Nat.reduceMul,Nat.reduceLeDiff,hx,hi,hsp,hp',bo hi,cZ,yP,hcm,htm,noS,k6,wk_tuple]
  |true=>
   simp only [hdl] at hsp
   have hul:u'.length≤1000:=by have:=of_decide_eq_true hdl;omega
   have ap:=fun L=>JJ (row:=k7) (l:=o) (x:=u') (r:=[.str u']) (sz:=1) (bytes:=16) (e:=bB) H L rfl rfl rfl (by omega) (by omega)
   have ih:=stl hN hS hX hB hl hV hc hp k n (i+1) (o++[u']) u' _ rfl (by omega) hul (by simp;omega)
   simp only [kv_cons,kv_nil] at ih
   simp only [sel]
   rw [aw M eU.eq_1]
   simp (maxSteps:=3000000) (maxDischargeDepth:=6) +contextual -implicitDefEqProofs only [amA M,amB,↓aj,↓ab,↓al,↓ak,Nat.reduceBEq,Nat.reduceAdd,env,ao,fO,amG,AV.cell,Nat.reduceMul,Nat.reduceLeDiff,hx,hi,hsp,hp',ap,ih,w1,w2,w3,yL,uF,c6 hi hl.spells.len,bo hi,cZ,yP]
def xk(l:Lex)(x:aK)(s:bt):Option (List Str):=
 match Ls x.lem s with
 |none=>none
 |some u=>Cs l.vowels [u] u l.spells.l
theorem S2(hN:dG E)(hS:SpE E)(hX:o4 M)(hB:pA E)(hF:sZ E){l:Lex}(hl:l.ok 0)(hV:Uu l){e q:Int}{x:aK}{c:aZ}{s:bt}(hA:At l e q x c s)(hsl:l.spells.l.length≤900)(H:List ae) :
  M.run mL [.agg l.row,.int .i64 e,.agg s.row] H=some (.ret (PC (xk l x s)),H):=by
 rw [aY M hF.morph_language_steps rfl (c:=nk) rfl,nk]
 have hu:=fun H=>run_underlying M hF hA H
 cases ho:Ls x.lem s with
 |none=>
  have e1:PC (xk l x s)=noS:=by simp [PC,xk,ho,noS]
  rw [e1]
  simp only [ho,QX,Option.getD_none,Option.isSome_none] at hu
  simp (maxSteps:=3000000) (maxDischargeDepth:=6) +contextual -implicitDefEqProofs only [amA M,amB,↓aj,↓ab,↓al,↓ak,Nat.reduceBEq,Nat.reduceAdd,env,ao,fO,amG,AV.cell,Nat.reduceMul,Nat.reduceLeDiff,hu,cZ,jz,noS,k6,wk_tuple]
 |some u=>
  have e1:xk l x s=Cs l.vowels [u] u l.spells.l:=by simp [xk,ho]
  have hul:u.length≤1000:=by
   have:=PB (Ev hA.ent.lem) hA.sok
   unfold Ls at ho
   revert ho
   cases decide ((x.lem.length:Int)<s.cut) with
   |true=>simp [sel]
   |false=>intro ho;rw [← Option.some.inj ho];omega
  rw [e1]
  simp only [ho,QX,Option.getD_some,Option.isSome_some] at hu
  have h1:=fun k=>stl M hN hS hX hB hl hV (H:=H++[.cells l.row aD,.cells s.row bI]) (H0:=H) (cut_app H _) (p:=H.length) (T:=aD) (by rw [dX];rfl) k l.spells.l.length 0 [u] u _ rfl (by omega) hul (by simp;omega)
  simp only [kv_cons,kv_nil,Int.ofNat_zero,List.drop_zero,List.length_append,List.length_cons,List.length_nil,Nat.zero_add,Nat.reduceAdd,List.append_assoc,List.cons_append,List.nil_append,List.map_cons,List.map_nil,k7] at h1
  simp (maxSteps:=3000000) (maxDischargeDepth:=6) +contextual -implicitDefEqProofs only [amA M,amB,↓aj,↓ab,↓al,↓ak,Nat.reduceBEq,Nat.reduceAdd,env,ao,fO,amG,AV.cell,Nat.reduceMul,Nat.reduceLeDiff,hu,h1,cZ,jz,wk_tuple,k7]
  generalize Cs l.vowels [u] u l.spells.l=r
  cases r with
  |none=>simp only [UG,hp_take];rfl
  |some r=>
   simp only [UG,kv_cons,kv_nil]
   simp (maxSteps:=3000000) (maxDischargeDepth:=6) +contextual -implicitDefEqProofs only [amA M,amB,↓aj,↓ab,↓al,↓ak,Nat.reduceBEq,Nat.reduceAdd,env,ao,fO,RG,W4,cut_app,implies_true,wk_tuple]
   rfl
theorem FA{l:Lex}(h:cD l=0):l.spells.l.length≤16:=by
 have:=(je (pN h).2.2.1).1
 omega
end
section
attribute [local congr] aF cu bm aG a7 aR aH aA aC aS aT
variable{E:bC}(M:cT cY E)
end
section
attribute [local congr] aF cu bm aG a7 aR aH aA aC aS aT
variable{E:bC}(M:cT cY E)
structure D7 (M:cT cY E):Prop where
 count:∀ (s:Str) (c:UInt8) (H:List ae),M.run ed [.str s,.int .u8 c.toNat] H=some (.ret (.int .i64 (Lib.countByte s c:Nat)),H)
 noZero:∀ (n:Nat) (H:List ae),n≤281474976710656→M.run dD [.int .i64 n] H=some (.ret (.rslice H.length 0 n 1 true),H++[.cells (List.replicate n .unk) dL])
theorem PD{H L L':List ae}(h:L.length≤L'.length)(hw:∀ x∈L',Rk (H++L).length x):dM (H++L) (H++L'):=⟨by simp;omega,fun i x hi hx=>by
 by_cases h1:i<H.length
 ·left;rw [List.getElem?_append_left h1] at hx ⊢;exact hx
 ·right;rw [List.getElem?_append_right (by omega)] at hx;exact hw x (List.mem_of_getElem? hx)⟩
abbrev qJ(a x:AV):ae:=.cells [a,x] bu
theorem RH(hB:pA E)(hX:o4 M)(H:List ae) :
  M.run cq [.ptr H.length 0] (H++[qJ .nilp (.slice .nil 1 [])])=some (.ret (.tuple []),H++[qJ (.ptr H.length 0) (.slice .nil 1 [])]):=by
 rw [aY M hB.strings_Builder_copyCheck rfl (c:=bU) rfl,bU]
 have h1:=hX.same H.length 0
 have hc:dM (H++[qJ .nilp (.slice .nil 1 [])]) (H++[qJ (.ptr H.length 0) (.slice .nil 1 [])]):=PD (by simp) (by
  intro x hx
  obtain rfl:x=_:=by simpa using hx
  intro c hc
  simp only [List.mem_cons,List.not_mem_nil,or_false] at hc
  rcases hc with rfl | rfl
  ·exact wk_ptr (by simp)
  ·exact W3 _ _)
 have ht:(H++[qJ (.ptr H.length 0) (.slice .nil 1 [])]).take (H.length+1)=H++[qJ (.ptr H.length 0) (.slice .nil 1 [])]:=List.take_of_length_le (by simp)
 have e1:P9 (H++[qJ .nilp (.slice .nil 1 [])]) (.ptr H.length 0)=some (.ptr H.length 0):=by simp [P9,dX]
 have e2:Qa (H++[qJ .nilp (.slice .nil 1 [])]) bu 2 (.ptr H.length 0)=some (.ptr H.length 0):=by simp [Qa,dX]
 simp (maxSteps:=3000000) (maxDischargeDepth:=6) +contextual -implicitDefEqProofs only [amA M,amB,↓aj,↓ab,↓al,↓ak,Nat.reduceBEq,Nat.reduceAdd,env,ao,gW,amG,AV.cell,Nat.reduceMul,Nat.reduceLeDiff,h1,qU,Pq,rnc,e1,e2,hc,ht,wk_tuple]
theorem VK(hB:pA E)(H L:List ae)(x:AV) :
  M.run cq [.ptr H.length 0] (H++(qJ (.ptr H.length 0) x::L))=some (.ret (.tuple []),H++(qJ (.ptr H.length 0) x::L)):=by
 rw [aY M hB.strings_Builder_copyCheck rfl (c:=bU) rfl,bU]
 have ht:(H++(qJ (.ptr H.length 0) x::L)).take (H.length+(L.length+1))=H++(qJ (.ptr H.length 0) x::L):=List.take_of_length_le (by simp)
 simp (maxSteps:=3000000) (maxDischargeDepth:=6) +contextual -implicitDefEqProofs only [amA M,amB,↓aj,↓ab,↓al,↓ak,Nat.reduceBEq,Nat.reduceAdd,env,ao,gW,Lc,Ps,rnc,ht,wk_tuple]
theorem QY{g:FuncId}{first cap args:List AV}{H H':List ae}{v:AV}(h:H'.take H.length=H)(T L:List Nat):Cx cY E .keep (.fn (.func g) first cap) args H T L (some (.ret v,H'))=some (v,H',T,L):=by
 unfold Cx vq
 simp only [HO h,Cw.b,if_true]
theorem UH(hF:sZ E)(hX:D7 M)(H:List ae){n:Nat}(hn:n≤281474976710656) :
  M.run mO [.ptr H.length 0,.int .i64 n] (H++[qJ (.ptr H.length 0) (.slice .nil 1 [])])=some (.ret (.tuple []),H++[qJ (.ptr H.length 0) (.rslice (H.length+1) 0 0 1 true),.cells (List.replicate n .unk) dL]):=by
 rw [aY M hF.strings_Builder_grow rfl (c:=nv) rfl,nv]
 have w1:IntKind.i64.wrap (2*0)=0:=by decide
 have w2:IntKind.i64.wrap (0+(n:Int))=(n:Int):=by rw [eK (by omega) (by omega)];omega
 have h1:=fun H=>hX.noZero n H hn
 have e0:((0:Nat):Int)=0:=rfl
 have e1:Oz (.slice .nil 1 [])=some (.int .i64 0):=rfl
 have e2:Ez 1 (.rslice (H.length+1) 0 n 1 true) none (some (.int .i64 0)) none=some (.rslice (H.length+1) 0 0 1 true):=by simp [Ez,fI]
 have e3:rcp (H++[qJ (.ptr H.length 0) (.slice .nil 1 []),.cells (List.replicate n .unk) dL]) 1 false (.rslice (H.length+1) 0 0 1 true) (.slice .nil 1 [])=some (.int .i64 0,H++[qJ (.ptr H.length 0) (.slice .nil 1 []),.cells (List.replicate n .unk) dL]):=by
  simp only [rcp,Ct,true_or,if_true,hp_getk,List.getElem?_cons_succ,List.getElem?_cons_zero,List.length_nil,Nat.le_refl,Nat.zero_le,Nat.zero_mul,Nat.add_zero,true_and,and_true,List.flatten_nil,aL]
  rw [if_pos (by rfl)]
  rw [List.set_append_right _ _ (by omega)]
  simp
 have hdk:=fun T L=>QY (E:=E) (g:=dD) (first:=[]) (cap:=[]) (args:=[.int .i64 n]) (H:=H++[qJ (.ptr H.length 0) (.slice .nil 1 [])]) (H':=H++[qJ (.ptr H.length 0) (.slice .nil 1 []),.cells (List.replicate n .unk) dL]) (v:=.rslice (H.length+1) 0 n 1 true) (by
  rw [show H++[qJ (.ptr H.length 0) (.slice .nil 1 []),ae.cells (List.replicate n .unk) dL]=(H++[qJ (.ptr H.length 0) (.slice .nil 1 [])])++[.cells (List.replicate n .unk) dL] by simp,List.take_left]) T L
 simp (maxSteps:=3000000) (maxDischargeDepth:=6) +contextual -implicitDefEqProofs only [amA M,amB,↓aj,↓ab,↓al,↓ak,Nat.reduceBEq,Nat.reduceAdd,env,ao,BN,amG,AV.cell,Nat.reduceMul,Nat.reduceLeDiff,rnc,w1,w2,h1,e0,e1,e2,e3,hdk]
theorem S3(hB:pA E)(hE:o4 M)(hF:sZ E)(hX:D7 M)(H:List ae){n:Nat}(h0:0<n)(hn:n≤281474976710656) :
  M.run jO [.ptr H.length 0,.int .i64 n] (H++[qJ .nilp (.slice .nil 1 [])])=some (.ret (.tuple []),H++[qJ (.ptr H.length 0) (.rslice (H.length+1) 0 0 1 true),.cells (List.replicate n .unk) dL]):=by
 rw [aY M hF.strings_Builder_Grow rfl (c:=im) rfl,im]
 have w1:IntKind.i64.wrap (0-0)=0:=by decide
 have e0:((0:Nat):Int)=0:=rfl
 have e1:Oz (.slice .nil 1 [])=some (.int .i64 0):=rfl
 have d1:decide ((n:Int)<0)=false:=decide_eq_false (by omega)
 have d2:decide ((0:Int)<(n:Int))=true:=decide_eq_true (by omega)
 have d3:decide (0<n)=true:=decide_eq_true h0
 simp (maxSteps:=3000000) (maxDischargeDepth:=6) +contextual -implicitDefEqProofs only [amA M,amB,↓aj,↓ab,↓al,↓ak,Nat.reduceBEq,Nat.reduceAdd,env,ao,sr,amG,AV.cell,Nat.reduceMul,Nat.reduceLeDiff,rnc,RH M hB hE,UH M hF hX H hn,w1,e0,e1,d1,d2,d3]
theorem QZ(hB:pA E)(hE:o4 M)(hF:sZ E)(H:List ae) :
  M.run jO [.ptr H.length 0,.int .i64 0] (H++[qJ .nilp (.slice .nil 1 [])])=some (.ret (.tuple []),H++[qJ (.ptr H.length 0) (.slice .nil 1 [])]):=by
 rw [aY M hF.strings_Builder_Grow rfl (c:=im) rfl,im]
 have w1:IntKind.i64.wrap (0-0)=0:=by decide
 have e0:((0:Nat):Int)=0:=rfl
 have e1:Oz (.slice .nil 1 [])=some (.int .i64 0):=rfl
 have d1:decide ((0:Int)<0)=false:=rfl
 simp (maxSteps:=3000000) (maxDischargeDepth:=6) +contextual -implicitDefEqProofs only [amA M,amB,↓aj,↓ab,↓al,↓ak,Nat.reduceBEq,Nat.reduceAdd,env,ao,sr,amG,AV.cell,Nat.reduceMul,Nat.reduceLeDiff,rnc,RH M hB hE,w1,e0,e1,d1]
end
section
attribute [local congr] aF cu bm aG a7 aR aH aA aC aS aT
variable{E:bC}(M:cT cY E)
def A5(s:Str):Str:=s.filter fun c => !(c == 43)
inductive BL where
 |nil
 |room (n:Nat)
 |own (w:Str)
def BL.str:BL→Str
 |.own w=>w
 |_=>[]
def BL.wr:BL→Str→BL
 |.nil,_=>.nil
 |.room _,s=>.own s
 |.own w,s=>.own (w++s)
def BL.heap(H:List ae):BL→List ae
 |.nil=>H++[qJ (.ptr H.length 0) (.slice .nil 1 [])]
 |.room n=>H++[qJ (.ptr H.length 0) (.rslice (H.length+1) 0 0 1 true),.cells (List.replicate n .unk) dL]
 |.own w=>H++[qJ (.ptr H.length 0) (.slice (.own (H.length+1)) 1 (gu w)),bTok w]
theorem PE(H:List ae):BL.heap H .nil=H++[qJ (.ptr H.length 0) (.slice .nil 1 [])]:=rfl
theorem M7(H:List ae)(n:Nat):BL.heap H (.room n)=H++[qJ (.ptr H.length 0) (.rslice (H.length+1) 0 0 1 true),.cells (List.replicate n .unk) dL]:=rfl
theorem BL.wr_str(b:BL)(s:Str)(h:b = .nil→s=[]):(b.wr s).str=b.str++s:=by
 cases b with
 |nil=>rw [h rfl];rfl
 |room n=>rfl
 |own w=>rfl
theorem BL.wr_nil{b:BL}{s:Str}(h:b.wr s = .nil):b = .nil:=by cases b<;>simp [BL.wr] at h ⊢
theorem ap2(H:List ae)(x:ae){w s:Str}(h:w.length+s.length≤140737488355328) :
  rap false (H++[x,bTok w]) dL 1 1 true (.slice (.own (H.length+1)) 1 (gu w)) (.str s)=some (.slice (.own (H.length+1)) 1 (gu (w++s)),H++[x,bTok (w++s)]):=by
 have:=QM (H++[x]) [] h
 rw [List.append_assoc,List.append_assoc,List.length_append] at this
 exact this
theorem apR(H:List ae)(x:ae)(n:Nat){s:Str}(h:s.length≤140737488355328) :
  rap false (H++[x,.cells (List.replicate n .unk) dL]) dL 1 1 true (.rslice (H.length+1) 0 0 1 true) (.str s)=some (.slice (.own (H.length+1)) 1 (gu s),H++[x,bTok s]):=by
 have h2:=ap2 H x (w:=[]) (s:=s) (by simpa using h)
 have e:(H++[x,ae.cells (List.replicate n .unk) dL]).set (H.length+1) (.tok 0 dL)=H++[x,bTok []]:=by
  rw [List.set_append_right _ _ (by omega)];simp
 rw [List.nil_append] at h2
 rw [← h2]
 show (match (H++[x,ae.cells (List.replicate n .unk) dL])[H.length+1]? with
  |some (.cells _ T)=>Dj ((H++[x,ae.cells (List.replicate n .unk) dL]).set (H.length+1) (.tok 0 T)) dL 1 1 true (.slice (.own (H.length+1)) 1 []) (.str s)
  |_=>none)=_
 rw [hp_getk]
 simp only [List.getElem?_cons_succ,List.getElem?_cons_zero]
 rw [e]
 rfl
theorem apN(H:List ae):rap false H dL 1 1 true (.slice .nil 1 []) (.str [])=some (.slice .nil 1 [],H):=by
 simp [rap,Dj,Ct,n9]
theorem UI(H:List ae)(x y:ae)(w:Str):dM (H++[x,y]) (H++[qJ (.ptr H.length 0) (.slice (.own (H.length+1)) 1 (gu w)),bTok w]):=PD (by simp) (by
 intro z hz
 simp only [List.mem_cons,List.not_mem_nil,or_false] at hz
 rcases hz with rfl | rfl
 ·intro c hc
  simp only [List.mem_cons,List.not_mem_nil,or_false] at hc
  rcases hc with rfl | rfl
  ·exact wk_ptr (by simp)
  ·exact wk_slice (show H.length+1<_ by simp) (Pp _ _)
 ·trivial)
theorem N4(H:List ae)(x y:ae):(H++[x,y]).take (H.length+2)=H++[x,y]:=List.take_of_length_le (by simp)
theorem RI(H:List ae)(x:ae):(H++[x]).take (H.length+1)=H++[x]:=List.take_of_length_le (by simp)
theorem Q0(hB:pA E)(H:List ae)(b:BL){s:Str}(h:b.str.length+s.length≤140737488355328)(hn:b = .nil→s=[]) :
  M.run aN [.ptr H.length 0,.str s] (b.heap H)=some (.ret (.tuple [.int .i64 s.length,.nilif]),(b.wr s).heap H):=by
 rw [aY M hB.strings_Builder_WriteString rfl (c:=cL) rfl,cL]
 have hc1:=fun L x=>VK M hB H L x
 cases b with
 |nil=>
  rw [hn rfl]
  simp only [BL.heap,BL.wr]
  have a1:=fun H=>apN H
  simp (maxSteps:=3000000) (maxDischargeDepth:=6) +contextual -implicitDefEqProofs only [amA M,amB,↓aj,↓ab,↓al,↓ak,Nat.reduceBEq,Nat.reduceAdd,env,ao,eA,amG,AV.cell,Nat.reduceMul,Nat.reduceLeDiff,hc1,rnc,a1,RI,cut_refl,wk_tuple]
 |room n=>
  simp only [BL.heap,BL.wr]
  have a1:=fun x=>apR H x n (s:=s) (by simp [BL.str] at h;omega)
  have hcut:=fun x y=>UI H x y s
  simp (maxSteps:=3000000) (maxDischargeDepth:=6) +contextual -implicitDefEqProofs only [amA M,amB,↓aj,↓ab,↓al,↓ak,Nat.reduceBEq,Nat.reduceAdd,env,ao,eA,amG,AV.cell,Nat.reduceMul,Nat.reduceLeDiff,hc1,rnc,a1,hcut,N4,wk_tuple]
 |own w=>
  simp only [BL.heap,BL.wr]
  have a1:=fun x=>ap2 H x (w:=w) (s:=s) h
  have hcut:=fun x y=>UI H x y (w++s)
  simp (maxSteps:=3000000) (maxDischargeDepth:=6) +contextual -implicitDefEqProofs only [amA M,amB,↓aj,↓ab,↓al,↓ak,Nat.reduceBEq,Nat.reduceAdd,env,ao,eA,amG,AV.cell,Nat.reduceMul,Nat.reduceLeDiff,hc1,rnc,a1,hcut,N4,wk_tuple]
theorem UJ(hB:pA E)(H:List ae)(b:BL)(h:b.str.length≤9223372036854775807)(hr:∀ n,b≠.room n) :
  M.run dg [.ptr H.length 0] (b.heap H)=some (.ret (.str b.str),b.heap H):=by
 rw [aY M hB.strings_Builder_String rfl (c:=gr) rfl,gr]
 cases b with
 |room n=>exact absurd rfl (hr n)
 |nil=>
  simp only [BL.heap,BL.str]
  have e1:Sc (.slice .nil 1 [])=some (.sdp 0 []):=rfl
  have e2:∀ H,NC H dL (.sdp 0 []) (.int .i64 0)=some (.str []):=fun H=>rfl
  have e0:((0:Nat):Int)=0:=rfl
  simp (maxSteps:=3000000) (maxDischargeDepth:=6) +contextual -implicitDefEqProofs only [amA M,amB,↓aj,↓ab,↓al,↓ak,Nat.reduceBEq,Nat.reduceAdd,env,ao,lA,amG,AV.cell,Nat.reduceMul,Nat.reduceLeDiff,qU,rnc,e0,e1,e2,RI]
 |own w=>
  simp only [BL.heap,BL.str] at h ⊢
  have e2:∀ x,NC (H++[x,bTok w]) dL (.sdp (H.length+1) (gu w)) (.int .i64 (w.length:Int))=some (.str w):=fun x=>by
   have:=Wo (H++[x]) [] w h
   rw [List.append_assoc,List.length_append] at this
   exact this
  simp (maxSteps:=3000000) (maxDischargeDepth:=6) +contextual -implicitDefEqProofs only [amA M,amB,↓aj,↓ab,↓al,↓ak,Nat.reduceBEq,Nat.reduceAdd,env,ao,lA,amG,AV.cell,Nat.reduceMul,Nat.reduceLeDiff,qU,rnc,Wp,e2,N4]
theorem Q1(hF:sZ E)(hS:SpE E)(hX:o4 M)(s:Str)(c:UInt8)(H:List ae):M.run nH [.str s,.str [c]] H=some (.ret (.int .i64 (Lib.indexByte s c)),H):=by
 have h1:M.run cN [.str s,.int .u8 c.toNat] H=some (.ret (.int .i64 (Lib.indexByte s c)),H):=by
  rw [aY M hS.internal_stringslite_IndexByte rfl (c:=dP) rfl,dP]
  have h2:=hX.index s c H
  simp (maxSteps:=3000000) (maxDischargeDepth:=6) +contextual -implicitDefEqProofs only [amA M,amB,↓aj,↓ab,↓al,↓ak,Nat.reduceBEq,Nat.reduceAdd,env,ao,kR,h2]
 have h2:M.run gx [.str s,.str [c]] H=some (.ret (.int .i64 (Lib.indexByte s c)),H):=by
  rw [aY M hF.internal_stringslite_Index rfl (c:=jx) rfl,jx]
  have e0:((([c].length:Nat):Int) == 0)=false:=rfl
  have e1:((([c].length:Nat):Int) == 1)=true:=rfl
  have e2:IY ([c]:Str)[0]?=some (.int .u8 (c.toNat:Int)):=rfl
  cases he:([c]:Str) == s with
  |true=>
   have:Lib.indexByte s c=0:=by rw [← eq_of_beq he];simp [Lib.indexByte]
   rw [this]
   simp (maxSteps:=3000000) (maxDischargeDepth:=6) +contextual -implicitDefEqProofs only [amA M,amB,↓aj,↓ab,↓al,↓ak,Nat.reduceBEq,Nat.reduceAdd,env,ao,nN,e0,e1,he]
  |false=>
   simp (maxSteps:=3000000) (maxDischargeDepth:=6) +contextual -implicitDefEqProofs only [amA M,amB,↓aj,↓ab,↓al,↓ak,Nat.reduceBEq,Nat.reduceAdd,env,ao,nN,e0,e1,e2,h1,he]
 rw [aY M hF.strings_Index rfl (c:=u6) rfl,u6]
 simp (maxSteps:=3000000) (maxDischargeDepth:=6) +contextual -implicitDefEqProofs only [amA M,amB,↓aj,↓ab,↓al,↓ak,Nat.reduceBEq,Nat.reduceAdd,env,ao,Jo,h2]
theorem Q2(hF:sZ E)(hX:D7 M)(s:Str)(c:UInt8)(H:List ae):M.run kD [.str s,.str [c]] H=some (.ret (.int .i64 (Lib.countByte s c:Nat)),H):=by
 rw [aY M hF.strings_Count rfl (c:=u5) rfl,u5]
 have h2:=hX.count s c H
 have e0:((([c].length:Nat):Int) == 0)=false:=rfl
 have e1:((([c].length:Nat):Int) == 1)=true:=rfl
 have e2:IY ([c]:Str)[0]?=some (.int .u8 (c.toNat:Int)):=rfl
 simp (maxSteps:=3000000) (maxDischargeDepth:=6) +contextual -implicitDefEqProofs only [amA M,amB,↓aj,↓ab,↓al,↓ak,Nat.reduceBEq,Nat.reduceAdd,env,ao,Jn,e0,e1,e2,h2]
theorem UK(a b:Str):A5 (a++b)=A5 a++A5 b:=List.filter_append ..
theorem I3:∀ (s:Str) (m:Nat),Lib.countByte s 43=m+1→∃ a r,s=a++43::r∧A5 a=a∧Lib.indexByte s 43=(a.length:Int)∧Lib.countByte r 43=m
 |[],m,h=>by simp [Lib.countByte] at h
 |c::s,m,h=>by
  by_cases hc:c=43
  ·subst hc
   exact ⟨[],s,rfl,rfl,by simp [Lib.indexByte],by simpa [Lib.countByte] using h⟩
  ·obtain ⟨a,r,h1,h2,h3,h4⟩:=I3 s m (by rwa [Lib.countByte,List.count_cons_of_ne (Ne.symm (by simpa using (fun e=>hc e.symm)))] at h)
   refine ⟨c::a,r,by rw [h1];rfl, ?_, ?_,h4⟩
   ·simp only [A5,List.filter_cons] at h2 ⊢
    simp [hc,h2]
   ·have hb:(c == 43)=false:=by simpa using hc
    simp only [Lib.indexByte,hb,h3]
    have:((a.length:Int) == -1)=false:=beq_eq_false_iff_ne.2 (by omega)
    simp [this]
theorem RJ{s:Str}(h:Lib.countByte s 43=0):A5 s=s:=by
 simp only [Lib.countByte] at h
 rw [List.count_eq_zero] at h
 exact List.filter_eq_self.2 fun c hc=>by
  have:c≠43:=fun e=>h (e ▸ hc)
  simpa using this
theorem PF{s:Str}(h:∀ x∈s,x=43):A5 s=[]:=List.filter_eq_nil_iff.2 fun c hc=>by simp [h c hc]
theorem rpl(hN:dG E)(hF:sZ E)(hS:SpE E)(hX:o4 M)(hB:pA E){s:Str}(hs:s.length≤1000000){H H0:List ae}(N:Nat)(k:List Fra):∀ (m i st:Nat) (b:BL) (He:List ae),i+m=N→N≤1000000→st≤s.length→b.str.length≤st→Lib.countByte (s.drop st) 43=m→(b = .nil→∀ x∈s,x=43) →
  ∃ (st':Nat) (b':BL),st'≤s.length∧b'.str++s.drop st'=b.str++A5 (s.drop st)∧b'.str.length≤st'∧(b' = .nil→∀ x∈s,x=43) ∧
   M.go ew H0 (.c jA :: .lp ⟨(some [0,1,2,10,11,52,53]),[],false⟩ jA He :: .blk 0 :: .c (.lv [0,10,11])::k) (kv [(0,.str s),(1,.str [43]),(2,.str []),(10,.ptr H.length 0),(11,.int .i64 st),(52,.int .i64 N),(53,.int .i64 i)]) (b.heap H)=M.go ew H0 k (kv [(0,.str s),(10,.ptr H.length 0),(11,.int .i64 st')]) (b'.heap H)
 |0,i,st,b,He,hi,hN2,hst,hbl,hc,hb=>by
  refine ⟨st,b,hst,by rw [RJ hc],hbl,hb, ?_⟩
  have e:i=N:=by omega
  subst e
  rw [aw M jA.eq_1]
  simp (maxSteps:=3000000) (maxDischargeDepth:=6) +contextual -implicitDefEqProofs only [amA M,amB,↓aj,↓ab,↓al,↓ak,Nat.reduceBEq,Nat.reduceAdd,env,ao,jb,Nat.lt_irrefl]
 |m+1,i,st,b,He,hi,hN2,hst,hbl,hc,hb=>by
  obtain ⟨a,r,h1,h2,h3,h4⟩:=I3 _ _ hc
  have hlen:a.length+(r.length+1)=s.length-st:=by
   have:=congrArg List.length h1
   simpa using this.symm
  have hdr:s.drop (st+a.length+1)=r:=by
   rw [Nat.add_assoc,← List.drop_drop,h1,List.drop_append,List.drop_of_length_le (by omega)]
   simp
  have hta:(s.drop st).take a.length=a:=by rw [h1];simp
  have hbn:b = .nil→a=[]:=fun e=>by
   have:A5 a=[]:=PF fun x hx=>hb e x (List.mem_of_mem_drop (by rw [h1];simp [hx]))
   rw [← h2,this]
  have hw1:=Q0 M hB H b (s:=a) (by omega) hbn
  have hs1:=b.wr_str a hbn
  have hw2:=Q0 M hB H (b.wr a) (s:=[]) (by rw [hs1];simp;omega) (fun _=>rfl)
  have hs2:=(b.wr a).wr_str [] (fun _=>rfl)
  rw [List.append_nil] at hs2
  have hbb:(b.wr a).wr [] = .nil→∀ x∈s,x=43:=fun e=>hb (BL.wr_nil (BL.wr_nil e))
  obtain ⟨st',b',g1,g2,g3,g4,g5⟩:=rpl hN hF hS hX hB hs (H:=H) (H0:=H0) N k m (i+1) (st+a.length+1) ((b.wr a).wr []) (((b.wr a).wr []).heap H) (by omega) hN2 (by omega) (by rw [hs2,hs1];simp;omega) (by rw [hdr];exact h4) hbb
  refine ⟨st',b',g1, ?_,g3,g4, ?_⟩
  ·rw [g2,hs2,hs1,hdr,h1,UK,h2,List.append_assoc]
   congr 1
  ·simp only [kv_cons,kv_nil] at g5 ⊢
   rw [← g5]
   have hin:i<N:=by omega
   have hix:=fun H=>Q1 M hF hS hX (s.drop st) 43 H
   rw [h3] at hix
   have q1:=xj (s:=s) (k:=.i64) hst
   have q2:=Uq (s:=s) (k:=.i64) (k':=.i64) (i:=st) (j:=st+a.length) (by omega) (by omega)
   rw [Nat.add_sub_cancel_left,hta] at q2
   have q3:IntKind.i64.wrap ((st:Int)+(a.length:Int))=((st+a.length:Nat):Int):=by rw [eK (by omega) (by omega)];omega
   have q4:IntKind.i64.wrap (((st+a.length:Nat):Int)+1)=((st+a.length+1:Nat):Int):=by rw [eK (by omega) (by omega)];omega
   have q5:((([43]:Str).length:Nat):Int)=1:=rfl
   rw [aw M jA.eq_1]
   simp (maxSteps:=3000000) (maxDischargeDepth:=6) +contextual -implicitDefEqProofs only [amA M,amB,↓aj,↓ab,↓al,↓ak,Nat.reduceBEq,Nat.reduceAdd,env,ao,jb,hin,hix,q1,q2,q3,q4,q5,hw1,hw2,c6 hin (show N≤bD by simp only [bD];omega)]
theorem PG(hN:dG E)(hF:sZ E)(hS:SpE E)(hX:o4 M)(hY:D7 M)(hB:pA E){s:Str}(hs:s.length≤1000000)(H:List ae) :
  M.run sb [.str s,.str [43],.str [],.int .i64 (-1)] H=some (.ret (.str (A5 s)),H):=by
 rw [aY M hF.strings_Replace rfl (c:=sn) rfl,sn]
 have hct:=fun H=>Q2 M hF hY s 43 H
 have q5:((([43]:Str).length:Nat):Int)=1:=rfl
 have q6:(([43]:Str) == [])=false:=rfl
 have q7:((-1:Int) == 0)=false:=rfl
 have q8:decide ((-1:Int)<0)=true:=rfl
 have q9:decide ((0:Int)<1)=true:=rfl
 have z0:((0:Nat):Int)=0:=rfl
 have z1:((1:Nat):Int)=1:=rfl
 have w1:IntKind.i64.wrap (0-1) = -1:=by decide
 generalize hc:Lib.countByte s 43=n at hct
 have hcl:n≤s.length:=by rw [← hc];exact List.count_le_length
 cases hn:(n:Int) == 0 with
 |true=>
  have:n=0:=by have:=eq_of_beq hn;omega
  rw [RJ (by rw [hc];exact this)]
  simp (maxSteps:=3000000) (maxDischargeDepth:=6) +contextual -implicitDefEqProofs only [amA M,amB,↓aj,↓ab,↓al,↓ak,Nat.reduceBEq,Nat.reduceAdd,env,ao,jb,hct,q5,q6,q7,q8,hn]
 |false=>
  have hn0:0<n:=by have:=beq_eq_false_iff_ne.1 hn;omega
  have w2:IntKind.i64.wrap ((n:Int) * -1) = -(n:Int):=by rw [eK (by omega) (by omega)];omega
  have w3:IntKind.i64.wrap ((s.length:Int) + -(n:Int))=((s.length-n:Nat):Int):=by rw [eK (by omega) (by omega)];omega
  have fin:∀ (b:BL) (st:Nat),st≤s.length→b.str.length≤st→b.str++s.drop st=A5 s→(b = .nil→∀ x∈s,x=43) →
    M.go ew H [.c (.seq (.seq (.ops [⟨(some 99),none,(.op (.mv (.t 0)))⟩,⟨(some 100),none,(.op (.mv (.t 11)))⟩,⟨(some 101),none,(.op (.sls (.t 99) (some (.t 100)) none))⟩,⟨(some 102),none,(.call (.c (.fn (.func aN) [] [])) [(.t 10),(.t 101)])⟩]) (.lv [10])) (.seq (.ops [⟨(some 103),none,(.call (.c (.fn (.func dg) [] [])) [(.t 10)])⟩,⟨(some 8),none,(.op (.mv (.t 103)))⟩]) .ret))] (uK (uK (uK Env.leaf 11 (.int .i64 st)) 10 (.ptr H.length 0)) 0 (.str s)) (b.heap H)=some (.ret (.str (A5 s)),H):=by
   intro b st h1 h2 h3 h4
   have hbn:b = .nil→s.drop st=[]:=fun e=>by
    have h5:=PF (h4 e)
    rw [h5] at h3
    exact (List.append_eq_nil_iff.1 h3).2
   have a1:=Q0 M hB H b (s:=s.drop st) (by simp;omega) hbn
   have a2:=b.wr_str (s.drop st) hbn
   have a3:=UJ M hB H (b.wr (s.drop st)) (by rw [a2];simp;omega) (fun n e=>by cases b<;>simp [BL.wr] at e)
   rw [a2,h3] at a3
   have q1:=xj (s:=s) (k:=.i64) h1
   have hcut:∀ b:BL,dM H (b.heap H):=fun b=>by cases b<;>exact cut_app H _
   have htk:∀ b:BL,(b.heap H).take H.length=H:=fun b=>by cases b<;>simp [BL.heap]
   simp (maxSteps:=3000000) (maxDischargeDepth:=6) +contextual -implicitDefEqProofs only [amA M,amB,↓aj,↓ab,↓al,↓ak,Nat.reduceBEq,Nat.reduceAdd,env,ao,jb,q1,a1,a3,hcut,htk]
  by_cases hg:s.length-n=0
  ·have hall:∀ x∈s,x=43:=by
    have:s.count 43=s.length:=by rw [Lib.countByte] at hc;omega
    exact fun x hx=>((List.count_eq_length.1 this) x hx).symm
   have hgr:=QZ M hB hX hF H
   obtain ⟨st',b',g1,g2,g3,g4,g5⟩:=rpl M hN hF hS hX hB hs (H:=H) (H0:=H) n [.c (.seq (.seq (.ops [⟨(some 99),none,(.op (.mv (.t 0)))⟩,⟨(some 100),none,(.op (.mv (.t 11)))⟩,⟨(some 101),none,(.op (.sls (.t 99) (some (.t 100)) none))⟩,⟨(some 102),none,(.call (.c (.fn (.func aN) [] [])) [(.t 10),(.t 101)])⟩]) (.lv [10])) (.seq (.ops [⟨(some 103),none,(.call (.c (.fn (.func dg) [] [])) [(.t 10)])⟩,⟨(some 8),none,(.op (.mv (.t 103)))⟩]) .ret))] n 0 0 .nil (H++[qJ (.ptr H.length 0) (.slice .nil 1 [])]) (by omega) (by omega) (Nat.zero_le _) (Nat.le_refl _) hc (fun _=>hall)
   have g6:=fin b' st' g1 g3 g2 g4
   simp only [kv_cons,kv_nil,Int.ofNat_zero,PE,M7] at g5
   rw [hg,z0] at w3
   rw [← g6,← g5]
   simp (maxSteps:=3000000) (maxDischargeDepth:=6) +contextual -implicitDefEqProofs only [amA M,amB,↓aj,↓ab,↓al,↓ak,Nat.reduceBEq,Nat.reduceAdd,env,ao,jb,amG,AV.cell,Nat.reduceMul,Nat.reduceLeDiff,hct,z0,z1,q5,q6,q7,q8,q9,hn,w1,w2,w3,hgr]
  ·have hgr:=S3 M hB hX hF hY H (n:=s.length-n) (by omega) (by omega)
   obtain ⟨st',b',g1,g2,g3,g4,g5⟩:=rpl M hN hF hS hX hB hs (H:=H) (H0:=H) n [.c (.seq (.seq (.ops [⟨(some 99),none,(.op (.mv (.t 0)))⟩,⟨(some 100),none,(.op (.mv (.t 11)))⟩,⟨(some 101),none,(.op (.sls (.t 99) (some (.t 100)) none))⟩,⟨(some 102),none,(.call (.c (.fn (.func aN) [] [])) [(.t 10),(.t 101)])⟩]) (.lv [10])) (.seq (.ops [⟨(some 103),none,(.call (.c (.fn (.func dg) [] [])) [(.t 10)])⟩,⟨(some 8),none,(.op (.mv (.t 103)))⟩]) .ret))] n 0 0 (.room (s.length-n)) (H++[qJ (.ptr H.length 0) (.rslice (H.length+1) 0 0 1 true),.cells (List.replicate (s.length-n) .unk) dL]) (by omega) (by omega) (Nat.zero_le _) (Nat.le_refl _) hc (fun e=>by cases e)
   have g6:=fin b' st' g1 g3 g2 g4
   simp only [kv_cons,kv_nil,Int.ofNat_zero,PE,M7] at g5
   rw [← g6,← g5]
   simp (maxSteps:=3000000) (maxDischargeDepth:=6) +contextual -implicitDefEqProofs only [amA M,amB,↓aj,↓ab,↓al,↓ak,Nat.reduceBEq,Nat.reduceAdd,env,ao,jb,amG,AV.cell,Nat.reduceMul,Nat.reduceLeDiff,hct,z0,z1,q5,q6,q7,q8,q9,hn,w1,w2,w3,hgr]
theorem Lt(hN:dG E)(hF:sZ E)(hS:SpE E)(hX:o4 M)(hY:D7 M)(hB:pA E){s:Str}(hs:s.length≤1000000)(H:List ae) :
  M.run pe [.str s,.str [43],.str []] H=some (.ret (.str (A5 s)),H):=by
 rw [aY M hF.strings_ReplaceAll rfl (c:=po) rfl,po]
 simp (maxSteps:=3000000) (maxDischargeDepth:=6) +contextual -implicitDefEqProofs only [amA M,amB,↓aj,↓ab,↓al,↓ak,Nat.reduceBEq,Nat.reduceAdd,env,ao,DC,PG M hN hF hS hX hY hB hs]
end
section
attribute [local congr] aF cu bm aG a7 aR aH aA aC aS aT
variable{E:bC}(M:cT cY E)
def VM(q:Int):Nat→bX→Option AV:=fun _ f=>sel (f.slot == q) (some (.str f.word)) none
def Q3(l:List bX)(q:Int):Option Str:=(l.find? fun f=>f.slot == q).map (·.word)
theorem M8(q:Int)(H:List ae)(x:Option Out):∀ (l:List bX) (i:Nat),orE (fJ (VM q) i l) H x=match Q3 l q with
  |some w=>some (.ret (.str w),H)
  |none=>x
 |[],_=>rfl
 |f::l,i=>by
  rw [ui,show VM q i f=sel (f.slot == q) (some (.str f.word)) none from rfl,JG,JF,GU,GT,GV,M8 q H x l]
  simp only [Q3,List.find?_cons]
  cases f.slot == q<;>rfl
def Ml(o:Option (List Str)):Str:=
 match o with
 |none=>[]
 |some r=>sel (decide ((24:Int)<((A5 (r.getLastD [])).length:Int))) [] (A5 (r.getLastD []))
def jT(l:Lex)(x:aK)(s:bt)(q:Int):Str:=
 match Q3 x.forms.l q with
 |some w=>w
 |none=>Ml (xk l x s)
theorem Lu(v:Str):∀ (l:List bA) (o:List Str) (u:Str) (r:List Str),u.length≤1000→Cs v (o++[u]) u l=some r→∃ r' u',r=r'++[u']∧u'.length≤1000∧r.length=o.length+1+l.length
 |[],o,u,r,hu,h=>by
  obtain rfl:=Option.some.inj h
  exact ⟨o,u,rfl,hu,by simp⟩
 |x::l,o,u,r,hu,h=>by
  rw [Cs] at h
  cases hd:decide (((uE v x u).length:Int)≤512) with
  |false=>rw [hd] at h;simp [sel] at h
  |true=>
   rw [hd] at h
   obtain ⟨r',u',h1,h2,h3⟩:=Lu v l (o++[u]) (uE v x u) r (by have:=of_decide_eq_true hd;omega) h
   exact ⟨r',u',h1,h2,by rw [h3];simp;omega⟩
theorem PH{l:Lex}(hk:cD l=0){e q:Int}{x:aK}{c:aZ}{s:bt}(hA:At l e q x c s){r:List Str}(h:xk l x s=some r):∃ r' u',r=r'++[u']∧u'.length≤1000∧r.length≤100:=by
 unfold xk at h
 cases ho:Ls x.lem s with
 |none=>rw [ho] at h;cases h
 |some u=>
  rw [ho] at h
  have hul:u.length≤1000:=by
   have:=PB (Ev hA.ent.lem) hA.sok
   unfold Ls at ho
   revert ho
   cases decide ((x.lem.length:Int)<s.cut) with
   |true=>simp [sel]
   |false=>intro ho;rw [← Option.some.inj ho];omega
  obtain ⟨r',u',h1,h2,h3⟩:=Lu l.vowels l.spells.l [] u r hul h
  have:=FA hk
  exact ⟨r',u',h1,h2,by simp at h3;omega⟩
theorem mfl{H H0:List ae}{e q:Int}{x:aK}{n0:Nat}(hx0:x.ok n0)(hn:n0≤H.length){p:Nat}(hpl:p<H.length)(hc:dM H0 H)(k:List Fra):∀ (n i:Nat),i+n=(x.forms.l).length →
  M.go dz H0 (.c gO :: .lp ⟨(some [1,2,3,20,21,22]),[],true⟩ gO H :: .blk 0 :: .c (.lv [1,2,3])::k) (kv [(1,.int .i64 e),(2,.int .i64 q),(3,.ptr p 0),(20,.slice x.forms.tag 2 (x.forms.l.map bX.row)),(21,.int .i64 x.forms.l.length),(22,.int .i64 i)]) H =
   orE (fJ (VM q) i (x.forms.l.drop i)) (H.take H0.length) (M.go dz H0 k (kv [(1,.int .i64 e),(2,.int .i64 q),(3,.ptr p 0)]) H)
 |0,i,h=>by
  have e:i=(x.forms.l).length:=by omega
  subst e
  rw [aw M gO.eq_1]
  simp (maxSteps:=3000000) (maxDischargeDepth:=6) +contextual -implicitDefEqProofs only [amA M,amB,↓aj,↓ab,↓al,↓ak,Nat.reduceBEq,Nat.reduceAdd,env,ao,gd,Nat.lt_irrefl,List.drop_length]
 |n+1,i,h=>by
  have hi:i<(x.forms.l).length:=by omega
  have hx:(x.forms.l)[i]?=some (x.forms.l)[i]:=List.getElem?_eq_getElem hi
  have hd:((x.forms.l).drop i)=(x.forms.l)[i]::(x.forms.l).drop (i+1):=List.drop_eq_getElem_cons hi
  have hm:(x.forms.l)[i]∈(x.forms.l):=List.getElem_mem hi
  have ih:=mfl (H:=H) (H0:=H0) (e:=e) (q:=q) (x:=x) (n0:=n0) (hx0:=hx0) (hn:=hn) (p:=p) (hpl:=hpl) hc k n (i+1)  (by omega)
  simp only [kv_cons,kv_nil] at ih
  have w2:Wk H.length (.ptr p 0) (.ptr p 0):=wk_ptr hpl
  have w3:Wk H.length (.slice x.forms.tag 2 (x.forms.l.map bX.row)) (.slice x.forms.tag 2 (x.forms.l.map bX.row)):=(hx0.forms.mono hn (fun _ h=>h.mono hn)).wk (fun _ h=>h.wk)
  rw [aw M gO.eq_1]
  simp (maxSteps:=3000000) (maxDischargeDepth:=6) +contextual -implicitDefEqProofs only [amA M,amB,↓aj,↓ab,↓al,↓ak,Nat.reduceBEq,Nat.reduceAdd,env,ao,gd,hx,hd,hi,ih,amG,AV.cell,w2,w3,c6 hi hx0.forms.len,bo hi,HR,hc,VM]
theorem PI(r':List Str)(u':Str){t:Tag}(h:(r'++[u']).length≤100):Bk 1 (.slice t 1 ((r'++[u']).map k7)) (.int .i64 (IntKind.i64.wrap (((r'++[u']).length:Int)-1)))=some (.vptr 1 ((r'++[u']).map k7) r'.length 0):=by
 have e:IntKind.i64.wrap (((r'++[u']).length:Int)-1)=(r'.length:Int):=by
  simp only [List.length_append,List.length_cons,List.length_nil] at h ⊢
  rw [eK (by omega) (by omega)];omega
 rw [e]
 exact bo (by simp)
theorem PJ(r':List Str)(u':Str):(r'++[u'])[r'.length]?=some u':=by simp
theorem UL(r':List Str)(u':Str):(r'++[u']).getLastD []=u':=by simp
theorem Lv(hN:dG E)(hW:WdE M)(hE:iV E)(hS:SpE E)(hX:o4 M)(hY:D7 M)(hB:pA E)(hF:sZ E){l:Lex}(hl:l.ok 0)(hk:cD l=0){e q:Int}{x:aK}{c:aZ}{s:bt}(hA:At l e q x c s)(H:List ae) :
  M.run eY [.agg l.row,.int .i64 e,.int .i64 q] H=some (.ret (.str (jT l x s q)),H):=by
 rw [aY M hF.morph_language_form rfl (c:=ot) rfl,ot]
 have hx0:=hl.entries.all x (List.mem_of_getElem? hA.ex)
 have h1:=fun k=>mfl M (H:=H++[.cells l.row aD]) (H0:=H) (e:=e) (q:=q) hx0 (Nat.zero_le _) (p:=H.length) (by simp) (cut_app H _) k x.forms.l.length 0 (by omega)
 simp only [kv_cons,kv_nil,Int.ofNat_zero,List.drop_zero,M8] at h1
 have hsl:=fun H=>Hp M hW hE hF hl e q H
 simp only [hA.sl hk,Option.getD_some,Option.isSome_some] at hsl
 have hst:=fun H=>S2 M hN hS hX hB hF hl (Uv hk) hA (by have:=FA hk;omega) H
 have hsw:∀ n,WkL n s.row s.row:=fun n=>(((hl.classes.all c hA.cm).slots.all s (List.mem_of_getElem? hA.sx)).mono (Nat.zero_le n)).wk
 cases hi:Q3 x.forms.l q with
 |some w=>
  have e1:jT l x s q=w:=by simp [jT,hi]
  rw [e1]
  simp only [hi] at h1
  simp (maxSteps:=3000000) (maxDischargeDepth:=6) +contextual -implicitDefEqProofs only [amA M,amB,↓aj,↓ab,↓al,↓ak,Nat.reduceBEq,Nat.reduceAdd,env,ao,gd,amG,AV.cell,Nat.reduceMul,Nat.reduceLeDiff,h1,hA.ex,iD hA.e0 hA.el,cZ,gZ]
 |none=>
  have e1:jT l x s q=Ml (xk l x s):=by simp [jT,hi]
  rw [e1]
  simp only [hi] at h1
  cases hr:xk l x s with
  |none=>
   simp only [hr,PC,Option.getD_none,Option.isSome_none,List.map_nil] at hst
   simp (maxSteps:=3000000) (maxDischargeDepth:=6) +contextual -implicitDefEqProofs only [amA M,amB,↓aj,↓ab,↓al,↓ak,Nat.reduceBEq,Nat.reduceAdd,env,ao,gd,amG,AV.cell,Nat.reduceMul,Nat.reduceLeDiff,h1,hsl,hst,hA.ex,iD hA.e0 hA.el,cZ,gZ,jz,Ml]
  |some r=>
   obtain ⟨r',u',g1,g2,g3⟩:=PH hk hA hr
   subst g1
   simp only [hr,PC,Option.getD_some,Option.isSome_some] at hst
   have hra:=fun H=>Lt M hN hF hS hX hY hB (s:=u') (by omega) H
   cases hd:decide ((24:Int)<((A5 u').length:Int)) with
   |true=>
    have e2:Ml (some (r'++[u']))=[]:=by simp only [Ml,UL,hd,sel]
    rw [e2]
    simp (maxSteps:=3000000) (maxDischargeDepth:=6) +contextual -implicitDefEqProofs only [amA M,amB,↓aj,↓ab,↓al,↓ak,Nat.reduceBEq,Nat.reduceAdd,env,ao,gd,amG,AV.cell,Nat.reduceMul,Nat.reduceLeDiff,h1,hsl,hst,hra,hd,PI r' u' g3,PJ,hA.ex,iD hA.e0 hA.el,cZ,gZ,jz,TV]
   |false=>
    have e2:Ml (some (r'++[u']))=A5 u':=by simp only [Ml,UL,hd,sel]
    rw [e2]
    simp (maxSteps:=3000000) (maxDischargeDepth:=6) +contextual -implicitDefEqProofs only [amA M,amB,↓aj,↓ab,↓al,↓ak,Nat.reduceBEq,Nat.reduceAdd,env,ao,gd,amG,AV.cell,Nat.reduceMul,Nat.reduceLeDiff,h1,hsl,hst,hra,hd,PI r' u' g3,PJ,hA.ex,iD hA.e0 hA.el,cZ,gZ,jz,TV]
end
section
attribute [local congr] aF cu bm aG a7 aR aH aA aC aS aT
variable{E:bC}(M:cT cY E)
end
section
attribute [local congr] aF cu bm aG a7 aR aH aA aC aS aT
variable{E:bC}(M:cT cY E)
theorem UM{l:Lex}(hk:cD l=0){e:Int}(he:0≤e){x:aK}(hx:l.entries.l[e.toNat]?=some x){c:aZ}(hc:Cr l x c){i:Nat}{s:bt}(hs:c.slots.l[i]?=some s):At l e (i:Int) x c s:=by
 have hcm:c∈l.classes.l:=List.mem_of_find?_eq_some hc.cls
 exact ⟨he,by omega,(List.getElem?_eq_some_iff.1 hx).1,hx,hc,hcm,by simpa using (List.getElem?_eq_some_iff.1 hs).1,by simpa using hs,Wq (RF hk hcm (List.mem_of_getElem? hs))⟩
theorem S4(hW:WdE M)(hE:iV E)(hF:sZ E){l:Lex}(hl:l.ok 0){e:Int}(he:0≤e){x:aK}(hx:l.entries.l[e.toNat]?=some x){c:aZ}(hc:Cr l x c)(H:List ae) :
  M.run jD [.agg l.row,.int .i64 e] H=some (.ret (.int .i64 c.slots.l.length),H):=by
 rw [aY M hF.morph_language_slots rfl (c:=mT) rfl,mT]
 have hcl:=fun H=>pL M hE hl hc.cls (H:=H) (Nat.zero_le _)
 have hw:=fun H T L=>NV hW (g:=fH) (first:=[]) (cap:=[]) (args:=[.agg l.row,.str x.cls]) (v:=.tuple [.agg c.row,.bool true]) hcl H T L
 simp (maxSteps:=3000000) (maxDischargeDepth:=6) +contextual -implicitDefEqProofs only [amA M,amB,↓aj,↓ab,↓al,↓ak,Nat.reduceBEq,Nat.reduceAdd,env,ao,Bz,amG,AV.cell,Nat.reduceMul,Nat.reduceLeDiff,hx,iD he (List.getElem?_eq_some_iff.1 hx).1,z7 hW,hcl,hw,cZ,gZ,ky]
theorem Ew{l:Lex}(hk:cD l=0){x:aK}{c:aZ}(hc:Cr l x c):c.slots.l.length≤24:=by
 have hcm:c∈l.classes.l:=List.mem_of_find?_eq_some hc.cls
 obtain ⟨k,hk2⟩:=List.getElem?_of_mem hcm
 have h2:=(je (pN hk).1).2 k c hk2
 unfold F6 at h2
 have h3:=(fo (by decide) (fo (by decide) (fo (by decide) h2).2).2)
 have:=of_decide_eq_false (fo (by decide) (fo (by decide) (fo (by decide) h2).2).2).1
 omega
end
section
set_option linter.defProp false
structure bP where
 e:Int
 q:Int
 w:Str
def bP.row(x:bP):List AV:=[.int .i64 x.e,.int .i64 x.q,.str x.w]
theorem M9:(∀ x:bP,o9 3 (bP.row x)=some (bP.row x))∧(∀ x:bP,cG none (bP.row x) 0=some (.int .i64 x.e))∧(∀ x:bP,cG none (bP.row x) 1=some (.int .i64 x.q))∧(∀ x:bP,cG none (bP.row x) 2=some (.str x.w))∧(∀ x:bP,(bP.row x).length=3)∧(∀ x:bP,(bP.row x).all AV.cell=true)∧(∀ x:bP,∀ c0 c1 c2:AV,aL [c0,c1,c2] 0 (bP.row x)=bP.row x)∧(∀ x:bP,∀ y:bP,aL (bP.row y) 0 (bP.row x)=bP.row x)∧(∀ x:bP,∀ (y:Int),aL (bP.row x) 0 [.int .i64 y]=bP.row { x with e:=y })∧(∀ x:bP,∀ (y:Int),aL (bP.row x) 1 [.int .i64 y]=bP.row { x with q:=y })∧(∀ x:bP,∀ (y:Str),aL (bP.row x) 2 [.str y]=bP.row { x with w:=y })∧(∀ x:bP,(bP.row x).map AV.strip=bP.row x)∧(∀ x:bP,(bP.row x).take 3=bP.row x)∧(∀ x:bP,(bP.row x).drop 3=[]):=
 by refine ⟨?_, ?_, ?_, ?_, ?_, ?_, ?_, ?_, ?_, ?_, ?_, ?_, ?_, ?_⟩<;>(intros;first | rfl | (simp only [bP.row];rfl) | (simp only [bP.row,jW];rfl))
structure bP.ok (n:Nat) (x:bP):Prop where
 e:I64 x.e
 q:I64 x.q
 w:x.w.length≤bD
theorem bP.ok.mono{n m:Nat}{x:bP}(h:x.ok n)(hn:n≤m):x.ok m:=⟨h.e,h.q,h.w⟩
theorem bP.ok.wk{n:Nat}{x:bP}(h:x.ok n):WkL n x.row x.row:=⟨wk_int _ _ _,wk_int _ _ _,wk_str _ _,trivial⟩
structure bw where
 first:aJ
 w:Str
def bw.row(x:bw):List AV:=aJ.row x.first++[.str x.w]
theorem Q4:(∀ x:bw,o9 4 (bw.row x)=some (bw.row x))∧(∀ x:bw,o9 3 (bw.row x)=some (aJ.row x.first))∧(∀ x:bw,cG none (bw.row x) 3=some (.str x.w))∧(∀ x:bw,(bw.row x).length=4)∧(∀ x:bw,(bw.row x).all AV.cell=true)∧(∀ x:bw,∀ c0 c1 c2 c3:AV,aL [c0,c1,c2,c3] 0 (bw.row x)=bw.row x)∧(∀ x:bw,∀ y:bw,aL (bw.row y) 0 (bw.row x)=bw.row x)∧(∀ x:bw,∀ (y:aJ),aL (bw.row x) 0 (aJ.row y)=bw.row { x with first:=y })∧(∀ x:bw,∀ (y:Str),aL (bw.row x) 3 [.str y]=bw.row { x with w:=y })∧(∀ x:bw,(bw.row x).map AV.strip=bw.row x)∧(∀ x:bw,(bw.row x).take 4=bw.row x)∧(∀ x:bw,(bw.row x).drop 4=[]):=
 by refine ⟨?_, ?_, ?_, ?_, ?_, ?_, ?_, ?_, ?_, ?_, ?_, ?_⟩<;>(intros;first | rfl | (simp only [bw.row,aJ.row];rfl) | (simp only [bw.row,aJ.row,jW];rfl))
structure bw.ok (n:Nat) (x:bw):Prop where
 first:x.first.ok n
 w:x.w.length≤bD
theorem bw.ok.mono{n m:Nat}{x:bw}(h:x.ok n)(hn:n≤m):x.ok m:=⟨h.first.mono hn,h.w⟩
theorem bw.ok.wk{n:Nat}{x:bw}(h:x.ok n):WkL n x.row x.row:=Kx (h.first.wk) ⟨wk_str _ _,trivial⟩
end
section
attribute [local congr] aF cu bm aG a7 aR aH aA aC aS aT
variable{E:bC}(M:cT cY E)
structure Jv (E:bC):Prop where
 morph_language_opens:E.fn jK=some fN
 morph_language_build:E.fn mJ=some dO
 morph_Build:E.fn tS=some n4
 truchmanref02_linked:E.fn sc=some np
theorem irr_len{l:Lex}{x:aK}{c:aZ}(h:Cr l x c){q:Int}{w:Str}(hi:Q3 x.forms.l q=some w):w.length≤24:=by
 simp only [Q3,Option.map_eq_some_iff] at hi
 obtain ⟨f,hf,rfl⟩:=hi
 obtain ⟨k,hk⟩:=List.getElem?_of_mem (List.mem_of_find?_eq_some hf)
 have:=rQ h.forms k f hk
 rw [Nat.zero_add] at this
 unfold MY at this
 have h3:=(fo (by decide) (fo (by decide) (fo (by decide) this).2).2).1
 cases hw:f.word == [] with
 |true=>rw [eq_of_beq hw];simp
 |false=>
  rw [hw] at h3
  exact Ev (by simpa using h3)
theorem UN(o:Option (List Str)):(Ml o).length≤24:=by
 unfold Ml
 split
 ·simp
 ·rename_i r
  cases hd:decide ((24:Int)<((A5 (r.getLastD [])).length:Int)) with
  |true=>simp [sel]
  |false=>have:=of_decide_eq_false hd;simp only [sel];omega
theorem JK{l:Lex}{x:aK}{c:aZ}(h:Cr l x c)(s:bt)(q:Int):(jT l x s q).length≤24:=by
 unfold jT
 split
 ·rename_i w hw;exact irr_len h hw
 ·exact UN _
theorem Lw{l:Lex}(hk:cD l=0){k:dt}(h:k∈l.links.l):k.glue.length≤6:=by
 obtain ⟨j,hj⟩:=List.getElem?_of_mem h
 have h5:=(je (pN hk).2.2.2).2 j k hj
 unfold K5 at h5
 split at h5
 ·exact absurd h5 (by decide)
 ·have:=(fo (by decide) h5).1
  simp only [Bool.not_eq_false',pz,Bool.and_eq_true,decide_eq_true_eq] at this
  omega
def Jw(l:Lex)(n:Int):Option dt:=if n<0 then none else l.links.l[n.toNat]?
def D8(x:aK)(s:bt)(k:dt):Bool:=x.cls == k.cls&&W2 k.feats.l (QV x s)
def zt(l:Lex)(f:aJ):Option Str:=
 match slF l f.entry f.slot,Is l f.entry,Jw l f.link with
 |some s,some x,some k=>sel (D8 x s k) (sel (jT l x s f.slot == []) none (some (jT l x s f.slot++k.glue))) none
 |_,_,_=>none
def Fa(l:Lex):List aJ→Str→Option Str
 |[],w=>some w
 |f::t,w=>match zt l f with
  |none=>none
  |some v=>Fa l t (w++v)
def ka(l:Lex)(a:Analysis):Str:=
 match Fa l a.firsts.l [],slF l a.entry a.slot,Is l a.entry with
 |some w,some s,some x=>sel (jT l x s a.slot == []||decide ((24:Int)<((w++jT l x s a.slot).length:Int))) [] (w++jT l x s a.slot)
 |_,_,_=>[]
theorem VN{l:Lex}{e q:Int}{x:aK}{c:aZ}{s:bt}(hA:At l e q x c s):(QV x s).length≤bD:=by
 have hm:=hA.uni
 rw [DZ,hA.ent.short.2,hA.sok.feats.2] at hm
 have hl:=Eu _ _ _ _ (Nat.le_refl _) hm
 have h8:=hA.ent.short.1
 have h9:=hA.sok.feats.1
 simp only [bD];omega
theorem Na(hE:iV E)(hU:vL E){srt:List aq→List aq}(hO:yK M srt)(hP:Srt srt)(hF:sZ E)(hV:Jv E){l:Lex}{e q:Int}{x:aK}{c:aZ}{s:bt}(hA:At l e q x c s){k:dt}{n:Nat}(hk:k.ok n)(H:List ae) :
  M.run jK [.agg l.row,.int .i64 e,.agg s.row,.agg k.row] H=some (.ret (.bool (D8 x s k)),H):=by
 rw [aY M hV.morph_language_opens rfl (c:=ni) rfl,ni]
 have h1:=fun H=>QW M hU hO hP hF hA H
 have h2:=fun H=>N3 M hE hU (a:=k.feats) (b:=⟨.any,QV x s⟩) hk.feats.len (VN hA) H
 simp only at h2
 unfold D8
 cases hc:x.cls == k.cls with
 |true=>
  simp (maxSteps:=3000000) (maxDischargeDepth:=6) +contextual -implicitDefEqProofs only [amA M,amB,↓aj,↓ab,↓al,↓ak,Nat.reduceBEq,Nat.reduceAdd,env,ao,sk,amG,AV.cell,Nat.reduceMul,Nat.reduceLeDiff,h1,h2,hc,hA.ex,iD hA.e0 hA.el,cZ,gZ,z8,jz]
 |false=>
  simp (maxSteps:=3000000) (maxDischargeDepth:=6) +contextual -implicitDefEqProofs only [amA M,amB,↓aj,↓ab,↓al,↓ak,Nat.reduceBEq,Nat.reduceAdd,env,ao,sk,amG,AV.cell,Nat.reduceMul,Nat.reduceLeDiff,h1,h2,hc,hA.ex,iD hA.e0 hA.el,cZ,gZ,z8,jz]
def N5(M:cT cY E)(fn:AFn)(H0:List ae)(k:List Fra)(p r:Nat)(o:Option Str)(H:List ae):Option Out:=
 match o with
 |none=>some (.ret (.str []),H.take H0.length)
 |some w=>M.go fn H0 k (kv [(2,.ptr p 0),(3,.ptr r 0),(5,.str w)]) H
theorem bul(hN:dG E)(hW:WdE M)(hE:iV E)(hS:SpE E)(hX:o4 M)(hY:D7 M)(hB:pA E)(hF:sZ E)(hU:vL E){srt:List aq→List aq}(hO:yK M srt)(hP:Srt srt)(hV:Jv E){l:Lex}(hl:l.ok 0)(hk:cD l=0){a:Analysis}(ha:a.ok 0)(ha2:a.firsts.l.length≤2)
  {H H0:List ae} (hc:dM H0 H) {p r:Nat}{T T2:TypeId} (hp:H[p]?=some (.cells l.row T)) (hr:H[r]?=some (.cells a.row T2)) (k:List Fra):∀ (n i:Nat) (w:Str) (He:List ae),He=H→i+n=a.firsts.l.length→w.length≤30*i →
  M.go dO H0 (.c bY :: .lp ⟨(some [2,3,5,15,16,17]),[],true⟩ bY He :: .blk 0 :: .c (.lv [2,3,5])::k) (kv [(2,.ptr p 0),(3,.ptr r 0),(5,.str w),(15,.slice a.firsts.tag 3 (a.firsts.l.map aJ.row)),(16,.int .i64 a.firsts.l.length),(17,.int .i64 i)]) H=N5 M dO H0 k p r (Fa l (a.firsts.l.drop i) w) H
 |0,i,w,He,hHe,h,hw=>by
  have e:i=a.firsts.l.length:=by omega
  subst e
  rw [List.drop_length,Fa,N5]
  rw [aw M bY.eq_1]
  simp (maxSteps:=3000000) (maxDischargeDepth:=6) +contextual -implicitDefEqProofs only [amA M,amB,↓aj,↓ab,↓al,↓ak,Nat.reduceBEq,Nat.reduceAdd,env,ao,bM,Nat.lt_irrefl]
 |n+1,i,w,He,hHe,h,hw=>by
  subst hHe
  have hi:i<a.firsts.l.length:=by omega
  have hx:a.firsts.l[i]?=some a.firsts.l[i]:=List.getElem?_eq_getElem hi
  have hd:a.firsts.l.drop i=a.firsts.l[i]::a.firsts.l.drop (i+1):=List.drop_eq_getElem_cons hi
  have hp':=fun L=>dj (L:=L) hp
  have hr':=fun L=>dj (L:=L) hr
  have w1:Wk He.length (.ptr p 0) (.ptr p 0):=wk_ptr (List.getElem?_eq_some_iff.1 hp).1
  have w2:Wk He.length (.ptr r 0) (.ptr r 0):=wk_ptr (List.getElem?_eq_some_iff.1 hr).1
  have w3:Wk He.length (.slice a.firsts.tag 3 (a.firsts.l.map aJ.row)) (.slice a.firsts.tag 3 (a.firsts.l.map aJ.row)):=(ha.firsts.mono (Nat.zero_le _) (fun _ h=>h.mono (Nat.zero_le _))).wk (fun _ h=>h.wk)
  have hcm:=fun L=>Kz hc L
  have htm:=fun L=>HS hc L
  rw [hd,Fa]
  generalize a.firsts.l[i]=f at hx
  have hsl:=fun H=>Hp M hW hE hF hl f.entry f.slot H
  cases hs:slF l f.entry f.slot with
  |none=>
   have e1:zt l f=none:=by simp [zt,hs]
   simp only [hs,Option.getD_none,Option.isSome_none] at hsl
   rw [e1]
   simp only [N5]
   rw [aw M bY.eq_1]
   simp (maxSteps:=3000000) (maxDischargeDepth:=6) +contextual -implicitDefEqProofs only [amA M,amB,↓aj,↓ab,↓al,↓ak,Nat.reduceBEq,Nat.reduceAdd,env,ao,bM,amG,AV.cell,Nat.reduceMul,Nat.reduceLeDiff,hx,hi,hsl,hp',hr',bo hi,cZ,uM,jz,hcm,htm]
  |some s=>
   obtain ⟨x,c,hA⟩:=M6 hk hs
   simp only [hs,Option.getD_some,Option.isSome_some] at hsl
   have hf:=fun H=>Lv M hN hW hE hS hX hY hB hF hl hk hA H
   cases hl1:decide (f.link<0) with
   |true=>
    have e1:zt l f=none:=by simp [zt,hs,hA.ent',Jw,of_decide_eq_true hl1]
    rw [e1]
    simp only [N5]
    rw [aw M bY.eq_1]
    simp (maxSteps:=3000000) (maxDischargeDepth:=6) +contextual -implicitDefEqProofs only [amA M,amB,↓aj,↓ab,↓al,↓ak,Nat.reduceBEq,Nat.reduceAdd,env,ao,bM,amG,AV.cell,Nat.reduceMul,Nat.reduceLeDiff,hx,hi,hsl,hl1,hp',hr',bo hi,cZ,uM,jz,hcm,htm]
   |false=>
    have hl0:¬ f.link<0:=of_decide_eq_false hl1
    cases hl2:decide ((l.links.l.length:Int)≤f.link) with
    |true=>
     have hll:l.links.l.length≤f.link.toNat:=by have:=of_decide_eq_true hl2;omega
     have e1:zt l f=none:=by simp [zt,hs,hA.ent',Jw,hl0,List.getElem?_eq_none hll]
     rw [e1]
     simp only [N5]
     rw [aw M bY.eq_1]
     simp (maxSteps:=3000000) (maxDischargeDepth:=6) +contextual -implicitDefEqProofs only [amA M,amB,↓aj,↓ab,↓al,↓ak,Nat.reduceBEq,Nat.reduceAdd,env,ao,bM,amG,AV.cell,Nat.reduceMul,Nat.reduceLeDiff,hx,hi,hsl,hl1,hl2,hp',hr',bo hi,cZ,uM,jz,hcm,htm]
    |false=>
     have hll:f.link.toNat<l.links.l.length:=by have:=of_decide_eq_false hl2;omega
     have hk1:l.links.l[f.link.toNat]?=some l.links.l[f.link.toNat]:=List.getElem?_eq_getElem hll
     have hkm:l.links.l[f.link.toNat]∈l.links.l:=List.getElem_mem hll
     generalize l.links.l[f.link.toNat]=kk at hk1 hkm
     have hko:=hl.links.all kk hkm
     have hgl:=Lw hk hkm
     have hop:=fun H=>Na M hE hU hO hP hF hV hA hko H
     have e0:zt l f=sel (D8 x s kk) (sel (jT l x s f.slot == []) none (some (jT l x s f.slot++kk.glue))) none:=by simp [zt,hs,hA.ent',Jw,hl0,hk1]
     have hfl:=JK hA.ent s f.slot
     cases ho:D8 x s kk with
     |false=>
      rw [e0,ho]
      simp only [sel,N5]
      rw [ho] at hop
      rw [aw M bY.eq_1]
      simp (maxSteps:=3000000) (maxDischargeDepth:=6) +contextual -implicitDefEqProofs only [amA M,amB,↓aj,↓ab,↓al,↓ak,Nat.reduceBEq,Nat.reduceAdd,env,ao,bM,amG,AV.cell,Nat.reduceMul,Nat.reduceLeDiff,hx,hi,hsl,hl1,hl2,hk1,hop,hp',hr',bo hi,iD (Int.not_lt.1 hl0) hll,cZ,uM,jz,z8,hcm,htm]
     |true=>
      rw [e0,ho]
      rw [ho] at hop
      generalize jT l x s f.slot=v at hf hfl
      cases hv:v == [] with
      |true=>
       simp only [sel,N5]
       rw [aw M bY.eq_1]
       simp (maxSteps:=3000000) (maxDischargeDepth:=6) +contextual -implicitDefEqProofs only [amA M,amB,↓aj,↓ab,↓al,↓ak,Nat.reduceBEq,Nat.reduceAdd,env,ao,bM,amG,AV.cell,Nat.reduceMul,Nat.reduceLeDiff,hx,hi,hsl,hl1,hl2,hk1,hop,hf,hv,hp',hr',bo hi,iD (Int.not_lt.1 hl0) hll,cZ,uM,jz,z8,hcm,htm]
      |false=>
       simp only [sel]
       have ih:=bul hN hW hE hS hX hY hB hF hU hO hP hV hl hk ha ha2 hc hp hr k n (i+1) (w++(v++kk.glue)) He rfl (by omega) (by simp;omega)
       simp only [kv_cons,kv_nil] at ih
       rw [aw M bY.eq_1]
       simp (maxSteps:=3000000) (maxDischargeDepth:=6) +contextual -implicitDefEqProofs only [amA M,amB,↓aj,↓ab,↓al,↓ak,Nat.reduceBEq,Nat.reduceAdd,env,ao,bM,amG,AV.cell,Nat.reduceMul,Nat.reduceLeDiff,hx,hi,hsl,hl1,hl2,hk1,hop,hf,hv,ih,w1,w2,w3,qZ (s:=v) (t:=kk.glue) (by omega),qZ (s:=w) (t:=v++kk.glue) (by simp;omega),c6 hi (show a.firsts.l.length≤bD by simp only [bD];omega),hp',hr',bo hi,iD (Int.not_lt.1 hl0) hll,cZ,uM,jz,z8,hcm,htm]
end
section
attribute [local congr] aF cu bm aG a7 aR aH aA aC aS aT
variable{E:bC}(M:cT cY E)
theorem PK{l:Lex}(hk:cD l=0):∀ (t:List aJ) (w v:Str),Fa l t w=some v→v.length≤w.length+30*t.length
 |[],w,v,h=>by obtain rfl:=Option.some.inj h;simp
 |f::t,w,v,h=>by
  rw [Fa] at h
  cases ho:zt l f with
  |none=>rw [ho] at h;cases h
  |some u=>
   rw [ho] at h
   have h1:=PK hk t (w++u) v h
   have h2:u.length≤30:=by
    unfold zt at ho
    cases hs:slF l f.entry f.slot with
    |none=>rw [hs] at ho;cases ho
    |some s=>
     obtain ⟨x,c,hA⟩:=M6 hk hs
     rw [hs,hA.ent'] at ho
     cases hl:Jw l f.link with
     |none=>rw [hl] at ho;cases ho
     |some kk=>
      rw [hl] at ho
      have hg:kk.glue.length≤6:=by
       unfold Jw at hl
       split at hl
       ·cases hl
       ·exact Lw hk (List.mem_of_getElem? hl)
      have hf:=JK hA.ent s f.slot
      simp only at ho
      cases hb:D8 x s kk with
      |false=>rw [hb] at ho;cases ho
      |true=>
       rw [hb] at ho
       cases hv:jT l x s f.slot == [] with
       |true=>rw [hv] at ho;cases ho
       |false=>rw [hv] at ho;obtain rfl:=Option.some.inj ho;simp;omega
   simp at h1 ⊢;omega
theorem S5(hN:dG E)(hW:WdE M)(hE:iV E)(hS:SpE E)(hX:o4 M)(hY:D7 M)(hB:pA E)(hF:sZ E)(hU:vL E){srt:List aq→List aq}(hO:yK M srt)(hP:Srt srt)(hV:Jv E){l:Lex}(hl:l.ok 0)(hk:cD l=0){a:Analysis}(ha:a.ok 0)(ha2:a.firsts.l.length≤2)(H:List ae) :
  M.run mJ [.agg l.row,.agg a.row] H=some (.ret (.str (ka l a)),H):=by
 rw [aY M hV.morph_language_build rfl (c:=mS) rfl,mS]
 have h1:=fun k=>bul M hN hW hE hS hX hY hB hF hU hO hP hV hl hk ha ha2 (H:=H++[.cells l.row aD,.cells a.row au]) (H0:=H) (cut_app H _) (p:=H.length) (r:=H.length+1) (T:=aD) (T2:=au) (by rw [dX];rfl) (by rw [hp_getk];rfl) k a.firsts.l.length 0 [] _ rfl (by omega) (by simp)
 simp only [kv_cons,kv_nil,Int.ofNat_zero,List.drop_zero] at h1
 have hsl:=fun H=>Hp M hW hE hF hl a.entry a.slot H
 cases hb:Fa l a.firsts.l [] with
 |none=>
  have e1:ka l a=[]:=by simp [ka,hb]
  rw [e1]
  simp only [hb,N5,hp_take] at h1
  simp (maxSteps:=3000000) (maxDischargeDepth:=6) +contextual -implicitDefEqProofs only [amA M,amB,↓aj,↓ab,↓al,↓ak,Nat.reduceBEq,Nat.reduceAdd,env,ao,bM,amG,AV.cell,Nat.reduceMul,Nat.reduceLeDiff,h1,cZ,dN]
 |some w=>
  have hwl:=PK hk _ _ _ hb
  simp only [hb,N5,kv_cons,kv_nil] at h1
  cases hs:slF l a.entry a.slot with
  |none=>
   have e1:ka l a=[]:=by simp [ka,hb,hs]
   rw [e1]
   simp only [hs,Option.getD_none,Option.isSome_none] at hsl
   simp (maxSteps:=3000000) (maxDischargeDepth:=6) +contextual -implicitDefEqProofs only [amA M,amB,↓aj,↓ab,↓al,↓ak,Nat.reduceBEq,Nat.reduceAdd,env,ao,bM,amG,AV.cell,Nat.reduceMul,Nat.reduceLeDiff,h1,hsl,cZ,dN,jz]
  |some s=>
   obtain ⟨x,c,hA⟩:=M6 hk hs
   simp only [hs,Option.getD_some,Option.isSome_some] at hsl
   have hf:=fun H=>Lv M hN hW hE hS hX hY hB hF hl hk hA H
   have hfl:=JK hA.ent s a.slot
   have e1:ka l a=sel (jT l x s a.slot == []||decide ((24:Int)<((w++jT l x s a.slot).length:Int))) [] (w++jT l x s a.slot):=by simp only [ka,hb,hs,hA.ent']
   rw [e1]
   generalize jT l x s a.slot=v at hf hfl
   have had:=qZ (s:=w) (t:=v) (by simp at hwl;omega)
   cases hv:v == [] with
   |true=>
    simp only [Bool.true_or,sel]
    simp (maxSteps:=3000000) (maxDischargeDepth:=6) +contextual -implicitDefEqProofs only [amA M,amB,↓aj,↓ab,↓al,↓ak,Nat.reduceBEq,Nat.reduceAdd,env,ao,bM,amG,AV.cell,Nat.reduceMul,Nat.reduceLeDiff,h1,hsl,hf,hv,cZ,dN,jz]
   |false=>
    cases hd:decide ((24:Int)<((w++v).length:Int)) with
    |true=>
     simp only [Bool.false_or,sel]
     simp (maxSteps:=3000000) (maxDischargeDepth:=6) +contextual -implicitDefEqProofs only [amA M,amB,↓aj,↓ab,↓al,↓ak,Nat.reduceBEq,Nat.reduceAdd,env,ao,bM,amG,AV.cell,Nat.reduceMul,Nat.reduceLeDiff,h1,hsl,hf,hv,had,hd,cZ,dN,jz]
    |false=>
     simp only [Bool.false_or,sel]
     simp (maxSteps:=3000000) (maxDischargeDepth:=6) +contextual -implicitDefEqProofs only [amA M,amB,↓aj,↓ab,↓al,↓ak,Nat.reduceBEq,Nat.reduceAdd,env,ao,bM,amG,AV.cell,Nat.reduceMul,Nat.reduceLeDiff,h1,hsl,hf,hv,had,hd,cZ,dN,jz]
def Ge(l:Lex)(a:Analysis):AV:=
 sel (!(cD l == 0)) (.tuple [.str [],.int .u8 (cD l)]) (sel (decide ((2:Int)<(a.firsts.l.length:Int))) (.tuple [.str [],.int .u8 3]) (sel (ka l a == []) (.tuple [.str [],.int .u8 7]) (.tuple [.str (ka l a),.int .u8 0])))
theorem Nb(hN:dG E)(hW:WdE M)(hE:iV E)(hS:SpE E)(hX:o4 M)(hY:D7 M)(hB:pA E)(hF:sZ E)(hU:vL E){srt:List aq→List aq}(hO:yK M srt)(hP:Srt srt)(hV:Jv E){l:Lex}(hl:l.ok 0){a:Analysis}(ha:a.ok 0)(H:List ae) :
  M.run tS [.agg l.row,.agg a.row] H=some (.ret (Ge l a),H):=by
 rw [aY M hV.morph_Build rfl (c:=yZ) rfl,yZ]
 unfold Ge
 cases hk:cD l == 0 with
 |false=>
  simp (maxSteps:=3000000) (maxDischargeDepth:=6) +contextual -implicitDefEqProofs only [amA M,amB,↓aj,↓ab,↓al,↓ak,Nat.reduceBEq,Nat.reduceAdd,env,ao,tW,amG,AV.cell,Nat.reduceMul,Nat.reduceLeDiff,tN M hN hE hl,Nat.zero_le,hk,cZ,dN,wk_tuple,sel]
 |true=>
  cases hd:decide ((2:Int)<(a.firsts.l.length:Int)) with
  |true=>
   simp (maxSteps:=3000000) (maxDischargeDepth:=6) +contextual -implicitDefEqProofs only [amA M,amB,↓aj,↓ab,↓al,↓ak,Nat.reduceBEq,Nat.reduceAdd,env,ao,tW,amG,AV.cell,Nat.reduceMul,Nat.reduceLeDiff,tN M hN hE hl,Nat.zero_le,hk,hd,cZ,dN,wk_tuple,sel]
  |false=>
   have hb:=fun H=>S5 M hN hW hE hS hX hY hB hF hU hO hP hV hl (eq_of_beq hk) ha (by have:=of_decide_eq_false hd;omega) H
   generalize ka l a=w at hb
   cases hw:w == [] with
   |true=>
    simp (maxSteps:=3000000) (maxDischargeDepth:=6) +contextual -implicitDefEqProofs only [amA M,amB,↓aj,↓ab,↓al,↓ak,Nat.reduceBEq,Nat.reduceAdd,env,ao,tW,amG,AV.cell,Nat.reduceMul,Nat.reduceLeDiff,tN M hN hE hl,Nat.zero_le,hk,hd,hb,hw,cZ,dN,wk_tuple,sel]
   |false=>
    simp (maxSteps:=3000000) (maxDischargeDepth:=6) +contextual -implicitDefEqProofs only [amA M,amB,↓aj,↓ab,↓al,↓ak,Nat.reduceBEq,Nat.reduceAdd,env,ao,tW,amG,AV.cell,Nat.reduceMul,Nat.reduceLeDiff,tN M hN hE hl,Nat.zero_le,hk,hd,hb,hw,cZ,dN,wk_tuple,sel]
end
section
attribute [local congr] aF cu bm aG a7 aR aH aA aC aS aT
variable{E:bC}(M:cT cY E)
structure GenE (E:bC):Prop where
 morph_Bundle:E.fn Dv=some wx
 morph_Generate:E.fn Aa=some tF
end
section
attribute [local congr] aF cu bm aG a7 aR aH aA aC aS aT
variable{E:bC}(M:cT cY E)
end
section
attribute [local congr] aF cu bm aG a7 aR aH aA aC aS aT
variable{E:bC}(M:cT cY E)
theorem VO{l:Lex}(hk:cD l=0):∀ x∈l.entries.l,∃ c,Cr l x c:=fun x hx=>by
 obtain ⟨k,hk2⟩:=List.getElem?_of_mem hx
 exact Lq hk hk2
theorem Hq{l:Lex}(hk:cD l=0):l.entries.l.length≤128:=by
 have:=(je (pN hk).2.1).1
 omega
end
section
attribute [local congr] aF cu bm aG a7 aR aH aA aC aS aT
variable{E:bC}(M:cT cY E)
structure Iu (E:bC):Prop where
 slices_Clone_api_First_api_First:E.fn du=some ct
 internal_stringslite_CutPrefix:E.fn ib=some cP
 strings_CutPrefix:E.fn pW=some iy
 morph_analyses:E.fn lN=some eS
 morph_language_shapes:E.fn lM=some cb
 morph_language_openings:E.fn kz=some bR
 morph_language_analyze:E.fn k9=some dh
 morph_Analyze:E.fn jh=some kE
theorem N6{α:Type}{row:α→List AV}{sz:Nat}:∀ (m:List α),(∀ x∈m,(row x).length=sz∧(row x).all AV.cell=true)→n9 sz (m.map row)=true
 |[],_=>rfl
 |x::m,h=>by
  have h1:=h x (by simp)
  have h2:=N6 m fun y hy=>h y (by simp [hy])
  simp only [n9,List.map_cons,List.all_cons,Bool.and_eq_true] at h2 ⊢
  exact ⟨⟨by simpa using h1.1,h1.2⟩,h2⟩
theorem Gf{α:Type}{row:α→List AV}:∀ (m:List α),(∀ x∈m,(row x).map AV.strip=row x)→(m.map row).map (·.map AV.strip)=m.map row
 |[],_=>rfl
 |x::m,h=>by
  simp only [List.map_cons]
  rw [h x (by simp),← List.map_cons]
  exact congrArg _ (Gf m fun y hy=>h y (by simp [hy]))
theorem PL{α:Type}{row:α→List AV}{l m:List α}{tg:Tag}{sz bytes:Nat}{e:TypeId}(H L:List ae)(hm:∀ x∈m,(row x).length=sz∧(row x).all AV.cell=true)(hs:∀ x∈m,(row x).map AV.strip=row x)
  (hl:(l.length+m.length)*bytes≤140737488355328) (hl2:l.length+m.length≤4611686018427387904) :
  rap false (H++(.tok (l.length*sz) e::L)) e sz bytes false (.slice (.own H.length) sz (l.map row)) (.slice tg sz (m.map row))=some (.slice (.own H.length) sz ((l++m).map row),H++(.tok ((l++m).length*sz) e::L)):=by
 have hr:=N6 m hm
 have h3:=Gf m hs
 simp only [rap,Dj,Ct,if_true,List.length_map,or_true,hl,hl2,hr,and_true,true_and]
 cases m with
 |nil=>simp
 |cons x m=>
  simp only [List.map_cons] at h3 ⊢
  simp only [dX,List.getElem?_cons_zero,and_true,if_true,hp_set0,List.set_cons_zero,h3,List.map_append,List.map_cons,List.length_append,List.length_cons,List.length_map,Nat.add_mul]
theorem VP{α:Type}{row:α→List AV}{m:List α}{tg:Tag}{sz bytes:Nat}{e:TypeId}(H:List ae)(h0:m≠[])(hm:∀ x∈m,(row x).length=sz∧(row x).all AV.cell=true)(hs:∀ x∈m,(row x).map AV.strip=row x)
  (hl:m.length*bytes≤140737488355328) (hl2:m.length≤4611686018427387904) :
  rap false H e sz bytes false (.slice .full sz []) (.slice tg sz (m.map row))=some (.slice (.own H.length) sz (m.map row),H++[.tok (m.length*sz) e]):=by
 have hr:=N6 m hm
 have h3:=Gf m hs
 simp only [rap,Dj,Ct,if_true,List.length_map,List.length_nil,Nat.zero_add,true_or,or_true,hl,hl2,hr,and_true,true_and]
 cases m with
 |nil=>exact absurd rfl h0
 |cons x m=>
  simp only [List.map_cons] at h3 ⊢
  simp only [or_true,if_true,List.length_cons,List.length_map,h3,List.nil_append] at hl hl2 hr ⊢
theorem Lx(m:List aJ):(∀ x∈m,(aJ.row x).length=3∧(aJ.row x).all AV.cell=true)∧(∀ x∈m,(aJ.row x).map AV.strip=aJ.row x):=⟨fun _ _=>⟨rfl,rfl⟩,fun _ _=>rfl⟩
theorem Hr(n:Nat)(x:bP):WkL n (bP.row x) (bP.row x):=⟨wk_int _ _ _,wk_int _ _ _,wk_str _ _,trivial⟩
theorem Ly(n:Nat)(x:aJ):WkL n (aJ.row x) (aJ.row x):=⟨wk_int _ _ _,wk_int _ _ _,wk_int _ _ _,trivial⟩
theorem JL(n:Nat)(x:bw):WkL n (bw.row x) (bw.row x):=⟨wk_int _ _ _,wk_int _ _ _,wk_int _ _ _,wk_str _ _,trivial⟩
theorem ua{α:Type}{row:α→List AV}(h:∀ n x,WkL n (row x) (row x))(n:Nat)(l:List α):mI n (l.map row):=by
 rw [rowsWk_map];exact fun x _=>h n x
theorem VQ:req .sl (.slice .nil 3 []) (.slice .nil 0 [])=some true:=rfl
theorem W5{α:Type}{row:α→List AV}{l:List α}{tg:Tag}(h:l≠[])(sz:Nat):req .sl (.slice tg sz (l.map row)) (.slice .nil 0 [])=some false:=by
 cases l with
 |nil=>exact absurd rfl h
 |cons x l=>cases tg<;>rfl
theorem Lz(hA:Iu E)(H:List ae):M.run du [.slice .nil 3 []] H=some (.ret (.slice .nil 3 []),H):=by
 rw [aY M hA.slices_Clone_api_First_api_First rfl (c:=dx) rfl,dx]
 simp (maxSteps:=3000000) (maxDischargeDepth:=6) +contextual -implicitDefEqProofs only [amA M,amB,↓aj,↓ab,↓al,↓ak,Nat.reduceBEq,Nat.reduceAdd,env,ao,j3,VQ,Option.map_some]
theorem LA(hA:Iu E){l:List aJ}(hl:l≠[])(hn:l.length≤1000)(tg:Tag)(H:List ae):M.run du [.slice tg 3 (l.map aJ.row)] H=some (.ret (.slice (.own H.length) 3 (l.map aJ.row)),H++[.tok (l.length*3) dE]):=by
 rw [aY M hA.slices_Clone_api_First_api_First rfl (c:=dx) rfl,dx]
 have ap:=VP (row:=aJ.row) (m:=l) (tg:=tg) (sz:=3) (bytes:=24) (e:=dE) H hl (Lx l).1 (Lx l).2 (by omega) (by omega)
 simp (maxSteps:=3000000) (maxDischargeDepth:=6) +contextual -implicitDefEqProofs only [amA M,amB,↓aj,↓ab,↓al,↓ak,Nat.reduceBEq,Nat.reduceAdd,env,ao,j3,amG,AV.cell,Nat.reduceMul,Nat.reduceLeDiff,W5 hl,Option.map_some,ap]
end
section
attribute [local congr] aF cu bm aG a7 aR aH aA aC aS aT
variable{E:bC}(M:cT cY E)
def x7(l:Lex)(x:aK)(e:Nat):Nat→List bt→List bP
 |_,[]=>[]
 |i,s::t=>sel (jT l x s i == []) (x7 l x e (i+1) t) (⟨e,i,jT l x s i⟩::x7 l x e (i+1) t)
def D9(l:Lex):Nat→List aK→List bP
 |_,[]=>[]
 |e,x::t=>x7 l x e 0 (match Cq l x.cls with | some c=>c.slots.l | none=>[])++D9 l (e+1) t
def xl(l:Lex):List bP:=D9 l 0 l.entries.l
theorem LB(l:Lex)(x:aK)(e:Nat):∀ (t:List bt) (i:Nat),(x7 l x e i t).length≤t.length
 |[],_=>Nat.le_refl _
 |s::t,i=>by
  have h1:=LB l x e t (i+1)
  rw [x7]
  cases (jT l x s i == [])<;>simp only [sel,List.length_cons]<;>omega
theorem PM{l:Lex}(hk:cD l=0):∀ (t:List aK) (e:Nat),(∀ x∈t,∃ c,Cr l x c)→(D9 l e t).length≤24*t.length
 |[],_,_=>Nat.le_refl _
 |x::t,e,h=>by
  obtain ⟨c,hc⟩:=h x (by simp)
  have h1:=PM hk t (e+1) fun y hy=>h y (List.mem_cons_of_mem _ hy)
  have h2:=LB l x e c.slots.l 0
  have h3:=Ew hk hc
  rw [D9,hc.cls,List.length_append,List.length_cons]
  simp only;omega
theorem LC{l:Lex}(hk:cD l=0):(xl l).length≤3072:=by
 have h1:=PM hk l.entries.l 0 (VO hk)
 have h2:=Hq hk
 unfold xl;omega
theorem W6(hN:dG E)(hW:WdE M)(hE:iV E)(hS:SpE E)(hX:o4 M)(hY:D7 M)(hB:pA E)(hF:sZ E){l:Lex}(hl:l.ok 0)(hk:cD l=0){e:Nat}{x:aK}(hx:l.entries.l[e]?=some x){c:aZ}(hc:Cr l x c){e2 N:Int}
  {H H0:List ae}{p:Nat}{T:TypeId} (hp:H[p]?=some (.cells l.row T)) (k:List Fra):∀ (n i:Nat) (o:List bP) (He:List ae),i+n=c.slots.l.length→o.length+n≤10000→c.slots.l.length≤1000 →
  M.go cb H0 (.c eB :: .lp ⟨(some [1,3,4,10,11,16,17]),[(3,3,dI)],false⟩ eB He :: .blk 2 :: .c (.lv [1,3,10,11])::k) (kv [(1,.ptr p 0),(3,.slice (.own H.length) 3 (o.map bP.row)),(4,.int .i64 e),(10,.int .i64 N),(11,.int .i64 e2),(16,.int .i64 c.slots.l.length),(17,.int .i64 i)]) (H++[.tok (o.length*3) dI]) =
   M.go cb H0 k (kv [(1,.ptr p 0),(3,.slice (.own H.length) 3 ((o++x7 l x e i (c.slots.l.drop i)).map bP.row)),(10,.int .i64 N),(11,.int .i64 e2)]) (H++[.tok ((o++x7 l x e i (c.slots.l.drop i)).length*3) dI])
 |0,i,o,He,h,ho,hcl=>by
  have e:i=c.slots.l.length:=by omega
  subst e
  rw [List.drop_length,x7,List.append_nil]
  rw [aw M eB.eq_1]
  simp (maxSteps:=3000000) (maxDischargeDepth:=6) +contextual -implicitDefEqProofs only [amA M,amB,↓aj,↓ab,↓al,↓ak,Nat.reduceBEq,Nat.reduceAdd,env,ao,ft,Nat.lt_irrefl]
 |n+1,i,o,He,h,ho,hcl=>by
  have hi:i<c.slots.l.length:=by omega
  have hs:c.slots.l[i]?=some c.slots.l[i]:=List.getElem?_eq_getElem hi
  have hd:c.slots.l.drop i=c.slots.l[i]::c.slots.l.drop (i+1):=List.drop_eq_getElem_cons hi
  have hf:=fun H=>Lv M hN hW hE hS hX hY hB hF hl hk (UM hk (e:=(e:Int)) (by omega) (by simpa using hx) hc hs) H
  have hp':=fun L=>dj (L:=L) hp
  have hws:=c6 hi (show c.slots.l.length≤bD by simp only [bD];omega)
  rw [hd,x7]
  generalize jT l x c.slots.l[i] i=w at hf
  cases hw:w == [] with
  |true=>
   have ih:=fun He=>W6 hN hW hE hS hX hY hB hF hl hk hx hc (e2:=e2) (N:=N) (H0:=H0) hp k n (i+1) o He (by omega) (by omega) hcl
   simp only [kv_cons,kv_nil,sel] at ih ⊢
   rw [aw M eB.eq_1]
   simp (maxSteps:=3000000) (maxDischargeDepth:=6) +contextual -implicitDefEqProofs only [amA M,amB,↓aj,↓ab,↓al,↓ak,Nat.reduceBEq,Nat.reduceAdd,env,ao,ft,amG,AV.cell,Nat.reduceMul,Nat.reduceLeDiff,hi,hf,hw,bne,hp',ih,hws,cZ]
  |false=>
   have ap:=TZ (row:=bP.row) (l:=o) (x:=⟨e,i,w⟩) (r:=bP.row ⟨e,i,w⟩) (sz:=3) (bytes:=32) (e:=dI) H rfl rfl rfl (by omega) (by omega)
   have ih:=fun He=>W6 hN hW hE hS hX hY hB hF hl hk hx hc (e2:=e2) (N:=N) (H0:=H0) hp k n (i+1) (o++[⟨e,i,w⟩]) He (by omega) (by simp;omega) hcl
   simp only [bP.row] at ap
   simp only [kv_cons,kv_nil,sel,List.append_assoc,List.cons_append,List.nil_append] at ih ⊢
   rw [aw M eB.eq_1]
   simp (maxSteps:=3000000) (maxDischargeDepth:=6) +contextual -implicitDefEqProofs only [amA M,amB,↓aj,↓ab,↓al,↓ak,Nat.reduceBEq,Nat.reduceAdd,env,ao,ft,amG,AV.cell,Nat.reduceMul,Nat.reduceLeDiff,hi,hf,hw,bne,hp',ap,ih,hws,cZ]
theorem XE(hN:dG E)(hW:WdE M)(hE:iV E)(hS:SpE E)(hX:o4 M)(hY:D7 M)(hB:pA E)(hF:sZ E){l:Lex}(hl:l.ok 0)(hk:cD l=0)
  {H H0:List ae}{p:Nat}{T:TypeId} (hp:H[p]?=some (.cells l.row T)) (k:List Fra):∀ (n i:Nat) (o:List bP) (He:List ae),i+n=l.entries.l.length→o.length+24*n≤9000 →
  M.go cb H0 (.c fR :: .lp ⟨(some [1,3,10,11]),[(3,3,dI)],false⟩ fR He :: .blk 0 :: .c (.lv [3])::k) (kv [(1,.ptr p 0),(3,.slice (.own H.length) 3 (o.map bP.row)),(10,.int .i64 l.entries.l.length),(11,.int .i64 i)]) (H++[.tok (o.length*3) dI]) =
   M.go cb H0 k (kv [(3,.slice (.own H.length) 3 ((o++D9 l i (l.entries.l.drop i)).map bP.row))]) (H++[.tok ((o++D9 l i (l.entries.l.drop i)).length*3) dI])
 |0,i,o,He,h,ho=>by
  have e:i=l.entries.l.length:=by omega
  subst e
  rw [List.drop_length,D9,List.append_nil]
  rw [aw M fR.eq_1]
  simp (maxSteps:=3000000) (maxDischargeDepth:=6) +contextual -implicitDefEqProofs only [amA M,amB,↓aj,↓ab,↓al,↓ak,Nat.reduceBEq,Nat.reduceAdd,env,ao,ft,Nat.lt_irrefl]
 |n+1,i,o,He,h,ho=>by
  have hi:i<l.entries.l.length:=by omega
  have hx:l.entries.l[i]?=some l.entries.l[i]:=List.getElem?_eq_getElem hi
  have hd:l.entries.l.drop i=l.entries.l[i]::l.entries.l.drop (i+1):=List.drop_eq_getElem_cons hi
  generalize l.entries.l[i]=x at hx hd
  obtain ⟨c,hc⟩:=Lq hk hx
  have hsl:=Ew hk hc
  have hp':=fun L=>dj (L:=L) hp
  have hss:=fun H=>S4 M hW hE hF hl (e:=(i:Int)) (by omega) (by simpa using hx) hc H
  have hws:=c6 hi hl.entries.len
  rw [hd,D9,hc.cls]
  have hgl:=LB l x i c.slots.l 0
  have ih:=fun He=>XE hN hW hE hS hX hY hB hF hl hk (H0:=H0) hp k n (i+1) (o++x7 l x i 0 c.slots.l) He (by omega) (by simp only [List.length_append];omega)
  have hin:=fun k He=>W6 M hN hW hE hS hX hY hB hF hl hk hx hc (e2:=(i:Int)) (N:=l.entries.l.length) (H0:=H0) hp k c.slots.l.length 0 o He (by omega) (by omega) (by omega)
  simp only [kv_cons,kv_nil,Int.ofNat_zero,List.drop_zero,List.append_assoc] at ih hin ⊢
  rw [aw M fR.eq_1]
  simp (maxSteps:=3000000) (maxDischargeDepth:=6) +contextual -implicitDefEqProofs only [amA M,amB,↓aj,↓ab,↓al,↓ak,Nat.reduceBEq,Nat.reduceAdd,env,ao,ft,amG,AV.cell,Nat.reduceMul,Nat.reduceLeDiff,hi,hp',hss,hin,ih,hws,cZ]
theorem Q5(hN:dG E)(hW:WdE M)(hE:iV E)(hS:SpE E)(hX:o4 M)(hY:D7 M)(hB:pA E)(hF:sZ E)(hA:Iu E){l:Lex}(hl:l.ok 0)(hk:cD l=0)(H:List ae) :
  M.run lM [.agg l.row] H=some (.ret (.slice .any 3 ((xl l).map bP.row)),H):=by
 rw [aY M hA.morph_language_shapes rfl (c:=lU) rfl,lU]
 have hel:=Hq hk
 have h1:=fun k He=>XE M hN hW hE hS hX hY hB hF hl hk (H:=H++[.cells l.row aD]) (H0:=H) (p:=H.length) (T:=aD) (by rw [dX];rfl) k l.entries.l.length 0 [] He (by omega) (by simp;omega)
 simp only [kv_cons,kv_nil,Int.ofNat_zero,List.drop_zero,List.length_append,List.length_cons,List.length_nil,Nat.zero_add,Nat.reduceAdd,List.append_assoc,List.cons_append,List.nil_append,List.map_nil,Nat.zero_mul] at h1
 rw [xl]
 simp (maxSteps:=3000000) (maxDischargeDepth:=6) +contextual -implicitDefEqProofs only [amA M,amB,↓aj,↓ab,↓al,↓ak,Nat.reduceBEq,Nat.reduceAdd,env,ao,ft,amG,AV.cell,Nat.reduceMul,Nat.reduceLeDiff,h1,cZ,Hr,implies_true,cut_app]
end
section
attribute [local congr] aF cu bm aG a7 aR aH aA aC aS aT
variable{E:bC}(M:cT cY E)
def B2(x:aK)(s:bt)(h:bP):Nat→List dt→List bw
 |_,[]=>[]
 |i,k::t=>sel (D8 x s k) (⟨⟨h.e,h.q,i⟩,h.w++k.glue⟩::B2 x s h (i+1) t) (B2 x s h (i+1) t)
def Jx(l:Lex)(h:bP):List bw:=
 match slF l h.e h.q,Is l h.e with
 |some s,some x=>B2 x s h 0 l.links.l
 |_,_=>[]
def x8(l:Lex):List bP→List bw
 |[]=>[]
 |h::t=>Jx l h++x8 l t
theorem LD(x:aK)(s:bt)(h:bP):∀ (t:List dt) (i:Nat),(B2 x s h i t).length≤t.length
 |[],_=>Nat.le_refl _
 |k::t,i=>by
  have h1:=LD x s h t (i+1)
  rw [B2]
  cases D8 x s k<;>simp only [sel,List.length_cons]<;>omega
theorem Ex{l:Lex}(hk:cD l=0):l.links.l.length≤8:=by
 have:=(je (pN hk).2.2.2).1
 omega
theorem UO{l:Lex}(hk:cD l=0)(h:bP):(Jx l h).length≤8:=by
 have h2:=Ex hk
 unfold Jx
 split
 ·rename_i s x _ _;have:=LD x s h l.links.l 0;omega
 ·simp
theorem LF{l:Lex}(hk:cD l=0):∀ (t:List bP),(x8 l t).length≤8*t.length
 |[]=>Nat.le_refl _
 |h::t=>by
  have h1:=LF hk t
  have h2:=UO hk h
  rw [x8,List.length_append,List.length_cons];omega
theorem UP{H0:List ae}(n m:Nat)(T:TypeId)(x y:ae)(L:List ae):dM (H0++[.tok n T,x,y]) (H0++(.tok m T::x::y::L)):=⟨by simp,fun i z hi hz=>by
 rw [List.length_append] at hi
 by_cases h:i<H0.length
 ·rw [List.getElem?_append_left h] at hz ⊢;exact .inl hz
 ·by_cases h2:i=H0.length
  ·subst h2
   rw [dX] at hz
   obtain rfl:=Option.some.inj hz
   exact .inr trivial
  ·by_cases h3:i=H0.length+1
   ·subst h3
    rw [hp_getk] at hz ⊢
    exact .inl hz
   ·obtain rfl:i=H0.length+2:=by simp at hi;omega
    rw [hp_getk] at hz ⊢
    exact .inl hz⟩
theorem Nc(H0:List ae)(z x y:ae)(L:List ae):(H0++(z::x::y::L)).take (H0.length+3)=H0++[z,x,y]:=by
 rw [show H0++(z::x::y::L)=(H0++[z,x,y])++L by simp,show H0.length+3=(H0++[z,x,y]).length by simp,List.take_left]
def LG(l:Lex)(h:bP):Prop:=(∃ x c s,At l h.e h.q x c s)∧h.w.length≤24
theorem W7(hE:iV E)(hU:vL E){srt:List aq→List aq}(hO:yK M srt)(hP:Srt srt)(hF:sZ E)(hV:Jv E){l:Lex}(hl:l.ok 0)(hk:cD l=0){h:bP}(hw:h.w.length≤24){x:aK}{c:aZ}{s:bt}(hA:At l h.e h.q x c s){fs:List bP}{tf:Tag}(hfw:qk 0 tf){e2:Int}
  {H H0:List ae}{p:Nat}{T:TypeId} (hp:H[p]?=some (.cells l.row T)) (k:List Fra):∀ (n i:Nat) (o:List bw) (He:List ae),He=H++[.tok (o.length*4) dq,.cells h.row dI,.cells s.row bI]→i+n=l.links.l.length→o.length+n≤100000 →
  M.go bR H0 (.c dY :: .lp ⟨(some [2,5,7,8,12,13,14,29,30,31]),[(5,4,dq)],true⟩ dY He :: .blk 2 :: .c (.lv [2,5,12,13,14])::k) (kv [(2,.ptr p 0),(5,.slice (.own H.length) 4 (o.map bw.row)),(7,.ptr (H.length+1) 0),(8,.ptr (H.length+2) 0),(12,.slice tf 3 (fs.map bP.row)),(13,.int .i64 fs.length),(14,.int .i64 e2),(29,.slice l.links.tag 3 (l.links.l.map dt.row)),(30,.int .i64 l.links.l.length),(31,.int .i64 i)]) (H++[.tok (o.length*4) dq,.cells h.row dI,.cells s.row bI]) =
   M.go bR H0 k (kv [(2,.ptr p 0),(5,.slice (.own H.length) 4 ((o++B2 x s h i (l.links.l.drop i)).map bw.row)),(12,.slice tf 3 (fs.map bP.row)),(13,.int .i64 fs.length),(14,.int .i64 e2)]) (H++[.tok ((o++B2 x s h i (l.links.l.drop i)).length*4) dq,.cells h.row dI,.cells s.row bI])
 |0,i,o,He,hHe,hi0,ho=>by
  have e:i=l.links.l.length:=by omega
  subst e
  rw [List.drop_length,B2,List.append_nil]
  rw [aw M dY.eq_1]
  simp (maxSteps:=3000000) (maxDischargeDepth:=6) +contextual -implicitDefEqProofs only [amA M,amB,↓aj,↓ab,↓al,↓ak,Nat.reduceBEq,Nat.reduceAdd,env,ao,eC,Nat.lt_irrefl]
 |n+1,i,o,He,hHe,hi0,ho=>by
  subst hHe
  have hi:i<l.links.l.length:=by omega
  have hkx:l.links.l[i]?=some l.links.l[i]:=List.getElem?_eq_getElem hi
  have hkm:l.links.l[i]∈l.links.l:=List.getElem_mem hi
  have hd:l.links.l.drop i=l.links.l[i]::l.links.l.drop (i+1):=List.drop_eq_getElem_cons hi
  generalize l.links.l[i]=kk at hkx hkm hd
  have hgl:=Lw hk hkm
  have hop:=fun H=>Na M hE hU hO hP hF hV hA (hl.links.all kk hkm) H
  have hp':=fun L=>dj (L:=L) hp
  have hpl:=(List.getElem?_eq_some_iff.1 hp).1
  have w1:Wk (H.length+3) (.ptr p 0) (.ptr p 0):=wk_ptr (by omega)
  have w2:Wk (H.length+3) (.slice tf 3 (fs.map bP.row)) (.slice tf 3 (fs.map bP.row)):=wk_slice (hfw.mono (Nat.zero_le _)) (ua Hr _ fs)
  have w3:Wk (H.length+3) (.slice l.links.tag 3 (l.links.l.map dt.row)) (.slice l.links.tag 3 (l.links.l.map dt.row)):=(hl.links.mono (Nat.zero_le _) (fun _ h=>h.mono (Nat.zero_le _))).wk (fun _ h=>h.wk)
  have w4:=fun o:List bw=>wk_slice (n:=H.length+3) (esz:=4) (tag:=.own H.length) (show H.length<H.length+3 by omega) (ua JL _ o)
  have w5:Wk (H.length+3) (.ptr (H.length+1) 0) (.ptr (H.length+1) 0):=wk_ptr (by omega)
  have w6:Wk (H.length+3) (.ptr (H.length+2) 0) (.ptr (H.length+2) 0):=wk_ptr (by omega)
  have hws:=c6 hi (show l.links.l.length≤bD by have:=Ex hk;simp only [bD];omega)
  have hcc:=fun m L=>UP (H0:=H) (o.length*4) m dq (.cells h.row dI) (.cells s.row bI) L
  rw [hd,B2]
  cases hb:D8 x s kk with
  |false=>
   have ih:=W7 hE hU hO hP hF hV hl hk hw hA (fs:=fs) hfw (e2:=e2) (H0:=H0) hp k n (i+1) o _ rfl (by omega) (by omega)
   rw [hb] at hop
   simp only [kv_cons,kv_nil,sel] at ih ⊢
   rw [aw M dY.eq_1]
   simp (maxSteps:=3000000) (maxDischargeDepth:=6) +contextual -implicitDefEqProofs only [amA M,amB,↓aj,↓ab,↓al,↓ak,Nat.reduceBEq,Nat.reduceAdd,env,ao,eC,amG,AV.cell,Nat.reduceMul,Nat.reduceLeDiff,hi,hkx,hop,hp',ih,w1,w2,w3,w4,w5,w6,hcc,Nc,hws,bo hi,cZ,z8,jz,M9]
  |true=>
   have ap:=fun L=>JJ (row:=bw.row) (l:=o) (x:=⟨⟨h.e,h.q,i⟩,h.w++kk.glue⟩) (r:=bw.row ⟨⟨h.e,h.q,i⟩,h.w++kk.glue⟩) (sz:=4) (bytes:=40) (e:=dq) H L rfl rfl rfl (by omega) (by omega)
   have ih:=W7 hE hU hO hP hF hV hl hk hw hA (fs:=fs) hfw (e2:=e2) (H0:=H0) hp k n (i+1) (o++[⟨⟨h.e,h.q,i⟩,h.w++kk.glue⟩]) _ rfl (by omega) (by simp;omega)
   rw [hb] at hop
   simp only [bw.row,aJ.row,List.cons_append,List.nil_append] at ap
   simp only [kv_cons,kv_nil,sel,List.append_assoc,List.cons_append,List.nil_append] at ih ⊢
   rw [aw M dY.eq_1]
   simp (maxSteps:=3000000) (maxDischargeDepth:=6) +contextual -implicitDefEqProofs only [amA M,amB,↓aj,↓ab,↓al,↓ak,Nat.reduceBEq,Nat.reduceAdd,env,ao,eC,amG,AV.cell,Nat.reduceMul,Nat.reduceLeDiff,hi,hkx,hop,hp',ap,ih,w1,w2,w3,w4,w5,w6,hcc,Nc,hws,qZ (s:=h.w) (t:=kk.glue) (by omega),bo hi,cZ,z8,jz,M9]
end
end Go.Am
