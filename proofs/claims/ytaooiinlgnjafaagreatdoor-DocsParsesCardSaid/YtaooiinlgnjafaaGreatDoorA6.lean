import Derived.Test.YtaooiinlgnjafaaGreatDoorA5
import Derived.Test.YtaooiinlgnjafaaGreatDoorChecked
import Derived.Shelf.Unicode.DecodeAny
import Derived.Lib.LaidU8T
import Derived.KernelRfl
/-
  Part 6 of the tool: an abstract machine over the model, proved sound, and what it says of the functions that the law reaches. Condition: none but those that each theorem names.
-/
set_option linter.unusedVariables false
set_option linter.unusedSimpArgs false
set_option maxRecDepth 100000
set_option maxHeartbeats 4000000
namespace Go.Am
open Go.RowKit
structure Kc (p:aa) (n:Nat) (s:Str):Prop where
 name:lP p.text=true
 kind:p.kind=2∨p.kind=3∨(p.kind=4∧p.car=false)∨(p.kind=5∧p.car=false)
 wr:wrF p=s.take n
 len:n=(wrF p).length
theorem yS{s:Str}(h:lP s=true):s.all inN=true∧∃ d u,s=d::u∧97≤d.toNat∧d.toNat≤122:=by
 cases s with
 |nil=>cases h
 |cons d u=>
  simp only [lP,Bool.and_eq_true,decide_eq_true_eq] at h;exact ⟨h.2,d,u,rfl,by omega,by omega⟩
theorem pW{c:UInt8}(h:inN c=true):dS c=false∧(c == 47)=false∧(c == 43)=false∧(c == 62)=false∧(c == 125)=false:=by
 have key:∀ n:Fin 256,inN (UInt8.ofNat n.val)=true→dS (UInt8.ofNat n.val)=false∧(UInt8.ofNat n.val == 47)=false∧(UInt8.ofNat n.val == 43)=false∧(UInt8.ofNat n.val == 62)=false∧(UInt8.ofNat n.val == 125)=false:=by decide
 have:=key ⟨c.toNat,c.toNat_lt⟩;simp only [UInt8.ofNat_toNat] at this;exact this h
theorem wX{p:UInt8→Bool}:∀ (b:Str) (e:UInt8) (rest:Str) (i:Nat),(∀ x∈b,p x=false)→p e=true→b9 p i (b++e::rest)=((i+b.length:Nat):Int)
 |[],e,rest,i,_,he=>by simp [b9,he,sel]
 |x::b,e,rest,i,hb,he=>by
  have h1:=hb x (List.mem_cons_self ..);rw [List.cons_append,b9,h1,sel_false,wX b e rest (i+1) (fun y hy=>hb y (List.mem_cons_of_mem _ hy)) he];simp;omega
theorem AG{c e:UInt8}{b rest:Str}{p:aa}(he:dS e=true)(hb:∀ x∈b,dS x=false)(hp:mkB c b=p)(hn:lP p.text=true)(hw:wrF p=c::(b++[e])) :
  mkO (c::(b++e::rest))=some (p,b.length+2):=by
 have h1:=wX b e rest 0 hb he;rw [Nat.zero_add] at h1;have h2:(b++e::rest).take b.length=b:=List.take_left' rfl
 have h3:(b++e::rest).take (b.length+1)=b++[e]:=by
  rw [show b++e::rest=(b++[e])++rest by simp];exact List.take_left' (by simp)
 rw [mkO,h1,show decide (((b.length:Nat):Int)<0)=false from decide_eq_false (by omega),sel_false,mkT,show ((b.length:Nat):Int).toNat=b.length from rfl,h2,h3,hp,hn,hw];simp [sel]
theorem kQ{d:UInt8}{u p:Str}{q:UInt8}(h:(d == q)=false):bY (d::u) (q::p)=false:=by
 unfold bY;rw [Bool.and_eq_false_iff];right;rw [List.length_cons,List.take_succ_cons,beq_eq_false_iff_ne];intro e;simp at e h;exact h e.1
theorem yT(d:UInt8)(u:Str):bY (d::u) [d]=true:=by simp [bY]
theorem C8(b:Str):dR (b++[47]) [47]=true:=by simp [dR]
theorem Gr{b:Str}{x:UInt8}(h:(x == 47)=false):dR (b++[x]) [47]=false:=by
 simp [dR] at h ⊢;exact h
theorem Fe{b:Str}(h:b≠[]):∃ a x,b=a++[x]:=⟨b.dropLast,b.getLast h,(List.dropLast_concat_getLast h).symm⟩
theorem Iy{s:Str}{p:aa}{n:Nat}(h:mkO s=some (p,n)):Kc p n s:=by
 cases s with
 |nil=>cases h
 |cons c t=>
  rw [mkO] at h;cases h1:decide (b9 dS 0 t<0) with
  |true=>rw [h1] at h;cases h
  |false=>
   rw [h1,sel_false] at h;rcases pV (p:=dS) t 0 with ⟨h2,_⟩ | ⟨j,hj,h2,_,_,_⟩
   ·rw [h2] at h1;cases h1
   ·rw [h2,show ((0+j:Nat):Int).toNat=j by simp] at h
    cases h3:mkT c t j with
    |false=>rw [h3] at h;cases h
    |true=>
     rw [h3] at h;simp only [sel,Option.some.injEq,Prod.mk.injEq] at h;obtain ⟨rfl,rfl⟩:=h;simp only [mkT,Bool.and_eq_true,beq_iff_eq] at h3;refine ⟨h3.1, ?_,by rw [h3.2];simp,by rw [h3.2];simp;omega⟩;unfold mkB;cases c == 123<;>cases bY (t.take j) [47,43]<;>cases bY (t.take j) [47]<;>cases bY (t.take j) [43]<;>cases dR (t.take j) [47]<;>simp [sel]
theorem Mw{s:Str}{p:aa}{n:Nat}(h:Kc p n s):mkO s=some (p,n):=by
 obtain ⟨hn,hk,hw,hl⟩:=h;obtain ⟨hall,d,u,ht,hd1,hd2⟩:=yS hn;have hs:s=wrF p++s.drop n:=by rw [hw,List.take_append_drop]
 generalize s.drop n=rest at hs;have hin:∀ x∈p.text,inN x=true:=by simpa using hall
 have hne:∀ x∈p.text,dS x=false:=fun x hx=>(pW (hin x hx)).1
 have hd:=pW (hin d (by rw [ht];exact List.mem_cons_self ..));obtain ⟨k,tx,ca⟩:=p;dsimp only at *
 rcases hk with rfl | rfl | ⟨rfl,rfl⟩ | ⟨rfl,rfl⟩
 ·cases ca with
  |false=>
   have e:wrF ⟨2,tx,false⟩=60::(tx++[62]):=by simp [wrF,eV,sel]
   have hm:mkB 60 tx=⟨2,tx,false⟩:=by
    obtain ⟨a,x,hax⟩:=Fe (b:=tx) (by rw [ht];simp);have hx:=pW (hin x (by rw [hax];simp));have q1:bY tx [47,43]=false:=by rw [ht];exact kQ hd.2.1
    have q2:bY tx [47]=false:=by rw [ht];exact kQ hd.2.1
    have q3:bY tx [43]=false:=by rw [ht];exact kQ hd.2.2.1
    have q4:dR tx [47]=false:=by rw [hax];exact Gr hx.2.1
    rw [mkB,q1,q2,q3,q4];rfl
   have:=AG (c:=60) (e:=62) (rest:=rest) rfl hne hm hn e;rw [hs,e,hl,e];simpa using this
  |true=>
   have e:wrF ⟨2,tx,true⟩=60::((43::tx)++[62]):=by simp [wrF,eV,sel]
   have hm:mkB 60 (43::tx)=⟨2,tx,true⟩:=by
    rw [mkB,kQ (d:=43) (q:=47) rfl,kQ (d:=43) (q:=47) rfl,yT];rfl
   have:=AG (c:=60) (e:=62) (b:=43::tx) (rest:=rest) rfl (by intro x hx;rcases List.mem_cons.1 hx with rfl | hx;rfl;exact hne x hx) hm hn e;rw [hs,e,hl,e];simpa using this
 ·cases ca with
  |false=>
   have e:wrF ⟨3,tx,false⟩=60::((47::tx)++[62]):=by simp [wrF,eV,sel]
   have hm:mkB 60 (47::tx)=⟨3,tx,false⟩:=by
    have q1:bY (47::tx) [47,43]=false:=by
     rw [ht];unfold bY;have:=hd.2.2.1;simp at this ⊢;exact this
    rw [mkB,q1,yT];rfl
   have:=AG (c:=60) (e:=62) (b:=47::tx) (rest:=rest) rfl (by intro x hx;rcases List.mem_cons.1 hx with rfl | hx;rfl;exact hne x hx) hm hn e;rw [hs,e,hl,e];simpa using this
  |true=>
   have e:wrF ⟨3,tx,true⟩=60::((47::43::tx)++[62]):=by simp [wrF,eV,sel]
   have hm:mkB 60 (47::43::tx)=⟨3,tx,true⟩:=by
    have q1:bY (47::43::tx) [47,43]=true:=by simp [bY]
    rw [mkB,q1];rfl
   have:=AG (c:=60) (e:=62) (b:=47::43::tx) (rest:=rest) rfl (by intro x hx;rcases List.mem_cons.1 hx with rfl | hx;rfl;rcases List.mem_cons.1 hx with rfl | hx;rfl;exact hne x hx) hm hn e;rw [hs,e,hl,e];simpa using this
 ·have e:wrF ⟨4,tx,false⟩=60::((tx++[47])++[62]):=by simp [wrF,sel]
  have hm:mkB 60 (tx++[47])=⟨4,tx,false⟩:=by
   have q1:bY (tx++[47]) [47,43]=false:=by rw [ht];exact kQ hd.2.1
   have q2:bY (tx++[47]) [47]=false:=by rw [ht];exact kQ hd.2.1
   have q3:bY (tx++[47]) [43]=false:=by rw [ht];exact kQ hd.2.2.1
   rw [mkB,q1,q2,q3,C8];simp [sel]
  have:=AG (c:=60) (e:=62) (b:=tx++[47]) (rest:=rest) rfl (by intro x hx;rcases List.mem_append.1 hx with hx | hx;exact hne x hx;simp at hx;subst hx;rfl) hm hn e;rw [hs,e,hl,e];simpa using this
 ·have e:wrF ⟨5,tx,false⟩=123::(tx++[125]):=by simp [wrF,sel]
  have hm:mkB 123 tx=⟨5,tx,false⟩:=rfl;have:=AG (c:=123) (e:=125) (rest:=rest) rfl hne hm hn e;rw [hs,e,hl,e];simpa using this
def l5(c:UInt8):UInt8:=if (c == 123)=true then 125 else 62
def Ee(s:Str):Option (aa×Nat):=match s with
 |[]=>none
 |c::t=>sel (decide (b9 (fun d=>d == l5 c) 0 (c::t)<0)) none (sel (rmk ((c::t).take ((b9 (fun d=>d == l5 c) 0 (c::t)).toNat+1))).2 (some ((rmk ((c::t).take ((b9 (fun d=>d == l5 c) 0 (c::t)).toNat+1))).1,(b9 (fun d=>d == l5 c) 0 (c::t)).toNat+1)) none)
theorem Ef(x:aa)(h:x.car=false):(il x).kind=x.kind∧((il x).car=true→x.kind=2∨x.kind=3):=by
 unfold il;cases x.text with
 |nil=>exact ⟨rfl,fun h2=>by rw [h] at h2;cases h2⟩
 |cons d u=>
  dsimp only;cases hb:(d == 43)&&((x.kind == 2)||(x.kind == 3)) with
  |false=>exact ⟨rfl,fun h2=>by rw [sel_false,h] at h2;cases h2⟩
  |true=>
   refine ⟨rfl,fun _ => ?_⟩;simp only [Bool.and_eq_true,Bool.or_eq_true,beq_iff_eq] at hb;exact hb.2
theorem KL{s:Str}(h:(rmk s).2=true):Kc (rmk s).1 s.length s:=by
 have key:∀ x:aa,x.car=false→(x.kind=2∨x.kind=3∨x.kind=4∨x.kind=5)→(o1 s x).2=true→Kc (o1 s x).1 s.length s:=fun x hx hk h2=>by
  simp only [o1,Bool.and_eq_true,beq_iff_eq] at h2 ⊢;obtain ⟨k1,k2⟩:=Ef x hx;refine ⟨h2.1, ?_,by rw [h2.2,List.take_length],by rw [h2.2]⟩;rw [k1];rcases hk with hk | hk | hk | hk
  ·exact .inl hk
  ·exact .inr (.inl hk)
  ·refine .inr (.inr (.inl ⟨hk, ?_⟩))
   cases hc:(il x).car with
   |false=>rfl
   |true=>have:=k2 hc;omega
  ·refine .inr (.inr (.inr ⟨hk, ?_⟩))
   cases hc:(il x).car with
   |false=>rfl
   |true=>have:=k2 hc;omega
 unfold rmk at h ⊢;cases h1:decide ((s.length:Int)<3) with
 |true=>rw [h1] at h;cases h
 |false=>
 rw [h1,sel_false] at h;simp only [sel_false];cases h2:(s.getD 0 0 == 123)&&(s.getD (s.length-1) 0 == 125) with
 |true=>rw [h2,sel_true] at h;exact key _ rfl (by simp) h
 |false=>
 rw [h2,sel_false] at h;simp only [sel_false];cases h3 : !(s.getD 0 0 == 60) || !(s.getD (s.length-1) 0 == 62) with
 |true=>rw [h3] at h;cases h
 |false=>
 rw [h3,sel_false] at h;simp only [sel_false];cases h4:s.getD 1 0 == 47 with
 |true=>rw [h4,sel_true] at h;exact key _ rfl (by simp) h
 |false=>
 rw [h4,sel_false] at h;simp only [sel_false];cases h5:s.getD (s.length-2) 0 == 47 with
 |true=>rw [h5,sel_true] at h;exact key _ rfl (by simp) h
 |false=>rw [h5,sel_false] at h;exact key _ rfl (by simp) h
theorem o3{a:Str}{x:UInt8}{b:Str}:(a++x::b).getD a.length 0=x:=by simp [List.getD]
theorem Iz{x:aa}{d:UInt8}{u:Str}(h:x.text=d::u)(hd:(d == 43)=false):il x=x:=by
 unfold il;rw [h];simp [hd,sel]
theorem Ly{p:aa}(hn:lP p.text=true)(hk:p.kind=2∨p.kind=3∨(p.kind=4∧p.car=false)∨(p.kind=5∧p.car=false)):rmk (wrF p)=(p,true):=by
 obtain ⟨hall,d,u,ht,hd1,hd2⟩:=yS hn;have hin:∀ x∈p.text,inN x=true:=by simpa using hall
 have hd:=pW (hin d (by rw [ht];exact List.mem_cons_self ..));obtain ⟨a,x,hax⟩:=Fe (b:=p.text) (by rw [ht];simp);have hx:=pW (hin x (by rw [hax];simp));obtain ⟨k,tx,ca⟩:=p;dsimp only at *
 have hlen:1≤tx.length:=by rw [ht];simp
 have fin:∀ (s:Str) (y q:aa),il y=q→lP q.text=true→wrF q=s→o1 s y=(q,true):=fun s y q h1 h2 h3=>by
  simp [o1,h1,h2,h3]
 have pn:∀ k,il ⟨k,tx,false⟩=⟨k,tx,false⟩:=fun k=>Iz ht hd.2.2.1
 rcases hk with rfl | rfl | ⟨rfl,rfl⟩ | ⟨rfl,rfl⟩
 ·cases ca with
  |false=>
   have e:wrF ⟨2,tx,false⟩=60::(tx++[62]):=by simp [wrF,eV,sel]
   have e0:(60::(tx++[62]):Str).length=tx.length+2:=by simp
   have c1:decide (((60::(tx++[62]):Str).length:Int)<3)=false:=decide_eq_false (by rw [e0];omega);have c3:(60::(tx++[62]):Str).getD ((60::(tx++[62]):Str).length-1) 0=62:=by rw [e0];exact o3 (a:=60::tx)
   have c4:(60::(tx++[62]):Str).getD 1 0=d:=by rw [ht];rfl
   have c5:(60::(tx++[62]):Str).getD ((60::(tx++[62]):Str).length-2) 0=x:=by
    rw [e0,hax];simp [List.getD]
   have c6:((60::(tx++[62]):Str).drop 1).take ((60::(tx++[62]):Str).length-2)=tx:=by rw [e0];simp
   rw [e,rmk,c1,c3,c4,c5,c6,hd.2.1,hx.2.1];exact fin _ _ _ (pn 2) hn e
  |true=>
   have e:wrF ⟨2,tx,true⟩=60::43::(tx++[62]):=by simp [wrF,eV,sel]
   have e0:(60::43::(tx++[62]):Str).length=tx.length+3:=by simp
   have c1:decide (((60::43::(tx++[62]):Str).length:Int)<3)=false:=decide_eq_false (by rw [e0];omega);have c3:(60::43::(tx++[62]):Str).getD ((60::43::(tx++[62]):Str).length-1) 0=62:=by rw [e0];exact o3 (a:=60::43::tx)
   have c5:(60::43::(tx++[62]):Str).getD ((60::43::(tx++[62]):Str).length-2) 0=x:=by
    rw [e0,hax];simp [List.getD]
   have c6:((60::43::(tx++[62]):Str).drop 1).take ((60::43::(tx++[62]):Str).length-2)=43::tx:=by rw [e0];simp
   have hp:il ⟨2,43::tx,false⟩=⟨2,tx,true⟩:=rfl;rw [e,rmk,c1,c3,c5,c6,hx.2.1];exact fin _ _ _ hp hn e
 ·cases ca with
  |false=>
   have e:wrF ⟨3,tx,false⟩=60::47::(tx++[62]):=by simp [wrF,eV,sel]
   have e0:(60::47::(tx++[62]):Str).length=tx.length+3:=by simp
   have c1:decide (((60::47::(tx++[62]):Str).length:Int)<3)=false:=decide_eq_false (by rw [e0];omega);have c3:(60::47::(tx++[62]):Str).getD ((60::47::(tx++[62]):Str).length-1) 0=62:=by rw [e0];exact o3 (a:=60::47::tx)
   have c6:((60::47::(tx++[62]):Str).drop 2).take ((60::47::(tx++[62]):Str).length-3)=tx:=by rw [e0];simp
   rw [e,rmk,c1,c3,c6];exact fin _ _ _ (pn 3) hn e
  |true=>
   have e:wrF ⟨3,tx,true⟩=60::47::43::(tx++[62]):=by simp [wrF,eV,sel]
   have e0:(60::47::43::(tx++[62]):Str).length=tx.length+4:=by simp
   have c1:decide (((60::47::43::(tx++[62]):Str).length:Int)<3)=false:=decide_eq_false (by rw [e0];omega);have c3:(60::47::43::(tx++[62]):Str).getD ((60::47::43::(tx++[62]):Str).length-1) 0=62:=by rw [e0];exact o3 (a:=60::47::43::tx)
   have c6:((60::47::43::(tx++[62]):Str).drop 2).take ((60::47::43::(tx++[62]):Str).length-3)=43::tx:=by rw [e0];simp
   have hp:il ⟨3,43::tx,false⟩=⟨3,tx,true⟩:=rfl;rw [e,rmk,c1,c3,c6];exact fin _ _ _ hp hn e
 ·have e:wrF ⟨4,tx,false⟩=60::(tx++[47,62]):=by simp [wrF,sel]
  have e0:(60::(tx++[47,62]):Str).length=tx.length+3:=by simp
  have c1:decide (((60::(tx++[47,62]):Str).length:Int)<3)=false:=decide_eq_false (by rw [e0];omega);have c3:(60::(tx++[47,62]):Str).getD ((60::(tx++[47,62]):Str).length-1) 0=62:=by rw [e0];simp [List.getD]
  have c4:(60::(tx++[47,62]):Str).getD 1 0=d:=by rw [ht];rfl
  have c5:(60::(tx++[47,62]):Str).getD ((60::(tx++[47,62]):Str).length-2) 0=47:=by rw [e0];exact o3 (a:=60::tx)
  have c6:((60::(tx++[47,62]):Str).drop 1).take ((60::(tx++[47,62]):Str).length-3)=tx:=by rw [e0];simp
  rw [e,rmk,c1,c3,c4,c5,c6,hd.2.1];exact fin _ _ _ (pn 4) hn e
 ·have e:wrF ⟨5,tx,false⟩=123::(tx++[125]):=by simp [wrF,sel]
  have e0:(123::(tx++[125]):Str).length=tx.length+2:=by simp
  have c1:decide (((123::(tx++[125]):Str).length:Int)<3)=false:=decide_eq_false (by rw [e0];omega);have c3:(123::(tx++[125]):Str).getD ((123::(tx++[125]):Str).length-1) 0=125:=by rw [e0];exact o3 (a:=123::tx)
  have c6:((123::(tx++[125]):Str).drop 1).take ((123::(tx++[125]):Str).length-2)=tx:=by rw [e0];simp
  rw [e,rmk,c1,c3,c6];exact fin _ _ _ (pn 5) hn e
theorem yU{p:aa}(hn:lP p.text=true)(hk:p.kind=2∨p.kind=3∨(p.kind=4∧p.car=false)∨(p.kind=5∧p.car=false)) :
  ∃ (c:UInt8) (w:Str),wrF p=c::(w++[l5 c])∧∀ x∈c::w,(x == l5 c)=false:=by
 obtain ⟨hall,d,u,ht,hd1,hd2⟩:=yS hn;have hin:∀ x∈p.text,inN x=true:=by simpa using hall
 have h62:∀ x∈p.text,(x == 62)=false:=fun x hx=>(pW (hin x hx)).2.2.2.1
 have h125:∀ x∈p.text,(x == 125)=false:=fun x hx=>(pW (hin x hx)).2.2.2.2
 obtain ⟨k,tx,ca⟩:=p;dsimp only at *
 rcases hk with rfl | rfl | ⟨rfl,rfl⟩ | ⟨rfl,rfl⟩
 ·refine ⟨60,eV ⟨2,tx,ca⟩++tx,by cases ca<;>simp [wrF,eV,sel,l5],fun x hx => ?_⟩
  rcases List.mem_cons.1 hx with rfl | hx
  ·rfl
  rcases List.mem_append.1 hx with hx | hx
  ·cases ca
   ·cases hx
   ·simp [eV,sel] at hx;subst hx;rfl
  ·exact h62 x hx
 ·refine ⟨60,47::(eV ⟨3,tx,ca⟩++tx),by cases ca<;>simp [wrF,eV,sel,l5],fun x hx => ?_⟩
  rcases List.mem_cons.1 hx with rfl | hx
  ·rfl
  rcases List.mem_cons.1 hx with rfl | hx
  ·rfl
  rcases List.mem_append.1 hx with hx | hx
  ·cases ca
   ·cases hx
   ·simp [eV,sel] at hx;subst hx;rfl
  ·exact h62 x hx
 ·refine ⟨60,tx++[47],by simp [wrF,sel,l5],fun x hx => ?_⟩
  rcases List.mem_cons.1 hx with rfl | hx
  ·rfl
  rcases List.mem_append.1 hx with hx | hx
  ·exact h62 x hx
  ·simp at hx;subst hx;rfl
 ·refine ⟨123,tx,by simp [wrF,sel,l5],fun x hx => ?_⟩
  rcases List.mem_cons.1 hx with rfl | hx
  ·rfl
  ·exact h125 x hx
theorem Kd{q:UInt8→Bool}:∀ (l:Str) (i:Nat),b9 q i l = -1∨∃ j,j<l.length∧b9 q i l=((i+j:Nat):Int):=fun l i=>by
 rcases pV (p:=q) l i with ⟨h,_⟩ | ⟨j,hj,h,_⟩
 ·exact .inl h
 ·exact .inr ⟨j,hj,h⟩
theorem Eg(s:Str):Ee s=mkO s:=by
 cases s with
 |nil=>rfl
 |cons c t=>
 have step:∀ p n,mkO (c::t)=some (p,n)→Ee (c::t)=some (p,n):=fun p n h=>by
  have hV:=Iy h;obtain ⟨c',w,hw,hne⟩:=yU hV.name hV.kind;have hs:c::t=wrF p++(c::t).drop n:=by rw [hV.wr,List.take_append_drop]
  have hl:=hV.len;have hrm:=Ly hV.name hV.kind;have hwr:=hV.wr;generalize (c::t).drop n=rest at hs
  have hcc:c=c':=by
   rw [hw] at hs;simp at hs;exact hs.1
  subst hcc
  have hi:b9 (fun d=>d == l5 c) 0 (c::t)=(((c::w).length:Nat):Int):=by
   have h1:=wX (p:=fun d=>d == l5 c) (c::w) (l5 c) rest 0 hne (by simp);rw [Nat.zero_add] at h1;rw [← h1,hs,hw];simp
  have hlen:n=(c::w).length+1:=by rw [hl,hw];simp
  unfold Ee;dsimp only;rw [hi,show decide ((((c::w).length:Nat):Int)<0)=false from decide_eq_false (by omega),sel_false,show (((c::w).length:Nat):Int).toNat=(c::w).length from rfl,← hlen,← hwr,hrm];rfl
 cases hr:Ee (c::t) with
 |none=>
  cases hm:mkO (c::t) with
  |none=>rfl
  |some q=>obtain ⟨p,n⟩:=q;rw [step p n hm] at hr;cases hr
 |some q=>
  obtain ⟨p,n⟩:=q;unfold Ee at hr;dsimp only at hr;rcases Kd (q:=fun d=>d == l5 c) (c::t) 0 with h1 | ⟨j,hj,h1⟩
  ·rw [h1] at hr;cases hr
  ·rw [h1,Nat.zero_add,show decide (((j:Nat):Int)<0)=false from decide_eq_false (by omega),sel_false,show ((j:Nat):Int).toNat=j from rfl] at hr
   cases h2:(rmk ((c::t).take (j+1))).2 with
   |false=>rw [h2] at hr;cases hr
   |true=>
    rw [h2,sel_true] at hr;simp only [Option.some.injEq,Prod.mk.injEq] at hr;obtain ⟨rfl,rfl⟩:=hr;have hV:=KL h2;have hlen:((c::t).take (j+1)).length=j+1:=by rw [List.length_take];omega
    refine (Mw ⟨hV.name,hV.kind, ?_, ?_⟩).symm
    ·rw [hV.wr,List.take_length]
    ·rw [← hV.len,hlen]
section
attribute [local congr] ak aR aJ al aI aA ao ah ai aC aD
variable{E:aQ}(M:bo bz E)
def qx(N:Nat)(e:TypeId)(sz:Nat)(G:List AObj)(v:AV)(rows:List (List AV)):Prop:=
 (rows=[]∧v = .slice .nil sz [])∨∃ t,N≤t∧v = .slice (.own t) sz rows∧G[t]?=some (.tok (rows.length*sz) e)
def AH(N b:Nat)(e:TypeId)(G G':List AObj):Prop:=
 G.length≤G'.length∧(∀ i,i<N→i≠b→G'[i]?=G[i]?)∧∀ i,i<G.length→i≠b→(∀ n,G[i]?≠some (.tok n e))→G'[i]?=G[i]?
theorem AH.refl(N b:Nat)(e:TypeId)(G:List AObj):AH N b e G G:=⟨Nat.le_refl _,fun _ _ _=>rfl,fun _ _ _ _=>rfl⟩
theorem qx.cell{N:Nat}{e:TypeId}{sz:Nat}{G:List AObj}{v:AV}{rows:List (List AV)}(h:qx N e sz G v rows):v.cell=true∧bX v=some [v]:=by
 rcases h with ⟨_,rfl⟩ | ⟨t,_,rfl,_⟩<;>exact ⟨rfl,rfl⟩
theorem qx.len{N:Nat}{e:TypeId}{sz:Nat}{G:List AObj}{v:AV}{rows:List (List AV)}(h:qx N e sz G v rows)(H:List AObj):nK H .sl v=some (.int .i64 (rows.length:Int)):=by
 rcases h with ⟨rfl,rfl⟩ | ⟨t,_,rfl,_⟩<;>rfl
theorem qx.wk{N:Nat}{e:TypeId}{sz:Nat}{G:List AObj}{v:AV}{rows:List (List AV)}(h:qx N e sz G v rows)(hr:gm G.length rows):Wk G.length v v:=by
 rcases h with ⟨rfl,rfl⟩ | ⟨t,_,rfl,hg⟩
 ·exact wk_slice trivial (b4 _)
 ·exact wk_slice (bM hg) hr
theorem qx.stay{N:Nat}{e:TypeId}{sz:Nat}{G G':List AObj}{v:AV}{rows:List (List AV)}(h:qx N e sz G v rows)(hs:∀ t,N≤t→G[t]?=some (.tok (rows.length*sz) e)→G'[t]?=G[t]?):qx N e sz G' v rows:=by
 rcases h with ⟨h1,h2⟩ | ⟨t,ht,h1,hg⟩
 ·exact .inl ⟨h1,h2⟩
 ·exact .inr ⟨t,ht,h1,by rw [hs t ht hg];exact hg⟩
theorem IA{N:Nat}{e:TypeId}{sz bytes:Nat}{G:List AObj}{v:AV}{rows:List (List AV)}(h:qx N e sz G v rows)(hN:N≤G.length){r:List AV}(h1:r.length=sz)(h2:r.all AV.cell=true)(h3:r.map AV.strip=r)
  (hl:(rows.length+1)*bytes≤140737488355328) (hl2:rows.length+1≤4611686018427387904) :
  ∃ v' G',rap false G e sz bytes false v (.slice .full sz [r])=some (v',G')∧qx N e sz G' v' (rows++[r])∧G.length≤G'.length∧(∀ i,i<N→G'[i]?=G[i]?)∧∀ i,i<G.length→(∀ n,G[i]?≠some (.tok n e))→G'[i]?=G[i]? := by
 have hr:=kA h1 h2;rcases h with ⟨rfl,rfl⟩ | ⟨t,ht,rfl,hg⟩
 ·refine ⟨.slice (.own G.length) sz [r],G++[.tok (1*sz) e], ?_,.inr ⟨G.length,hN,rfl,by rw [aH];rfl⟩,by simp,fun i hi=>List.getElem?_append_left (by omega),fun i hi _=>List.getElem?_append_left hi⟩
  simp only [rap,sM,n8,or_true,if_true,List.length_nil,List.length_cons,Nat.zero_add,true_or,true_and,hr,and_true,List.nil_append,List.map_cons,List.map_nil,h3];rw [if_pos ⟨by simpa using hl,by omega⟩]
 ·refine ⟨.slice (.own t) sz (rows++[r]),G.set t (.tok (rows.length*sz+1*sz) e), ?_,.inr ⟨t,ht,rfl, ?_⟩,by simp,fun i hi => ?_,fun i hi hn => ?_⟩
  ·simp only [rap,sM,n8,or_true,if_true,List.length_cons,List.length_nil,Nat.zero_add,true_and,hr,and_true,hg,List.map_cons,List.map_nil,h3]
   rw [if_pos ⟨hl,by omega⟩]
  ·rw [List.getElem?_set_self (bM hg),List.length_append,Nat.add_mul];rfl
  ·rw [List.getElem?_set_ne (by omega)]
  ·rw [List.getElem?_set_ne (fun e1=>hn _ (by rw [← e1];exact hg))]
theorem uH{G:List AObj}{p off:Nat}{cs:List AV}{v:AV}{T:TypeId}(hc:v.cell=true)(ho:off<cs.length):stO 1 G p off [v] (some (.cells cs T))=some (G.set p (.cells (cs.set off v) T)):=by
 simp only [stO];rw [if_pos ⟨rfl,by omega,by simp [hc]⟩];rfl
structure tl (N b:Nat) (G:List AObj) (w:Str):Prop where
 ex:∃ ad bv,G[b]?=some (.cells [ad,bv] aw)∧(ad = .nilp∨ad = .ptr b 0)∧qx N ku 1 G bv (mB w)
theorem IB{G:List AObj}{b:Nat}{x:AObj}(h:G[b]?=some x):G.set b x=G:=by
 refine List.ext_getElem? fun i => ?_
 by_cases e:b=i
 ·subst e;rw [List.getElem?_set_self (bM h),h]
 ·rw [List.getElem?_set_ne e]
theorem Lz(hC:wL E)(hX:oB M){G:List AObj}{N b:Nat}{ad bv:AV}{w:Str}(hg:G[b]?=some (.cells [ad,bv] aw))(ha:ad = .nilp∨ad = .ptr b 0)(hv:qx N ku 1 G bv (mB w)) :
  M.run eL [.ptr b 0] G=some (.ret (.tuple []),G.set b (.cells [.ptr b 0,bv] aw)):=by
 have l0:∀ x y:AV,bN none [x,y] 0=some x:=fun _ _=>rfl
 have hwb:=hv.wk (HX _ w);rcases ha with rfl | rfl
 ·have hwk:xE G.length (.cells [.ptr b 0,bv] aw):=by
   intro c hc;simp at hc;rcases hc with rfl | rfl
   ·exact wk_ptr (bM hg)
   ·exact hwb
  have hu:GP G (.ptr b 0)=some (.ptr b 0):=by simp [GP,hg]
  have hf:GQ G aw 2 (.ptr b 0)=some (.ptr b 0):=by simp [GQ,hg]
  have hs:stO 1 G b 0 [.ptr b 0] (some (.cells [.nilp,bv] aw))=some (G.set b (.cells [.ptr b 0,bv] aw)):=uH rfl (by simp);have h1:=hX.same b 0;rw [aV M hC.strings_Builder_copyCheck rfl (c:=cK) rfl,cK];simp (maxSteps:=3000000) (maxDischargeDepth:=6) +contextual -implicitDefEqProofs only [amC M,↓amD,Nat.reduceBEq,Nat.reduceAdd,env,ag,iU,amG,AV.cell,Nat.reduceMul,Nat.reduceLeDiff,rnc,qU,hg,l0,HY,hu,hf,h1,hs,runit_mk,CW,uC hwk,wk_tuple]
  rw [List.take_of_length_le (by simp)]
 ·rw [IB hg]
  rw [aV M hC.strings_Builder_copyCheck rfl (c:=cK) rfl,cK];simp (maxSteps:=3000000) (maxDischargeDepth:=6) +contextual -implicitDefEqProofs only [amC M,↓amD,Nat.reduceBEq,Nat.reduceAdd,env,ag,iU,rnc,hg,l0,D1,CW,hp_self,wk_tuple]
theorem Eh(w:Str)(c:UInt8):mB (w++[c])=mB w++[[.int .u8 (c.toNat:Int)]]:=by simp [mB]
theorem vm(w:Str):(mB w).length=w.length:=by simp [mB]
theorem BH{G:List AObj}{b:Nat}{cs:List AV}{T:TypeId}(h:G[b]?=some (.cells cs T))(n:Nat)(e:TypeId):G[b]?≠some (.tok n e):=by rw [h];simp
theorem IC(hC:wL E)(hX:oB M){G:List AObj}{N b:Nat}{w:Str}(h:tl N b G w)(hN:N≤G.length)(hl:w.length≤1000000000)(c:UInt8) :
  ∃ G',M.run bV [.ptr b 0,.int .u8 c.toNat] G=some (.ret .nilif,G')∧tl N b G' (w++[c])∧AH N b ku G G':=by
 obtain ⟨ad,bv,hg,ha,hv⟩:=h.ex;have hcc:=Lz M hC hX hg ha hv;have hlt:=bM hg;have hg1:(G.set b (.cells [.ptr b 0,bv] aw))[b]?=some (.cells [.ptr b 0,bv] aw):=List.getElem?_set_self hlt
 have hv1:qx N ku 1 (G.set b (.cells [.ptr b 0,bv] aw)) bv (mB w):=hv.stay fun t _ ht=>by
  rw [List.getElem?_set_ne];rintro rfl;rw [hg] at ht;cases ht
 obtain ⟨v',G2,a1,a2,a3,a4,a5⟩:=IA (bytes:=1) hv1 (by simpa using hN) (r:=[.int .u8 (c.toNat:Int)]) rfl rfl rfl (by rw [vm];omega) (by rw [vm];omega)
 have hg2:G2[b]?=some (.cells [.ptr b 0,bv] aw):=by
  rw [a5 b (by simpa using hlt) (fun n=>BH hg1 n _)];exact hg1
 refine ⟨G2.set b (.cells [.ptr b 0,v'] aw), ?_,⟨⟨.ptr b 0,v',List.getElem?_set_self (bM hg2),.inr rfl, ?_⟩⟩,⟨by simp at a3 ⊢;omega,fun i hi hne => ?_,fun i hi hne hn => ?_⟩⟩
 ·have l1:∀ x y:AV,bN none [x,y] 1=some y:=fun _ _=>rfl
  have hst:stO 1 G2 b 1 [v'] (some (.cells [.ptr b 0,bv] aw))=some (G2.set b (.cells [.ptr b 0,v'] aw)):=uH a2.cell.1 (by simp);have hac:=a2.cell.2;generalize G.set b (.cells [.ptr b 0,bv] aw)=G1 at *
  rw [aV M hC.strings_Builder_WriteByte rfl (c:=eQ) rfl,eQ];simp (maxSteps:=3000000) (maxDischargeDepth:=6) +contextual -implicitDefEqProofs only [amC M,↓amD,Nat.reduceBEq,Nat.reduceAdd,env,ag,mY,amG,AV.cell,Nat.reduceMul,Nat.reduceLeDiff,rnc,hcc,hg1,hg2,l1,a1,hac,hst,runit_mk]
 ·rw [Eh]
  exact a2.stay fun t _ ht=>by rw [List.getElem?_set_ne];rintro rfl;rw [hg2] at ht;cases ht
 ·rw [List.getElem?_set_ne (by omega),a4 i hi,List.getElem?_set_ne (by omega)]
 ·rw [List.getElem?_set_ne (by omega),a5 i (by simpa using hi) (fun n=>by rw [List.getElem?_set_ne (by omega)];exact hn n),List.getElem?_set_ne (by omega)]
theorem ID(hC:wL E){G:List AObj}{N b:Nat}{w:Str}(h:tl N b G w)(hl:w.length≤1000000000):M.run fO [.ptr b 0] G=some (.ret (.str w),G):=by
 obtain ⟨ad,bv,hg,ha,hv⟩:=h.ex;have l1:∀ x y:AV,bN none [x,y] 1=some y:=fun _ _=>rfl
 have hlen:=hv.len;rw [vm] at hlen
 have hu:∃ q,Fy bv=some q∧B7 G ku q (.int .i64 (w.length:Int))=some (.str w):=by
  rcases hv with ⟨h1,rfl⟩ | ⟨t,_,rfl,ht⟩
  ·have:w=[]:=by cases w with | nil=>rfl | cons c w=>cases h1
   subst this;exact ⟨_,rfl,by simp [B7]⟩
  ·refine ⟨_,Mk t w, ?_⟩
   cases w with
   |nil=>simp [mB,B7]
   |cons c w=>
    have h1:=uA (c::w);have h2:=CV (c::w);simp only [mB,List.map_cons] at h1 h2 ht ⊢;simp only [B7,ht,h1,h2];rw [if_pos];exact ⟨trivial,trivial,by simp,by simp at hl ⊢;omega,trivial⟩
 obtain ⟨q,h1,h2⟩:=hu;rw [aV M hC.strings_Builder_String rfl (c:=fR) rfl,fR];simp (maxSteps:=3000000) (maxDischargeDepth:=6) +contextual -implicitDefEqProofs only [amC M,↓amD,Nat.reduceBEq,Nat.reduceAdd,env,ag,om,qU,rnc,hg,l1,hlen,h1,h2,hp_self]
theorem Ei(h:E.fn bj=some aZ){G:List AObj}{N b:Nat}{w:Str}(hb:tl N b G w):M.run bj [.ptr b 0] G=some (.ret (.tuple []),G.set b (.cells [.nilp,.slice .nil 1 []] aw)):=by
 obtain ⟨ad,bv,hg,ha,hv⟩:=hb.ex;have hlt:=bM hg;have s1:stO 1 G b 0 [.nilp] (some (.cells [ad,bv] aw))=some (G.set b (.cells [.nilp,bv] aw)):=uH rfl (by simp);have g1:(G.set b (.cells [.nilp,bv] aw))[b]?=some (.cells [.nilp,bv] aw):=List.getElem?_set_self hlt
 have s2:stO 1 (G.set b (.cells [.nilp,bv] aw)) b 1 [.slice .nil 1 []] (some (.cells [.nilp,bv] aw))=some (G.set b (.cells [.nilp,.slice .nil 1 []] aw)):=by
  rw [uH rfl (by simp),List.set_set];rfl
 have hwk:xE G.length (.cells [.nilp,.slice .nil 1 []] aw):=by
  intro c hc;simp at hc;rcases hc with rfl | rfl
  ·exact wk_nilp _
  ·exact wk_slice trivial (b4 _)
 rw [aV M h rfl (c:=gy) rfl,gy];simp (maxSteps:=3000000) (maxDischargeDepth:=6) +contextual -implicitDefEqProofs only [amC M,↓amD,Nat.reduceBEq,Nat.reduceAdd,env,ag,oU,amG,AV.cell,Nat.reduceMul,Nat.reduceLeDiff,rnc,hg,s1,g1,s2,runit_mk,List.set_set,uC hwk,wk_tuple];rw [List.take_of_length_le (by simp)]
def vn(N o:Nat)(G:List AObj)(l:List aa):Prop:=∃ ov,G[o]?=some (.cells [ov] aG)∧qx N ae 3 G ov (l.map aa.row)
def fm(w:Str):List aa:=sel (w == []) [] [⟨1,w,false⟩]
theorem vn.turn{N o b:Nat}{G G':List AObj}{l:List aa}(h:vn N o G l)(ht:AH N b ku G G')(hob:o≠b)(hb:∃ cs T,G[b]?=some (.cells cs T))(hne:ae≠ku):vn N o G' l:=by
 obtain ⟨ov,h1,h2⟩:=h;obtain ⟨cs,T,hb⟩:=hb;refine ⟨ov,by rw [ht.2.2 o (bM h1) hob (fun n=>BH h1 n _)];exact h1,h2.stay fun t _ hg=>ht.2.2 t (bM hg) ?_ ?_⟩
 ·rintro rfl;rw [hb] at hg;cases hg
 ·intro n h3;rw [hg] at h3;injection h3 with h3;injection h3 with _ h3;exact hne h3
theorem Ff{N o:Nat}{G:List AObj}{ov:AV}{l:List aa}(h1:G[o]?=some (.cells [ov] aG))(h2:qx N ae 3 G ov (l.map aa.row))(hN:N≤G.length)(hl:l.length≤1000000)(x:aa) :
  ∃ v' G1,rap false G ae 3 32 false ov (.slice .full 3 [x.row])=some (v',G1)∧G1[o]?=some (.cells [ov] aG)∧stO 1 G1 o 0 [v'] (some (.cells [ov] aG))=some (G1.set o (.cells [v'] aG))∧bX v'=some [v'] ∧
   vn N o (G1.set o (.cells [v'] aG)) (l++[x])∧AH N o ae G (G1.set o (.cells [v'] aG)):=by
 obtain ⟨v',G1,a1,a2,a3,a4,a5⟩:=IA (bytes:=32) h2 hN (r:=x.row) rfl rfl rfl (by rw [List.length_map];omega) (by rw [List.length_map];omega);have hg1:G1[o]?=some (.cells [ov] aG):=by rw [a5 o (bM h1) (fun n=>BH h1 n _)];exact h1
 refine ⟨v',G1,a1,hg1,uH a2.cell.1 (by simp),a2.cell.2,⟨v',List.getElem?_set_self (bM hg1), ?_⟩,⟨by simpa using a3,fun i hi hne=>by rw [List.getElem?_set_ne (by omega)];exact a4 i hi,fun i hi hne hn=>by rw [List.getElem?_set_ne (by omega)];exact a5 i hi hn⟩⟩;rw [List.map_append];exact a2.stay fun t _ hg=>by rw [List.getElem?_set_ne];rintro rfl;rw [hg1] at hg;cases hg
theorem tl.app{N b:Nat}{G:List AObj}{w:Str}(h:tl N b G w)(L:List AObj):tl N b (G++L) w:=by
 obtain ⟨ad,bv,h1,ha,h2⟩:=h.ex;exact ⟨ad,bv,dW h1,ha,h2.stay fun t _ hg=>by rw [List.getElem?_append_left (bM hg)]⟩
theorem vn.app{N o:Nat}{G:List AObj}{l:List aa}(h:vn N o G l)(L:List AObj):vn N o (G++L) l:=by
 obtain ⟨ov,h1,h2⟩:=h;exact ⟨ov,dW h1,h2.stay fun t _ hg=>by rw [List.getElem?_append_left (bM hg)]⟩
theorem tl.turn{N o b:Nat}{G G':List AObj}{w:Str}(h:tl N b G w)(ht:AH N o ae G G')(hob:o≠b)(ho:∃ cs T,G[o]?=some (.cells cs T))(hne:ae≠ku):tl N b G' w:=by
 obtain ⟨ad,bv,h1,ha,h2⟩:=h.ex;obtain ⟨cs,T,ho⟩:=ho;refine ⟨ad,bv,by rw [ht.2.2 b (bM h1) (Ne.symm hob) (fun n=>BH h1 n _)];exact h1,ha,h2.stay fun t _ hg=>ht.2.2 t (bM hg) ?_ ?_⟩
 ·rintro rfl;rw [ho] at hg;cases hg
 ·intro n h3;rw [hg] at h3;injection h3 with h3;injection h3 with _ h3;exact hne h3.symm
theorem C9(w:Str):fm w=if w=[] then [] else [⟨1,w,false⟩]:=by
 unfold fm;cases w<;>rfl
theorem AI(hB:j6 E)(hS:gW E)(hC:wL E)(hD:vi M)(hR:E.fn bj=some aZ){G:List AObj}{N o b:Nat}{w:Str}{l:List aa}(hb:tl N b G w)(hp:vn N o G l)(hob:o≠b)(hN:N≤G.length)(hw:w.length≤1000000000)(hl:l.length≤1000000) :
  ∃ G',M.run iv [.ptr b 0,.ptr o 0] G=some (.ret (.bool (kq w)),G')∧tl N b G' []∧vn N o G' (l++fm w)∧G.length≤G'.length∧(∀ i,i<N→i≠o→i≠b→G'[i]?=G[i]?)∧∀ i,i<G.length→i≠o→i≠b→(∀ n e,G[i]?≠some (.tok n e))→G'[i]?=G[i]? := by
 have h1:=ID M hC hb hw;have h2:=Ei M hR hb;obtain ⟨ad,bv,hg,ha,hv⟩:=hb.ex;obtain ⟨ov,hp1,hp2⟩:=hp;have hlt:=bM hg;have hT:=fun H=>yJ M hB hD (s:=w) (by simp only [bL];omega) H
 have hg2:(G.set b (.cells [.nilp,.slice .nil 1 []] aw))[b]?=some (.cells [.nilp,.slice .nil 1 []] aw):=List.getElem?_set_self hlt;have hb2:tl N b (G.set b (.cells [.nilp,.slice .nil 1 []] aw)) []:=⟨.nilp,.slice .nil 1 [],hg2,.inl rfl,.inl ⟨rfl,rfl⟩⟩
 have hq1:(G.set b (.cells [.nilp,.slice .nil 1 []] aw))[o]?=some (.cells [ov] aG):=by rw [List.getElem?_set_ne (Ne.symm hob)];exact hp1
 have hq2:qx N ae 3 (G.set b (.cells [.nilp,.slice .nil 1 []] aw)) ov (l.map aa.row):=hp2.stay fun t _ ht=>by
  rw [List.getElem?_set_ne];rintro rfl;rw [hg] at ht;cases ht
 have hlen:(G.set b (.cells [.nilp,.slice .nil 1 []] aw)).length=G.length:=by simp
 have hkeep2:∀ i,i≠b→(G.set b (.cells [.nilp,.slice .nil 1 []] aw))[i]?=G[i]? := fun i hne=>by rw [List.getElem?_set_ne (by omega)]
 have hkeep:∀ i,i<N→i≠o→i≠b→(G.set b (.cells [.nilp,.slice .nil 1 []] aw))[i]?=G[i]? := fun i _ _ hne=>by rw [List.getElem?_set_ne (by omega)]
 generalize G.set b (.cells [.nilp,.slice .nil 1 []] aw)=G1 at *
 cases hwe:w == [] with
 |true=>
  refine ⟨G1, ?_,hb2,⟨ov,hq1,by rw [fm,hwe];simpa [sel] using hq2⟩,by omega,hkeep,fun i _ _ hne _=>hkeep2 i hne⟩;rw [aV M hS.docs_Read_1 rfl (c:=kj) rfl,kj];simp (maxSteps:=3000000) (maxDischargeDepth:=6) +contextual -implicitDefEqProofs only [amC M,↓amD,Nat.reduceBEq,Nat.reduceAdd,env,ag,sF,h1,h2,hwe,hT]
 |false=>
  obtain ⟨v',G2,a1,a2,a3,a4,a5,a6⟩:=Ff hq1 hq2 (by omega) hl ⟨1,w,false⟩;refine ⟨G2.set o (.cells [v'] aG), ?_,hb2.turn a6 hob ⟨_,_,hq1⟩ (by decide),by rw [fm,hwe];exact a5,by have:=a6.1;omega,fun i hi hne hne2=>by rw [a6.2.1 i hi hne,hkeep i hi hne hne2],fun i hi hne hne2 hnt=>by rw [a6.2.2 i (by omega) hne (fun n=>by rw [hkeep2 i hne2];exact hnt n _),hkeep2 i hne2]⟩;have l0:∀ x:AV,bN none [x] 0=some x:=fun _=>rfl
  simp only [aa.row] at a1;rw [aV M hS.docs_Read_1 rfl (c:=kj) rfl,kj];simp (maxSteps:=3000000) (maxDischargeDepth:=6) +contextual -implicitDefEqProofs only [amC M,↓amD,Nat.reduceBEq,Nat.reduceAdd,env,ag,sF,amG,AV.cell,Nat.reduceMul,Nat.reduceLeDiff,h1,h2,hwe,hT,hq1,l0,a1,a2,a3,a4,runit_mk]
end
section
attribute [local congr] ak aR aJ al aI aA ao ah ai aC aD
variable{E:aQ}(M:bo bz E)
def rdP:Nat→Str→Str→List aa→Option (List aa)
 |0,_,_,_=>none
 |n+1,s,w,out=>match s with
  |[]=>sel (kq w) (some (out++fm w)) none
  |c :: t=>sel (c == 92)
     (match t with
      |[]=>none
      |d::t'=>sel ((d == 92)||(d == 60)||(d == 123)) (rdP n t' (w++[d]) out) none)
     (sel ((c == 60)||(c == 123))
      (match mkO (c::t) with
       |none=>none
       |some (p,m)=>sel (kq w) (rdP n ((c::t).drop m) [] (out++fm w++[p])) none)
      (rdP n t (w++[c]) out))
def rdV(r:Option (List aa)):AV:=match r with
 |none=>.tuple [.slice .any 3 [],.int .u8 4]
 |some out=>sel (l4 out == 0) (.tuple [.slice .any 3 (out.map aa.row),.int .u8 0]) (.tuple [.slice .any 3 [],.int .u8 (l4 out)])
abbrev Fg:AC:=.tab 0 ki (.tab 1 bT .skip)
theorem MP:lM Fg 0=some ki:=rfl
theorem LA:lM Fg 1=some bT:=rfl
structure RdB (i:Nat) (w:Str) (out:List aa):Prop where
 w:w.length≤i
 n:out.length≤2*i
 t:∀ x∈out,x.text.length≤65536
theorem RdB.flush{i:Nat}{w:Str}{out:List aa}(h:RdB i w out)(hi:i≤65536):(out++fm w).length≤2*i+1∧∀ x∈out++fm w,x.text.length≤65536:=by
 rw [C9];have h1:=h.w;have h2:=h.n;split
 ·exact ⟨by simp;omega,by simpa using h.t⟩
 ·refine ⟨by simp;omega,fun x hx => ?_⟩
  rcases List.mem_append.1 hx with hx | hx
  ·exact h.t x hx
  ·simp at hx;subst hx;dsimp only;omega
theorem vn.val{N o:Nat}{G:List AObj}{l:List aa}(h:vn N o G l):∃ tg,G[o]?=some (.cells [.slice tg 3 (l.map aa.row)] aG)∧Ar G.length tg∧qx N ae 3 G (.slice tg 3 (l.map aa.row)) (l.map aa.row):=by
 obtain ⟨ov,h1,h2⟩:=h;rcases h2 with ⟨h3,rfl⟩ | ⟨t,ht,rfl,hg⟩
 ·rw [h3];exact ⟨.nil,h1,trivial,.inl ⟨rfl,rfl⟩⟩
 ·exact ⟨.own t,h1,bM hg,.inr ⟨t,ht,rfl,hg⟩⟩
theorem rJ{H0 G G':List AObj}{o b:Nat}(hP:Pre H0 G)(ho:H0.length≤o)(hb:H0.length≤b)(hl:G.length≤G'.length)(h:∀ i,i<H0.length→i≠o→i≠b→G'[i]?=G[i]?):Pre H0 G':=
 ⟨Nat.le_trans hP.1 hl,fun i hi=>by rw [h i hi (by omega) (by omega)];exact hP.2 i hi⟩
theorem LB(hB:j6 E)(hS:gW E)(hC:wL E)(hD:vi M)(hR:E.fn bj=some aZ){H0 G:List AObj}{o b i:Nat}{w:Str}{out:List aa}(hP:Pre H0 G)(ho:H0.length≤o)(hbo:H0.length≤b)(hob:o≠b)
  (hb:tl H0.length b G w) (hp:vn H0.length o G out) (hi:i≤65536) (hbd:RdB i w out) {a:Env} (a4:c9 a 4 = .ptr o 0) (a7:c9 a 7 = .fn (.func iv) [] [.ptr b 0,.ptr o 0]) (TB:AC) :
  M.go jr H0 [.c ki,.sc TB] a G=some (.ret (rdV (sel (kq w) (some (out++fm w)) none)),H0):=by
 obtain ⟨G1,f1,f2,f3,f4,f5,_⟩:=AI M hB hS hC hD hR hb hp hob (by have:=hP.1;omega) (by have:=hbd.w;omega) (by have:=hbd.n;omega);obtain ⟨tg,v1,v2,v3⟩:=f3.val;have hP1:=rJ hP ho hbo f4 f5;have hbf:=hbd.flush hi;have hCP:=fun H=>wO M hB hD (l:=⟨tg,out++fm w⟩) (by have:=hbf.1;dsimp only;omega) (fun x hx=>by have:=hbf.2 x hx;omega) H
 dsimp only at hCP;have l0:∀ x:AV,bN none [x] 0=some x:=fun _=>rfl
 have hct:=hP1.cut;have htk:=hP1.take;rw [au M ki.eq_1];cases ht:kq w with
 |false=>
  rw [ht] at f1;simp only [sel_false,rdV];simp (maxSteps:=3000000) (maxDischargeDepth:=6) +contextual -implicitDefEqProofs only [amC M,↓amD,Nat.reduceBEq,Nat.reduceAdd,env,ag,dx,a4,a7,f1,hct,htk,b4,(show kz (.tuple [.slice .nil 3 [],.int .u8 4]) = .tuple [.slice .any 3 [],.int .u8 4] from rfl)]
 |true=>
  rw [ht] at f1;simp only [sel_true,rdV];cases hz:l4 (out++fm w) == 0 with
  |false=>
   have e2:∀ n:Int,kz (.tuple [.slice .nil 3 [],.int .u8 n]) = .tuple [.slice .any 3 [],.int .u8 n]:=fun _=>rfl
   simp (maxSteps:=3000000) (maxDischargeDepth:=6) +contextual -implicitDefEqProofs only [amC M,↓amD,Nat.reduceBEq,Nat.reduceAdd,env,ag,dx,a4,a7,f1,v1,l0,hCP,hz,hct,htk,b4,e2]
  |true=>
   have e2:kz (.tuple [.slice tg 3 ((out++fm w).map aa.row),.int .u8 0]) = .tuple [.slice .any 3 ((out++fm w).map aa.row),.int .u8 0]:=rfl
   have hw:∀ n,gm n ((out++fm w).map aa.row):=fun n=>by
    rw [rowsWk_map];exact fun _ _=>⟨wk_int _ _ _,wk_str _ _,wk_bool _ _,trivial⟩
   have hwa:Wk H0.length (.slice tg 3 ((out++fm w).map aa.row)) (.slice .any 3 ((out++fm w).map aa.row)):=wk_any (hw _);simp (maxSteps:=3000000) (maxDischargeDepth:=6) +contextual -implicitDefEqProofs only [amC M,↓amD,Nat.reduceBEq,Nat.reduceAdd,env,ag,dx,a4,a7,f1,v1,l0,hCP,hz,hct,htk,e2,hwa]
theorem vM(x:aa):x.text.length≤(wrF x).length:=by
 have he:∀ s:Str,s.length≤(zZ s).length:=fun s=>by
  induction s with
  |nil=>exact Nat.le_refl _
  |cons c t ih=>rw [AF,List.length_append];split<;>(simp only [List.length_cons,List.length_nil];omega)
 have:=he x.text;unfold wrF;cases x.kind == 2<;>cases x.kind == 3<;>cases x.kind == 4<;>cases x.kind == 5<;>simp [sel]<;>omega
theorem Mx(hB:j6 E)(hS:gW E)(hC:wL E)(hX:oB M)(hD:vi M)(hR:E.fn bj=some aZ){s:Str}(hs:s.length≤65536){H0:List AObj}{o b:Nat}(ho:H0.length≤o)(hbo:H0.length≤b)(hob:o≠b) :
  ∀ (n i:Nat) (G:List AObj) (w:Str) (out:List aa) (a:Env),s.length-i<n→i≤s.length→Pre H0 G→tl H0.length b G w→vn H0.length o G out→RdB i w out →
   c9 a 0 = .str s→c9 a 4 = .ptr o 0→c9 a 5 = .ptr b 0→c9 a 6 = .int .i64 (i:Int)→c9 a 7 = .fn (.func iv) [] [.ptr b 0,.ptr o 0] →
   M.go jr H0 [.c bT,.sc Fg] a G=some (.ret (rdV (rdP n (s.drop i) w out)),H0):=by
 intro n;induction n with
 |zero=>intro i G w out a h;omega
 |succ n IH=>
  intro i G w out a h hi hP hb hp hbd a0 a4 a5 a6 a7;have hG:H0.length≤G.length:=hP.1;have hwl:=hbd.w;have hol:=hbd.n;rw [rdP.eq_def];dsimp only;cases hsd:s.drop i with
  |nil=>
   have hil:i=s.length:=by have:=congrArg List.length hsd;simp at this;omega
   subst hil;have hend:=fun a (a4:c9 a 4 = .ptr o 0) (a7:c9 a 7 = .fn (.func iv) [] [.ptr b 0,.ptr o 0])=>LB M hB hS hC hD hR hP ho hbo hob hb hp hs hbd (a:=a) a4 a7 Fg
   rw [au M bT.eq_1];simp (maxSteps:=3000000) (maxDischargeDepth:=6) +contextual -implicitDefEqProofs only [amC M,↓amD,Nat.reduceBEq,Nat.reduceAdd,env,ag,dx,a0,a4,a5,a6,a7,beq_self_eq_true,MP,hend]
  |cons c t=>
   have hlt:i<s.length:=by have:=congrArg List.length hsd;simp at this;omega
   have hx:s[i]?=some c:=by rw [← List.head?_drop,hsd];rfl
   have hd1:s.drop (i+1)=t:=by rw [← List.drop_drop,hsd];rfl
   have hne:(i == s.length)=false:=by simp;omega
   have hws:IntKind.i64.wrap ((i:Int)+1)=((i+1:Nat):Int):=gK hlt (by simp only [bL];omega);have hfr:=hp;obtain ⟨ov0,hov0,_⟩:=hfr;obtain ⟨ad0,bv0,hbv0,_,_⟩:=hb.ex;dsimp only;have hct:=hP.cut;have htk:=hP.take;cases h92:c == 92 with
   |true=>
    simp only [sel_true];cases t with
    |nil=>
     have hil:i+1=s.length:=by have:=congrArg List.length hsd;simp at this;omega
     have he:(i+1 == s.length)=true:=by simp [hil]
     simp only [rdV];rw [au M bT.eq_1];simp (maxSteps:=3000000) (maxDischargeDepth:=6) +contextual -implicitDefEqProofs only [amC M,↓amD,Nat.reduceBEq,Nat.reduceAdd,env,ag,dx,a0,a4,a5,a6,a7,hne,hlt,hx,qB,h92,hws,he,hct,htk,b4,(show kz (.tuple [.slice .nil 3 [],.int .u8 4]) = .tuple [.slice .any 3 [],.int .u8 4] from rfl)]
    |cons d t'=>
     have hlt1:i+1<s.length:=by have:=congrArg List.length hsd;simp at this;omega
     have he:(i+1 == s.length)=false:=by simp;omega
     have hx1:s[i+1]?=some d:=by rw [← List.head?_drop,hd1];rfl
     have hd2:s.drop (i+2)=t':=by rw [show i+2=i+1+1 by rfl,← List.drop_drop,hd1];rfl
     have hw2:IntKind.i64.wrap ((i:Int)+2)=((i+2:Nat):Int):=by rw [cU (by omega) (by omega)];omega
     have hsl:mE (.str s) (some (.int .i64 ((i+1:Nat):Int))) (some (.int .i64 ((i+2:Nat):Int)))=some (.str [d]):=by
      rw [lH (by omega) (by omega),hd1,show i+2-(i+1)=1 by omega];rfl
     have hcon:=fun H=>zV M hS hX [92,60,123] d H
     have hany:([92,60,123]:Str).any (fun e=>e == d)=((d == 92)||(d == 60)||(d == 123)):=by
      simp only [List.any_cons,List.any_nil,Bool.or_false];rw [Bool.beq_comm (a:=(92:UInt8)),Bool.beq_comm (a:=(60:UInt8)),Bool.beq_comm (a:=(123:UInt8))];exact (Bool.or_assoc _ _ _).symm
     rw [hany] at hcon;dsimp only;cases hesc:(d == 92)||(d == 60)||(d == 123) with
     |false=>
      rw [hesc] at hcon;simp only [sel_false,rdV];rw [au M bT.eq_1];simp (maxSteps:=3000000) (maxDischargeDepth:=6) +contextual -implicitDefEqProofs only [amC M,↓amD,Nat.reduceBEq,Nat.reduceAdd,env,ag,dx,a0,a4,a5,a6,a7,hne,hlt,hx,qB,h92,hws,he,hw2,hsl,hcon,hct,htk,b4,(show kz (.tuple [.slice .nil 3 [],.int .u8 4]) = .tuple [.slice .any 3 [],.int .u8 4] from rfl)]
     |true=>
      rw [hesc] at hcon;simp only [sel_true];obtain ⟨G1,w1,w2,w3⟩:=IC M hC hX hb hG (by omega) d;have hP1:Pre H0 G1:=rJ hP ho hbo w3.1 fun j hj _ hjb=>w3.2.1 j hj hjb
      have ih:=fun a=>IH (i+2) G1 (w++[d]) out a (by omega) (by omega) hP1 w2 (hp.turn w3 hob ⟨_,_,hbv0⟩ (by decide)) ⟨by simp;omega,by omega,hbd.t⟩
      rw [hd2] at ih;rw [au M bT.eq_1];simp (maxSteps:=3000000) (maxDischargeDepth:=6) +contextual -implicitDefEqProofs only [amC M,↓amD,Nat.reduceBEq,Nat.reduceAdd,env,ag,dx,a0,a4,a5,a6,a7,hne,hlt,hx,qB,h92,hws,he,hw2,hsl,hcon,hlt1,hx1,w1,LA,ih]
   |false=>
    simp only [sel_false];cases htag:(c == 60)||(c == 123) with
    |false=>
     simp only [sel_false];have h60:(c == 60)=false:=by simp at htag ⊢;exact htag.1
     have h123:(c == 123)=false:=by simp at htag ⊢;exact htag.2
     obtain ⟨G1,w1,w2,w3⟩:=IC M hC hX hb hG (by omega) c;have hP1:Pre H0 G1:=rJ hP ho hbo w3.1 fun j hj _ hjb=>w3.2.1 j hj hjb
     have ih:=fun a=>IH (i+1) G1 (w++[c]) out a (by omega) (by omega) hP1 w2 (hp.turn w3 hob ⟨_,_,hbv0⟩ (by decide)) ⟨by simp;omega,by omega,hbd.t⟩
     rw [hd1] at ih;rw [au M bT.eq_1];simp (maxSteps:=3000000) (maxDischargeDepth:=6) +contextual -implicitDefEqProofs only [amC M,↓amD,Nat.reduceBEq,Nat.reduceAdd,env,ag,dx,a0,a4,a5,a6,a7,hne,hlt,hx,qB,h92,h60,h123,hws,w1,LA,ih]
    |true=>
     simp only [sel_true];have hct2:(c == 60)=true∨(c == 123)=true:=by simpa using htag
     have hsf:=lG (s:=s) (k:=.i64) (i:=i) (by omega);rw [hsd] at hsf;have htl:t.length+1≤70368744177664:=by have:=congrArg List.length hsd;simp at this;omega
     have hmk:=fun H=>Ed M hB hS hX hct2 htl H
     have hcond:(c == 60)=false→(c == 123)=true:=fun h=>by rcases hct2 with h2 | h2;rw [h2] at h;cases h;exact h2
     cases hm:mkO (c::t) with
     |none=>
      rw [hm] at hmk;have hz:dP.row=[.int .u8 0,.str [],.bool false]:=rfl;simp only [mkV] at hmk;simp only [rdV];rw [au M bT.eq_1];simp (maxSteps:=3000000) (maxDischargeDepth:=6) +contextual -implicitDefEqProofs only [amC M,↓amD,Nat.reduceBEq,Nat.reduceAdd,env,ag,dx,amG,AV.cell,Nat.reduceMul,Nat.reduceLeDiff,a0,a4,a5,a6,a7,hne,hlt,hx,qB,h92,hcond,hsf,hmk,bb,List.getElem?_cons_succ,aS,beq_self_eq_true,hct,htk,b4,(show kz (.tuple [.slice .nil 3 [],.int .u8 4]) = .tuple [.slice .any 3 [],.int .u8 4] from rfl)]
     |some q=>
      obtain ⟨pc,m⟩:=q;rw [hm] at hmk;simp only [mkV] at hmk;dsimp only;have hV:=Iy hm;have hlen:(c::t).length=s.length-i:=by rw [← hsd,List.length_drop]
      have hml:m≤(c::t).length∧2≤m∧pc.text.length≤m:=by
       obtain ⟨c',w',hw',_⟩:=yU hV.name hV.kind;have h1:=hV.len;have h2:=congrArg List.length hV.wr;rw [List.length_take] at h2;have h3:=congrArg List.length hw';simp only [List.length_cons,List.length_append,List.length_nil] at h3;refine ⟨by omega,by omega, ?_⟩;rw [h1];exact vM pc
      have hGl:(G++[AObj.cells pc.row ae]).length=G.length+1:=by simp
      obtain ⟨G2,f1,f2,f3,f4,f5,f6⟩:=AI M hB hS hC hD hR (hb.app [.cells pc.row ae]) (hp.app [.cells pc.row ae]) hob (by omega) (by omega) (by omega);have hol2:=bM hov0;have hbl2:=bM hbv0
      have f7:G2[G.length]?=some (.cells pc.row ae):=by
       rw [f6 G.length (by omega) (by omega) (by omega) (fun n e=>by rw [aH];simp),aH];rfl
      have hP2:Pre H0 G2:=rJ (hP.app [.cells pc.row ae]) ho hbo f4 f5;have hct3:=hP2.cut;have htk3:=hP2.take;have hm0:((m:Int) == 0)=false:=by simp;omega
      have hbf:=hbd.flush (i:=i) (by omega);cases htx:kq w with
      |false=>
       rw [htx] at f1;simp only [sel_false,rdV];rw [au M bT.eq_1];simp (maxSteps:=3000000) (maxDischargeDepth:=6) +contextual -implicitDefEqProofs only [amC M,↓amD,Nat.reduceBEq,Nat.reduceAdd,env,ag,dx,amG,AV.cell,Nat.reduceMul,Nat.reduceLeDiff,a0,a4,a5,a6,a7,hne,hlt,hx,qB,h92,hcond,hsf,hmk,bb,List.getElem?_cons_succ,aS,aH,hp_set0,hm0,f1,hct3,htk3,b4,(show kz (.tuple [.slice .nil 3 [],.int .u8 4]) = .tuple [.slice .any 3 [],.int .u8 4] from rfl)]
      |true=>
       rw [htx] at f1;simp only [sel_true];obtain ⟨ov,k1,k2⟩:=f3;obtain ⟨v',G3,e1,e2,e3,e4,e5,e6⟩:=Ff k1 k2 (by have:=hP2.1;omega) (by omega) pc;have hP3:Pre H0 (G3.set o (.cells [v'] aG)):=rJ hP2 ho hbo e6.1 fun j hj hjo _=>e6.2.1 j hj hjo
       have l0:∀ x:AV,bN none [x] 0=some x:=fun _=>rfl
       have hwm:IntKind.i64.wrap ((i:Int)+(m:Int))=((i+m:Nat):Int):=H6 (by simp only [bL];omega);have hdm:(c::t).drop m=s.drop (i+m):=by rw [← hsd,List.drop_drop]
       have ih:=fun a=>IH (i+m) (G3.set o (.cells [v'] aG)) [] (out++fm w++[pc]) a (by omega) (by omega) hP3 (f2.turn e6 hob ⟨_,_,k1⟩ (by decide)) e5 ⟨by simp,by rw [List.length_append];have:=hbf.1;simp only [List.length_cons,List.length_nil];omega,fun x hx=>by
        rcases List.mem_append.1 hx with hx | hx
        ·exact hbf.2 x hx
        ·simp at hx;subst hx;omega⟩
       rw [hdm];simp only [aa.row] at e1 f7 hmk f1;rw [au M bT.eq_1];simp (maxSteps:=3000000) (maxDischargeDepth:=6) +contextual -implicitDefEqProofs only [amC M,↓amD,Nat.reduceBEq,Nat.reduceAdd,env,ag,dx,amG,AV.cell,Nat.reduceMul,Nat.reduceLeDiff,a0,a4,a5,a6,a7,hne,hlt,hx,qB,h92,hcond,hsf,hmk,bb,List.getElem?_cons_succ,aS,aa.row,aH,hp_set0,hm0,f1,f7,k1,l0,e1,e2,e3,e4,runit_mk,hwm,LA,ih]
def IE(s:Str):Option (List aa):=rdP (s.length+1) s [] []
def yV(s:Str):AV:=sel (decide ((65536:Int)<(s.length:Int))) (.tuple [.slice .any 3 [],.int .u8 3]) (rdV (IE s))
def KM:AC→AC
 |.seq _ y=>y
 |x=>x
theorem LC{fn:AFn}{H0:List AObj}{k:List Fra}{a:Env}{H:List AObj}{g r:AC}(hg:g = .seq .skip r):M.go fn H0 (.c (.seq (.lbl 1) r)::k) a H=M.go fn H0 (.c g::k) a H:=by
 subst hg;rw [go_seq,go_lbl,go_seq,go_skip]
theorem IF(hB:j6 E)(hS:gW E)(hC:wL E)(hX:oB M)(hD:vi M)(hR:E.fn bj=some aZ){s:Str}(H:List AObj)(hs:s.length≤bL) :
  M.run nX [.str s] H=some (.ret (yV s),H):=by
 rw [aV M hS.docs_Read rfl (c:=rn) rfl,rn];unfold yV;cases h6:decide ((65536:Int)<(s.length:Int)) with
 |true=>simp (maxSteps:=3000000) (maxDischargeDepth:=6) +contextual -implicitDefEqProofs only [amC M,↓amD,Nat.reduceBEq,Nat.reduceAdd,env,ag,dx,h6,cut_refl,hp_self,b4,(show kz (.tuple [.slice .nil 3 [],.int .u8 3]) = .tuple [.slice .any 3 [],.int .u8 3] from rfl)]
 |false=>
  have hsl:s.length≤65536:=by have:=of_decide_eq_false h6;omega
  obtain ⟨g,hg⟩:∃ g,g=bT:=⟨_,rfl⟩
  have hl:=fun k a H2=>LC M (fn:=jr) (H0:=H) (k:=k) (a:=a) (H:=H2) (g:=g) (r:=KM bT) (by rw [hg];rfl)
  simp only [bT.eq_1,KM] at hl;simp (maxSteps:=3000000) (maxDischargeDepth:=6) +contextual -implicitDefEqProofs only [amC M,↓amD,Nat.reduceBEq,Nat.reduceAdd,env,ag,dx,amG,AV.cell,Nat.reduceMul,Nat.reduceLeDiff,h6,↓hl,qU];rw [hg];have g0:∀ L:List AObj,(H++L)[H.length+1+1]?=L[2]? := fun L=>by rw [show H.length+1+1=H.length+2 by rfl,hp_getk]
  have hgo:=fun a=>Mx M hB hS hC hX hD hR hsl (H0:=H) (o:=H.length) (b:=H.length+1+1) (Nat.le_refl _) (by omega) (by omega) (s.length+1) 0 (H++[.cells [.slice .nil 3 []] aG,.tok 0 ku,.cells [.nilp,.slice (.own (H.length+1)) 1 []] aw]) [] [] a (by omega) (by omega) ((Pre.refl H).app _)
   ⟨.nilp,.slice (.own (H.length+1)) 1 [],by rw [g0];rfl,.inl rfl,.inr ⟨H.length+1,by omega,rfl,by rw [hp_getk];rfl⟩⟩ ⟨.slice .nil 3 [],by rw [aH];rfl,.inl ⟨rfl,rfl⟩⟩ ⟨by simp,by simp,fun x hx=>by cases hx⟩
  rw [List.drop_zero] at hgo;refine hgo _ ?_ ?_ ?_ ?_ ?_<;>simp [im]
end
section
attribute [local congr] ak aR aJ al aI aA ao ah ai aC aD
variable{E:aQ}(M:bo bz E)
def fy:Nat→Str→Option (Str×Nat)
 |0,_=>none
 |n+1,s=>match s with
  |[]=>some ([],0)
  |c :: t=>sel ((c == 60)||(c == 123)) (some ([],0)) (sel (c == 92)
     (match t with
      |[]=>none
      |d::t'=>sel ((d == 92)||(d == 60)||(d == 123)) ((fy n t').map fun r=>(d::r.1,r.2+2)) none)
     ((fy n t).map fun r=>(c::r.1,r.2+1)))
def rdR:Nat→Str→List aa→Option (List aa)
 |0,_,_=>none
 |n+1,s,out=>match s with
  |[]=>some out
  |c :: t=>sel ((c == 60)||(c == 123))
     (match Ee (c::t) with
      |none=>none
      |some (p,m)=>rdR n ((c::t).drop m) (out++[p]))
     (match fy ((c::t).length+1) (c::t) with
      |none=>none
      |some (v,m)=>sel (kq v) (rdR n ((c::t).drop m) (out++[⟨1,v,false⟩])) none)
theorem nf:∀ (n:Nat) (s:Str) (v:Str) (m:Nat),fy n s=some (v,m)→m≤s.length∧v.length≤m
 |0,_,_,_,h=>by cases h
 |n+1,s,v,m,h=>by
  rw [fy.eq_def] at h;dsimp only at h;cases s with
  |nil=>cases h;exact ⟨Nat.le_refl _,Nat.le_refl _⟩
  |cons c t=>
   dsimp only at h;cases h1:(c == 60)||(c == 123) with
   |true=>rw [h1] at h;cases h;exact ⟨Nat.zero_le _,Nat.le_refl _⟩
   |false=>
    rw [h1,sel_false] at h;cases h2:c == 92 with
    |true=>
     rw [h2,sel_true] at h;cases t with
     |nil=>cases h
     |cons d t'=>
      dsimp only at h;cases h3:(d == 92)||(d == 60)||(d == 123) with
      |false=>rw [h3] at h;cases h
      |true=>
       rw [h3,sel_true] at h;cases h4:fy n t' with
       |none=>rw [h4] at h;cases h
       |some r=>
        obtain ⟨v',m'⟩:=r;rw [h4] at h;cases h;have:=nf n t' v' m' h4;simp only [List.length_cons];omega
    |false=>
     rw [h2,sel_false] at h;cases h4:fy n t with
     |none=>rw [h4] at h;cases h
     |some r=>
      obtain ⟨v',m'⟩:=r;rw [h4] at h;cases h;have:=nf n t v' m' h4;simp only [List.length_cons];omega
def My:AV:=.tuple [.slice .any 3 [],.int .u8 4]
theorem Ej:kz (.tuple [.slice .nil 3 [],.int .u8 4])=My:=rfl
theorem rr0{s:Str}(hs:s.length≤65536){H0 G:List AObj}(hct:dt H0 G)(htk:G.take H0.length=H0){tg:Tag}{rows:List (List AV)}(k:List Fra):∀ (n i:Nat) (w:Str) (He:List AObj),s.length-i<n→i≤s.length→w.length≤i →
  M.go cW H0 (.c bf :: .lp ⟨(some [0,4,5,10]),[],false⟩ bf He :: .blk 2 :: .c (.lv [0,4,5,10])::k) (kv [(0,.str s),(4,.slice tg 3 rows),(5,.int .i64 i),(10,.str w)]) G =
   (match fy n (s.drop i) with
    |none=>some (.ret My,H0)
    |some (v,m)=>M.go cW H0 k (kv [(0,.str s),(4,.slice tg 3 rows),(5,.int .i64 ((i+m:Nat):Int)),(10,.str (w++v))]) G):=by
 intro n;induction n with
 |zero=>intro i w He h;omega
 |succ n IH=>
  intro i w He h hi hw;rw [fy.eq_def];dsimp only;cases hsd:s.drop i with
  |nil=>
   have hil:i=s.length:=by have:=congrArg List.length hsd;simp at this;omega
   subst hil;dsimp only;rw [List.append_nil,Nat.add_zero];rw [au M bf.eq_1];simp (maxSteps:=3000000) (maxDischargeDepth:=6) +contextual -implicitDefEqProofs only [amC M,↓amD,Nat.reduceBEq,Nat.reduceAdd,env,ag,aK,Nat.lt_irrefl]
  |cons c t=>
   have hlt:i<s.length:=by have:=congrArg List.length hsd;simp at this;omega
   have hx:s[i]?=some c:=by rw [← List.head?_drop,hsd];rfl
   have hd1:s.drop (i+1)=t:=by rw [← List.drop_drop,hsd];rfl
   have hws:IntKind.i64.wrap ((i:Int)+1)=((i+1:Nat):Int):=gK hlt (by simp only [bL];omega)
   have hsl:mE (.str s) (some (.int .i64 (i:Int))) (some (.int .i64 ((i+1:Nat):Int)))=some (.str [c]):=by
    rw [lH (by omega) (by omega),hsd,show i+1-i=1 by omega];rfl
   have hadd:∀ d,bq .add w [d]=some (.str (w++[d])):=fun d=>bp (by simp;omega)
   dsimp only;cases htag:(c == 60)||(c == 123) with
   |true=>
    have hcond:(c == 60)=false→(c == 123)=true:=fun h=>by rw [h] at htag;simpa using htag
    rw [sel_true];dsimp only;rw [List.append_nil,Nat.add_zero];cases h60:c == 60 with
    |true=>
     rw [au M bf.eq_1];simp (maxSteps:=3000000) (maxDischargeDepth:=6) +contextual -implicitDefEqProofs only [amC M,↓amD,Nat.reduceBEq,Nat.reduceAdd,env,ag,aK,hlt,hx,qB,h60]
    |false=>
     rw [au M bf.eq_1];simp (maxSteps:=3000000) (maxDischargeDepth:=6) +contextual -implicitDefEqProofs only [amC M,↓amD,Nat.reduceBEq,Nat.reduceAdd,env,ag,aK,hlt,hx,qB,h60,hcond h60]
   |false=>
    rw [sel_false];have h60:(c == 60)=false:=by simp at htag ⊢;exact htag.1
    have h123:(c == 123)=false:=by simp at htag ⊢;exact htag.2
    cases h92:c == 92 with
    |false=>
     have ih:=fun He=>IH (i+1) (w++[c]) He (by omega) (by omega) (by simp;omega)
     rw [hd1] at ih;rw [sel_false];cases hch:fy n t with
     |none=>
      rw [hch] at ih;simp only [kv_cons,kv_nil,Option.map_none] at ih ⊢;rw [au M bf.eq_1];simp (maxSteps:=3000000) (maxDischargeDepth:=6) +contextual -implicitDefEqProofs only [amC M,↓amD,Nat.reduceBEq,Nat.reduceAdd,env,ag,aK,hlt,hx,qB,h60,h123,h92,hws,hsl,hadd,ih]
     |some r=>
      rw [hch] at ih;obtain ⟨v,m⟩:=r;simp only [List.append_assoc,List.singleton_append] at ih;simp only [kv_cons,kv_nil,Option.map_some] at ih ⊢;rw [show i+(m+1)=i+1+m by omega];rw [au M bf.eq_1];simp (maxSteps:=3000000) (maxDischargeDepth:=6) +contextual -implicitDefEqProofs only [amC M,↓amD,Nat.reduceBEq,Nat.reduceAdd,env,ag,aK,hlt,hx,qB,h60,h123,h92,hws,hsl,hadd,ih]
    |true=>
     rw [sel_true];cases t with
     |nil=>
      have hil:i+1=s.length:=by have:=congrArg List.length hsd;simp at this;omega
      have he:(i+1 == s.length)=true:=by simp [hil]
      dsimp only;rw [au M bf.eq_1];simp (maxSteps:=3000000) (maxDischargeDepth:=6) +contextual -implicitDefEqProofs only [amC M,↓amD,Nat.reduceBEq,Nat.reduceAdd,env,ag,aK,hlt,hx,qB,h60,h123,h92,hws,he,hct,htk,Ej,b4];rfl
     |cons d t'=>
      have hlt1:i+1<s.length:=by have:=congrArg List.length hsd;simp at this;omega
      have he:(i+1 == s.length)=false:=by simp;omega
      have hx1:s[i+1]?=some d:=by rw [← List.head?_drop,hd1];rfl
      have hd2:s.drop (i+2)=t':=by rw [show i+2=i+1+1 by rfl,← List.drop_drop,hd1];rfl
      have hws2:IntKind.i64.wrap (((i+1:Nat):Int)+1)=((i+2:Nat):Int):=gK hlt1 (by simp only [bL];omega)
      have hsl2:mE (.str s) (some (.int .i64 ((i+1:Nat):Int))) (some (.int .i64 ((i+2:Nat):Int)))=some (.str [d]):=by
       rw [lH (by omega) (by omega),hd1,show i+2-(i+1)=1 by omega];rfl
      dsimp only;cases hesc:(d == 92)||(d == 60)||(d == 123) with
      |false=>
       have q1:(d == 92)=false:=by simp at hesc ⊢;exact hesc.1.1
       have q2:(d == 60)=false:=by simp at hesc ⊢;exact hesc.1.2
       have q3:(d == 123)=false:=by simp at hesc ⊢;exact hesc.2
       rw [sel_false];dsimp only;rw [au M bf.eq_1];simp (maxSteps:=3000000) (maxDischargeDepth:=6) +contextual -implicitDefEqProofs only [amC M,↓amD,Nat.reduceBEq,Nat.reduceAdd,env,ag,aK,hlt,hx,qB,h60,h123,h92,hws,he,hlt1,hx1,q1,q2,q3,hct,htk,Ej,b4];rfl
      |true=>
       have hnn:(!(d == 92) && !(d == 60) && !(d == 123))=false:=by rw [← Bool.not_or,← Bool.not_or,hesc];rfl
       have ih:=fun He=>IH (i+2) (w++[d]) He (by omega) (by omega) (by simp;omega)
       rw [hd2] at ih;rw [sel_true];cases hch:fy n t' with
       |none=>
        rw [hch] at ih;simp only [kv_cons,kv_nil,Option.map_none] at ih ⊢;rw [au M bf.eq_1];simp (maxSteps:=3000000) (maxDischargeDepth:=6) +contextual -implicitDefEqProofs only [amC M,↓amD,Nat.reduceBEq,Nat.reduceAdd,env,ag,aK,hlt,hx,qB,h60,h123,h92,hws,he,hlt1,hx1,hnn,hws2,hsl2,hadd,ih]
       |some r=>
        rw [hch] at ih;obtain ⟨v,m⟩:=r;simp only [List.append_assoc,List.singleton_append] at ih;simp only [kv_cons,kv_nil,Option.map_some] at ih ⊢;rw [show i+(m+2)=i+2+m by omega];rw [au M bf.eq_1];simp (maxSteps:=3000000) (maxDischargeDepth:=6) +contextual -implicitDefEqProofs only [amC M,↓amD,Nat.reduceBEq,Nat.reduceAdd,env,ag,aK,hlt,hx,qB,h60,h123,h92,hws,he,hlt1,hx1,hnn,hws2,hsl2,hadd,ih]
theorem tm{n:Nat}{c:UInt8}{t v:Str}{m:Nat}(hc:((c == 60)||(c == 123))=false)(h:fy n (c::t)=some (v,m)):1≤m∧v≠[]:=by
 cases n with
 |zero=>cases h
 |succ n=>
  rw [fy.eq_def] at h;dsimp only at h;rw [hc,sel_false] at h;cases h2:c == 92 with
  |true=>
   rw [h2,sel_true] at h;cases t with
   |nil=>cases h
   |cons d t'=>
    dsimp only at h;cases h3:(d == 92)||(d == 60)||(d == 123) with
    |false=>rw [h3] at h;cases h
    |true=>
     rw [h3,sel_true] at h;cases h4:fy n t' with
     |none=>rw [h4] at h;cases h
     |some r=>rw [h4] at h;cases h;exact ⟨by omega,by simp⟩
  |false=>
   rw [h2,sel_false] at h;cases h4:fy n t with
   |none=>rw [h4] at h;cases h
   |some r=>rw [h4] at h;cases h;exact ⟨by omega,by simp⟩
theorem AJ{p:UInt8→Bool}:∀ (l:Str) (i k:Nat),(b9 p i l = -1∧b9 p k l = -1)∨∃ j,j<l.length∧b9 p i l=((i+j:Nat):Int)∧b9 p k l=((k+j:Nat):Int)
 |[],i,k=>.inl ⟨rfl,rfl⟩
 |c::l,i,k=>by
  cases h:p c with
  |true=>exact .inr ⟨0,by simp,by simp [b9,h,sel],by simp [b9,h,sel]⟩
  |false=>
   rcases AJ (p:=p) l (i+1) (k+1) with ⟨h1,h2⟩ | ⟨j,h1,h2,h3⟩
   ·exact .inl ⟨by simp [b9,h,sel,h1],by simp [b9,h,sel,h2]⟩
   ·exact .inr ⟨j+1,by simpa using h1,by simp [b9,h,sel,h2];omega,by simp [b9,h,sel,h3];omega⟩
theorem rr1(hB:j6 E)(hS:gW E){s:Str}(hs:s.length≤65536){H0:List AObj}{k:List Fra}
  (hk:∀ out:List aa,out.length≤65536→(∀ x∈out,x.text.length≤65536)→M.go cW H0 k (kv [(4,.slice (.own H0.length) 3 (out.map aa.row))]) (H0++[.tok (out.length*3) ae])=some (.ret (rdV (some out)),H0)) :
  ∀ (n i:Nat) (out:List aa),s.length-i<n→i≤s.length→out.length≤i→(∀ x∈out,x.text.length≤65536) →
  M.go cW H0 (.c aU :: .lp ⟨some [0,4,5],[(4,3,ae)],true⟩ aU (H0++[.tok (out.length*3) ae]) :: .blk 0 :: .c (.lv [4])::k) (kv [(0,.str s),(4,.slice (.own H0.length) 3 (out.map aa.row)),(5,.int .i64 i)]) (H0++[.tok (out.length*3) ae]) =
   some (.ret (rdV (rdR n (s.drop i) out)),H0):=by
 intro n;induction n with
 |zero=>intro i out h;omega
 |succ n IH=>
  intro i out h hi hol hot;rw [rdR.eq_def];dsimp only;cases hsd:s.drop i with
  |nil=>
   have hil:i=s.length:=by have:=congrArg List.length hsd;simp at this;omega
   subst hil;have hk1:=hk out (by omega) hot;simp only [kv_cons,kv_nil] at hk1;dsimp only;rw [au M aU.eq_1];simp (maxSteps:=3000000) (maxDischargeDepth:=6) +contextual -implicitDefEqProofs only [amC M,↓amD,Nat.reduceBEq,Nat.reduceAdd,env,ag,aK,Nat.lt_irrefl,hk1]
  |cons c t=>
   have hlt:i<s.length:=by have:=congrArg List.length hsd;simp at this;omega
   have hx:s[i]?=some c:=by rw [← List.head?_drop,hsd];rfl
   have hlen:(c::t).length=s.length-i:=by rw [← hsd,List.length_drop]
   dsimp only;cases htag:(c == 60)||(c == 123) with
   |true=>
    rw [sel_true,Ee];have hu62:=fun H=>uF M hS (s:=s) (by simp only [bL];omega) (i:=i) (by omega) 62 H
    have hu125:=fun H=>uF M hS (s:=s) (by simp only [bL];omega) (i:=i) (by omega) 125 H
    rw [hsd] at hu62 hu125;rw [show (((62:UInt8).toNat:Nat):Int)=62 from rfl] at hu62;rw [show (((125:UInt8).toNat:Nat):Int)=125 from rfl] at hu125;have hcond:(c == 60)=false→(c == 123)=true:=fun h=>by rw [h] at htag;simpa using htag
    have h6:(c == 123)=false→(c == 60)=true:=fun h=>by rw [h] at htag;simpa using htag
    have gk:∀ L:List AObj,(H0++L)[H0.length+1]?=L[1]? := fun L=>hp_getk H0 L 1
    have sk:∀ (L:List AObj) (x:AObj),(H0++L).set (H0.length+1) x=H0++L.set 1 x:=fun L x=>hp_setk H0 L 1 x
    rcases AJ (p:=fun d=>d == l5 c) (c::t) i 0 with ⟨h1,h2⟩ | ⟨j,hj,h1,h2⟩
    ·rw [h2,show decide ((-1:Int)<0)=true from rfl,sel_true]
     simp only [rdV];cases h123:c == 123 with
     |true=>
      have hec:l5 c=125:=by rw [l5,h123];rfl
      rw [hec] at h1;rw [h1] at hu125;rw [au M aU.eq_1];simp (maxSteps:=3000000) (maxDischargeDepth:=6) +contextual -implicitDefEqProofs only [amC M,↓amD,Nat.reduceBEq,Nat.reduceAdd,env,ag,aK,hlt,hx,qB,h123,hcond,hu62,hu125,(show decide ((-1:Int)<0)=true from rfl),cut_app,hp_take,Ej,b4]
      try rfl
     |false=>
      have hec:l5 c=62:=by rw [l5,h123];rfl
      rw [hec] at h1;rw [h1] at hu62;rw [au M aU.eq_1];simp (maxSteps:=3000000) (maxDischargeDepth:=6) +contextual -implicitDefEqProofs only [amC M,↓amD,Nat.reduceBEq,Nat.reduceAdd,env,ag,aK,hlt,hx,qB,h123,h6 h123,hu62,(show decide ((-1:Int)<0)=true from rfl),cut_app,hp_take,Ej,b4]
      try rfl
    ·rw [h2,Nat.zero_add,show decide (((j:Nat):Int)<0)=false from decide_eq_false (by omega),sel_false,show ((j:Nat):Int).toNat=j from rfl]
     have hj2:j<s.length-i:=by rw [← hlen];exact hj
     have hw1:IntKind.i64.wrap (((i+j:Nat):Int)+1)=((i+j+1:Nat):Int):=by rw [cU (by omega) (by omega)];omega
     have hsl:mE (.str s) (some (.int .i64 (i:Int))) (some (.int .i64 ((i+j+1:Nat):Int)))=some (.str ((c::t).take (j+1))):=by
      rw [lH (by omega) (by omega),hsd,show i+j+1-i=j+1 by omega]
     have hneg:decide (((i+j:Nat):Int)<0)=false:=decide_eq_false (by omega);have hsegl:((c::t).take (j+1)).length≤70368744177664:=by rw [List.length_take];omega
     have hrm:=fun H=>C7 M hB hS hsegl H
     have hdm:(c::t).drop (j+1)=s.drop (i+j+1):=by rw [← hsd,List.drop_drop];rfl
     have hV:=fun h=>KL (s:=(c::t).take (j+1)) h
     generalize hrr:rmk ((c::t).take (j+1))=rr at *
     obtain ⟨pc,ok⟩:=rr;simp only [uG] at hrm;cases ok with
     |false=>
      simp only [sel_false,rdV];cases h123:c == 123 with
      |true=>
       have hec:l5 c=125:=by rw [l5,h123];rfl
       rw [hec] at h1;rw [h1] at hu125;rw [au M aU.eq_1];simp (maxSteps:=3000000) (maxDischargeDepth:=6) +contextual -implicitDefEqProofs only [amC M,↓amD,Nat.reduceBEq,Nat.reduceAdd,env,ag,aK,amG,AV.cell,Nat.reduceMul,Nat.reduceLeDiff,hlt,hx,qB,h123,hcond,hu62,hu125,hneg,hw1,hsl,hrm,bb,List.getElem?_cons_succ,aS,gk,sk,List.set_cons_succ,cut_app,hp_take,Ej,b4]
       try rfl
      |false=>
       have hec:l5 c=62:=by rw [l5,h123];rfl
       rw [hec] at h1;rw [h1] at hu62;rw [au M aU.eq_1];simp (maxSteps:=3000000) (maxDischargeDepth:=6) +contextual -implicitDefEqProofs only [amC M,↓amD,Nat.reduceBEq,Nat.reduceAdd,env,ag,aK,amG,AV.cell,Nat.reduceMul,Nat.reduceLeDiff,hlt,hx,qB,h123,h6 h123,hu62,hneg,hw1,hsl,hrm,bb,List.getElem?_cons_succ,aS,gk,sk,List.set_cons_succ,cut_app,hp_take,Ej,b4]
       try rfl
     |true=>
      simp only [sel_true];have hVt:=hV rfl
      have hpl:pc.text.length≤65536:=by
       have:=vM pc;have h9:=hVt.len;dsimp only at h9;rw [List.length_take] at h9;omega
      have hap:=E2 (row:=aa.row) (l:=out) (x:=pc) (r:=pc.row) (sz:=3) (bytes:=32) (e:=ae) H0 [.cells pc.row ae] rfl rfl rfl (by omega) (by omega)
      have ih:=IH (i+j+1) (out++[pc]) (by omega) (by omega) (by simp;omega) (fun x hx=>by
       rcases List.mem_append.1 hx with hx | hx
       ·exact hot x hx
       ·simp at hx;subst hx;exact hpl)
      rw [hdm];simp only [kv_cons,kv_nil] at ih;have hwo:Wk (H0.length+1) (.slice (.own H0.length) 3 ((out++[pc]).map aa.row)) (.slice (.own H0.length) 3 ((out++[pc]).map aa.row)):=wk_slice (show H0.length<H0.length+1 by omega) (D6 _ _);cases h123:c == 123 with
      |true=>
       have hec:l5 c=125:=by rw [l5,h123];rfl
       rw [hec] at h1;rw [h1] at hu125;rw [au M aU.eq_1];simp (maxSteps:=3000000) (maxDischargeDepth:=6) +contextual -implicitDefEqProofs only [amC M,↓amD,Nat.reduceBEq,Nat.reduceAdd,env,ag,aK,amG,AV.cell,Nat.reduceMul,Nat.reduceLeDiff,hlt,hx,qB,h123,hcond,hu62,hu125,hneg,hw1,hsl,hrm,bb,List.getElem?_cons_succ,aS,gk,sk,List.set_cons_succ,hap,BB,yN,hwo,ih]
      |false=>
       have hec:l5 c=62:=by rw [l5,h123];rfl
       rw [hec] at h1;rw [h1] at hu62;rw [au M aU.eq_1];simp (maxSteps:=3000000) (maxDischargeDepth:=6) +contextual -implicitDefEqProofs only [amC M,↓amD,Nat.reduceBEq,Nat.reduceAdd,env,ag,aK,amG,AV.cell,Nat.reduceMul,Nat.reduceLeDiff,hlt,hx,qB,h123,h6 h123,hu62,hneg,hw1,hsl,hrm,bb,List.getElem?_cons_succ,aS,gk,sk,List.set_cons_succ,hap,BB,yN,hwo,ih]
   |false=>
    have h60:(c == 60)=false:=by simp at htag ⊢;exact htag.1
    have h123:(c == 123)=false:=by simp at htag ⊢;exact htag.2
    rw [sel_false];have hin:=fun k He=>rr0 M hs (H0:=H0) (G:=H0++[.tok (out.length*3) ae]) (cut_app H0 _) (hp_take H0 _) (tg:=.own H0.length) (rows:=out.map aa.row) k ((c::t).length+1) i [] He (by omega) (by omega) (by simp)
    rw [hsd] at hin;cases hch:fy ((c::t).length+1) (c::t) with
    |none=>
     rw [hch] at hin;simp only [kv_cons,kv_nil,rdV] at hin ⊢;rw [au M aU.eq_1];simp (maxSteps:=3000000) (maxDischargeDepth:=6) +contextual -implicitDefEqProofs only [amC M,↓amD,Nat.reduceBEq,Nat.reduceAdd,env,ag,aK,hlt,hx,qB,h60,h123,hin]
     try rfl
    |some r=>
     obtain ⟨v,m⟩:=r;rw [hch] at hin;simp only [kv_cons,kv_nil,List.nil_append] at hin ⊢;obtain ⟨hm1,hm2⟩:=nf _ _ _ _ hch;have hvl:v.length≤70368744177664:=by omega
     have hT:=fun H=>CY M hB hvl H
     cases htx:kq v with
     |false=>
      rw [htx] at hT;simp only [sel_false,rdV];rw [au M aU.eq_1];simp (maxSteps:=3000000) (maxDischargeDepth:=6) +contextual -implicitDefEqProofs only [amC M,↓amD,Nat.reduceBEq,Nat.reduceAdd,env,ag,aK,hlt,hx,qB,h60,h123,hin,hT,cut_app,hp_take,Ej,b4]
      try rfl
     |true=>
      rw [htx] at hT;rw [sel_true];have hap:=E2 (row:=aa.row) (l:=out) (x:=⟨1,v,false⟩) (r:=[.int .u8 1,.str v,.bool false]) (sz:=3) (bytes:=32) (e:=ae) H0 [] rfl rfl rfl (by omega) (by omega);have hdm:(c::t).drop m=s.drop (i+m):=by rw [← hsd,List.drop_drop]
      obtain ⟨hm3,_⟩:=tm htag hch
      have ih:=IH (i+m) (out++[⟨1,v,false⟩]) (by omega) (by omega) (by simp;omega) (fun x hx=>by
       rcases List.mem_append.1 hx with hx | hx
       ·exact hot x hx
       ·simp at hx;subst hx;dsimp only;omega)
      rw [hdm];simp only [kv_cons,kv_nil] at ih;have hwo:Wk (H0.length+1) (.slice (.own H0.length) 3 ((out++[(⟨1,v,false⟩:aa)]).map aa.row)) (.slice (.own H0.length) 3 ((out++[(⟨1,v,false⟩:aa)]).map aa.row)):=wk_slice (show H0.length<H0.length+1 by omega) (D6 _ _);rw [au M aU.eq_1];simp (maxSteps:=3000000) (maxDischargeDepth:=6) +contextual -implicitDefEqProofs only [amC M,↓amD,Nat.reduceBEq,Nat.reduceAdd,env,ag,aK,amG,AV.cell,Nat.reduceMul,Nat.reduceLeDiff,hlt,hx,qB,h60,h123,hin,hT,hap,BB,yN,hwo,ih]
def BI(s:Str):AV:=sel (decide ((65536:Int)<(s.length:Int))) (.tuple [.slice .any 3 [],.int .u8 3]) (rdV (rdR (s.length+1) s []))
theorem Gs(hB:j6 E)(hS:gW E){s:Str}(H:List AObj):M.run jh [.str s] H=some (.ret (BI s),H):=by
 rw [aV M hS.truchmanref01_Read rfl (c:=jx) rfl,jx];unfold BI;cases h6:decide ((65536:Int)<(s.length:Int)) with
 |true=>simp (maxSteps:=3000000) (maxDischargeDepth:=6) +contextual -implicitDefEqProofs only [amC M,↓amD,Nat.reduceBEq,Nat.reduceAdd,env,ag,aK,h6,cut_refl,hp_self,b4,(show kz (.tuple [.slice .nil 3 [],.int .u8 3]) = .tuple [.slice .any 3 [],.int .u8 3] from rfl)]
 |false=>
  have hsl:s.length≤65536:=by have:=of_decide_eq_false h6;omega
  have hl:=fun k hk=>rr1 M hB hS hsl (H0:=H) (k:=k) hk (s.length+1) 0 [] (by omega) (by omega) (by simp) (fun x hx=>by cases hx)
  simp only [kv_cons,kv_nil,Int.ofNat_zero,List.drop_zero,List.map_nil,List.length_nil,Nat.zero_mul] at hl;rw [sel_false];simp (maxSteps:=3000000) (maxDischargeDepth:=6) +contextual -implicitDefEqProofs only [amC M,↓amD,Nat.reduceBEq,Nat.reduceAdd,env,ag,aK,amG,AV.cell,Nat.reduceMul,Nat.reduceLeDiff,h6];refine hl _ fun out hol hot => ?_
  have hCP:=fun H2=>vj M hB (l:=⟨.own H.length,out⟩) (by dsimp only;omega) (fun x hx=>by have:=hot x hx;omega) H2
  dsimp only at hCP;simp only [rdV];cases hz:l4 out == 0 with
  |false=>
   have e2:∀ n:Int,kz (.tuple [.slice .nil 3 [],.int .u8 n]) = .tuple [.slice .any 3 [],.int .u8 n]:=fun _=>rfl
   simp (maxSteps:=3000000) (maxDischargeDepth:=6) +contextual -implicitDefEqProofs only [amC M,↓amD,Nat.reduceBEq,Nat.reduceAdd,env,ag,aK,hCP,hz,cut_app,hp_take,b4,e2]
  |true=>
   have e2:kz (.tuple [.slice (.own H.length) 3 (out.map aa.row),.int .u8 0]) = .tuple [.slice .any 3 (out.map aa.row),.int .u8 0]:=rfl;have hwa:Wk H.length (.slice (.own H.length) 3 (out.map aa.row)) (.slice .any 3 (out.map aa.row)):=wk_any (D6 _ _);simp (maxSteps:=3000000) (maxDischargeDepth:=6) +contextual -implicitDefEqProofs only [amC M,↓amD,Nat.reduceBEq,Nat.reduceAdd,env,ag,aK,hCP,hz,cut_app,hp_take,e2,hwa]
end
theorem wY{s:Str}{p:aa}{m:Nat}(h:mkO s=some (p,m)):1≤m:=by
 have hV:=Iy h;obtain ⟨c,w,hw,_⟩:=yU hV.name hV.kind;have:=hV.len;rw [hw] at this;simp at this;omega
theorem Fh(n:Nat)(w:Str)(out:List aa):rdP (n+1) [] w out=sel (kq w) (some (out++fm w)) none:=by
 rw [rdP.eq_def]
theorem Fi{n:Nat}{c:UInt8}{t w:Str}{out:List aa}(h:((c == 60)||(c == 123))=true):rdP (n+1) (c::t) w out=(match mkO (c::t) with
  |none=>none
  |some (p,m)=>sel (kq w) (rdP n ((c::t).drop m) [] (out++fm w++[p])) none):=by
 have h92:(c == 92)=false:=by
  rcases Bool.or_eq_true _ _ ▸ h with h | h<;>(have:=eq_of_beq h;subst this;rfl)
 rw [rdP.eq_def];dsimp only;rw [h92,sel_false,h,sel_true]<;>rfl
theorem lI:∀ (n n':Nat) (s w:Str) (out:List aa),s.length<n→s.length<n'→rdP n s w out=rdP n' s w out
 |0,_,s,_,_,h,_=>absurd h (Nat.not_lt_zero _)
 |_+1,0,s,_,_,_,h=>absurd h (Nat.not_lt_zero _)
 |n+1,n'+1,s,w,out,h,h'=>by
  rw [rdP.eq_def,rdP.eq_def (n'+1)];dsimp only;cases s with
  |nil=>rfl
  |cons c t=>
   simp only [List.length_cons] at h h';dsimp only;cases h92:c == 92 with
   |true=>
    simp only [sel_true];cases t with
    |nil=>rfl
    |cons d t'=>
     simp only [List.length_cons] at h h';dsimp only;rw [lI n n' t' (w++[d]) out (by omega) (by omega)]
   |false=>
    simp only [sel_false];cases htag:(c == 60)||(c == 123) with
    |true=>
     simp only [sel_true];cases hm:mkO (c::t) with
     |none=>rfl
     |some q=>
      obtain ⟨p,m⟩:=q;have:=wY hm;dsimp only;rw [lI n n' ((c::t).drop m) [] _ (by rw [List.length_drop,List.length_cons];omega) (by rw [List.length_drop,List.length_cons];omega)]
    |false=>
     simp only [sel_false];rw [lI n n' t (w++[c]) out (by omega) (by omega)]
theorem uI:∀ (n n':Nat) (s:Str) (out:List aa),s.length<n→s.length<n'→rdR n s out=rdR n' s out
 |0,_,s,_,h,_=>absurd h (Nat.not_lt_zero _)
 |_+1,0,s,_,_,h=>absurd h (Nat.not_lt_zero _)
 |n+1,n'+1,s,out,h,h'=>by
  rw [rdR.eq_def,rdR.eq_def (n'+1)];dsimp only;cases s with
  |nil=>rfl
  |cons c t=>
   simp only [List.length_cons] at h h';dsimp only;cases htag:(c == 60)||(c == 123) with
   |true=>
    simp only [sel_true];rw [Eg];cases hm:mkO (c::t) with
    |none=>rfl
    |some q=>
     obtain ⟨p,m⟩:=q;have:=wY hm;dsimp only;rw [uI n n' ((c::t).drop m) _ (by rw [List.length_drop,List.length_cons];omega) (by rw [List.length_drop,List.length_cons];omega)]
   |false=>
    simp only [sel_false];cases hc:fy ((c::t).length+1) (c::t) with
    |none=>rfl
    |some q=>
     obtain ⟨v,m⟩:=q;have:=(tm htag hc).1;dsimp only;rw [uI n n' ((c::t).drop m) _ (by rw [List.length_drop,List.length_cons];omega) (by rw [List.length_drop,List.length_cons];omega)]
theorem vo:∀ (k n:Nat) (s w:Str) (out:List aa),s.length<k→s.length<n →
  match fy k s with
  |none=>rdP n s w out=none
  |some (v,m)=>rdP n s w out=rdP (s.length-m+1) (s.drop m) (w++v) out∧(s.drop m=[]∨∃ d u,s.drop m=d::u∧((d == 60)||(d == 123))=true)
 |0,_,_,_,_,h,_=>absurd h (Nat.not_lt_zero _)
 |_+1,0,_,_,_,_,h=>absurd h (Nat.not_lt_zero _)
 |k+1,n+1,s,w,out,hk,hn=>by
  rw [fy.eq_def];dsimp only;cases s with
  |nil=>
   dsimp only;rw [List.append_nil];exact ⟨lI _ _ _ _ _ hn (by simp),.inl rfl⟩
  |cons c t=>
   dsimp only;cases htag:(c == 60)||(c == 123) with
   |true=>
    rw [sel_true];dsimp only;rw [List.append_nil,List.drop_zero];exact ⟨lI _ _ _ _ _ hn (by omega),.inr ⟨c,t,rfl,htag⟩⟩
   |false=>
    rw [sel_false];simp only [List.length_cons] at hk hn;cases h92:c == 92 with
    |true=>
     rw [sel_true,rdP.eq_def];dsimp only;rw [h92,sel_true];cases t with
     |nil=>rfl
     |cons d t'=>
      dsimp only;simp only [List.length_cons] at hk hn;cases hesc:(d == 92)||(d == 60)||(d == 123) with
      |false=>rfl
      |true=>
       simp only [sel_true];have ih:=vo k n t' (w++[d]) out (by omega) (by omega);cases hc:fy k t' with
       |none=>rw [hc] at ih;exact ih
       |some r=>
        obtain ⟨v,m⟩:=r;rw [hc] at ih;simp only [Option.map_some];have hml:=(nf _ _ _ _ hc).1;rw [ih.1,List.append_assoc,List.singleton_append];refine ⟨?_,by simpa using ih.2⟩;rw [show (c::d::t').drop (m+2)=t'.drop m by simp];exact lI _ _ _ _ _ (by rw [List.length_drop];omega) (by rw [List.length_drop];simp only [List.length_cons];omega)
    |false=>
     rw [sel_false,rdP.eq_def];dsimp only;rw [h92,sel_false,htag,sel_false];have ih:=vo k n t (w++[c]) out (by omega) (by omega);cases hc:fy k t with
     |none=>rw [hc] at ih;exact ih
     |some r=>
      obtain ⟨v,m⟩:=r;rw [hc] at ih;simp only [Option.map_some];have hml:=(nf _ _ _ _ hc).1;rw [ih.1,List.append_assoc,List.singleton_append];refine ⟨?_,by simpa using ih.2⟩;rw [show (c::t).drop (m+1)=t.drop m by simp];exact lI _ _ _ _ _ (by rw [List.length_drop];omega) (by rw [List.length_drop];simp only [List.length_cons];omega)
theorem BJ:∀ (L:Nat) (s:Str) (out:List aa),s.length≤L→rdP (s.length+1) s [] out=rdR (s.length+1) s out
 |L,[],out,_=>by rw [Fh,rdR.eq_def];simp [Ay,fm,sel]
 |0,c::t,_,h=>by simp at h
 |L+1,c::t,out,h=>by
  simp only [List.length_cons] at h;cases htag:(c == 60)||(c == 123) with
  |true=>
   rw [Fi htag,rdR.eq_def];dsimp only;rw [htag,sel_true,Eg];cases hm:mkO (c::t) with
   |none=>rfl
   |some q=>
    obtain ⟨p,m⟩:=q;have h1:=wY hm;have hl:((c::t).drop m).length≤L:=by rw [List.length_drop,List.length_cons];omega
    dsimp only
    rw [Ay,sel_true,show fm []=[] from rfl,List.append_nil,lI _ (((c::t).drop m).length+1) _ _ _ (by rw [List.length_drop,List.length_cons];omega) (by omega),BJ L _ _ hl,
     uI _ (c::t).length _ _ (by omega) (by rw [List.length_drop,List.length_cons];omega)]
  |false=>
   have hch:=vo ((c::t).length+1) ((c::t).length+1) (c::t) [] out (by omega) (by omega);rw [rdR.eq_def];dsimp only;rw [htag,sel_false];cases hc:fy ((c::t).length+1) (c::t) with
   |none=>rw [hc] at hch;exact hch
   |some q=>
    obtain ⟨v,m⟩:=q;rw [hc] at hch;dsimp only at hch ⊢;rw [List.nil_append] at hch;obtain ⟨hm1,hv⟩:=tm htag hc;have hml:=(nf _ _ _ _ hc).1;have hfl:fm v=[⟨1,v,false⟩]:=by rw [C9,if_neg hv]
    rw [hch.1];rcases hch.2 with h2 | ⟨d,u,h2,h3⟩
    ·rw [h2,Fh,hfl]
     cases kq v with
     |false=>rfl
     |true=>simp only [sel_true];simp [rdR]
    ·rw [h2,Fi h3,hfl]
     have hlu:(d::u).length+m=(c::t).length:=by rw [← h2,List.length_drop];omega
     cases htx:kq v with
     |false=>
      simp only [sel_false];cases mkO (d::u)<;>rfl
     |true=>
      simp only [sel_true];simp only [List.length_cons] at hlu ⊢;obtain ⟨k,hk⟩:∃ k,t.length+1=k+1:=⟨t.length,rfl⟩
      rw [hk,rdR.eq_def];dsimp only;rw [h3,sel_true,Eg];cases hm:mkO (d::u) with
      |none=>rfl
      |some q=>
       obtain ⟨p,m'⟩:=q;have h5:=wY hm;have hl:((d::u).drop m').length≤L:=by rw [List.length_drop,List.length_cons];omega
       dsimp only
       rw [lI _ (((d::u).drop m').length+1) _ _ _ (by rw [List.length_drop,List.length_cons];omega) (by omega),BJ L _ _ hl,
        uI _ k _ _ (by omega) (by rw [List.length_drop,List.length_cons];omega)]
theorem Gt(s:Str):BI s=yV s:=by
 unfold BI yV IE;rw [BJ s.length s [] (Nat.le_refl _)]
section
attribute [local congr] ak aR aJ al aI aA ao ah ai aC aD
variable{E:aQ}(M:bo bz E)
structure MQ (E:aQ):Prop where
theorem rK(s:Str):∃ (l:List aa) (e:Int),yV s = .tuple [.slice .any 3 (l.map aa.row),.int .u8 e]∧l.length≤bL:=by
 unfold yV;cases decide ((65536:Int)<(s.length:Int)) with
 |true=>exact ⟨[],3,rfl,by simp⟩
 |false=>
  rw [sel_false];cases IE s with
  |none=>exact ⟨[],4,rfl,by simp⟩
  |some out=>
   simp only [rdV];cases hz:l4 out == 0 with
   |false=>exact ⟨[],_,rfl,by simp⟩
   |true=>exact ⟨out,0,rfl,by have:=D7 (by simpa using hz);simp only [bL];omega⟩
end
section
attribute [local congr] ak aR aJ al aI aA ao ah ai aC aD
variable{E:aQ}(M:bo bz E)
structure IG (M:bo bz E):Prop where
 count:∀ (s:Str) (c:UInt8) (H:List AObj),M.run b5 [.str s,.int .u8 c.toNat] H=some (.ret (.int .i64 (Lib.countByte s c:Nat)),H)
structure sj (E:aQ):Prop where
 internal_stringslite_Cut:E.fn eZ=some fj
 strings_Cut:E.fn oh=some ot
 docs_heads:E.fn pC=some pK
 slices_Index_string_string:E.fn dj=some bO
 internal_stringslite_CutSuffix:E.fn dE=some dK
 strings_CutSuffix:E.fn jR=some jU
 docs_block:E.fn pA=some pI
 strings_Count:E.fn mF=some mI
 strings_genSplit:E.fn kB=some fh
 strings_SplitAfter:E.fn jg=some jt
 docs_Parse:E.fn pz=some jP
 truchmanref01_heads:E.fn fo=some iI
 truchmanref01_blockOf:E.fn gn=some bJ
 truchmanref01_Parse:E.fn iB=some dh
 truchmanlaw01_DocsParses:E.fn eY=some fe
theorem Ek(hP:sj E)(hX:IG M)(s:Str)(c:UInt8)(H:List AObj):M.run mF [.str s,.str [c]] H=some (.ret (.int .i64 (Lib.countByte s c:Nat)),H):=by
 rw [aV M hP.strings_Count rfl (c:=mH) rfl,mH];have h2:=hX.count s c H;have e0:((([c].length:Nat):Int) == 0)=false:=rfl;have e1:((([c].length:Nat):Int) == 1)=true:=rfl;have e2:tY ([c]:Str)[0]?=some (.int .u8 (c.toNat:Int)):=rfl;simp (maxSteps:=3000000) (maxDischargeDepth:=6) +contextual -implicitDefEqProofs only [amC M,↓amD,Nat.reduceBEq,Nat.reduceAdd,env,ag,v7,e0,e1,e2,h2]
theorem yW:∀ (s:Str) (m:Nat),Lib.countByte s 10=m+1→∃ a r,s=a++10::r∧(∀ c∈a,c≠10)∧Lib.indexByte s 10=(a.length:Int)∧Lib.countByte r 10=m
 |[],m,h=>by simp [Lib.countByte] at h
 |c::s,m,h=>by
  by_cases hc:c=10
  ·subst hc
   exact ⟨[],s,rfl,fun c hc=>(by cases hc),by simp [Lib.indexByte],by simpa [Lib.countByte] using h⟩
  ·obtain ⟨a,r,h1,h2,h3,h4⟩:=yW s m (by rwa [Lib.countByte,List.count_cons_of_ne (Ne.symm (by simpa using (fun e=>hc e.symm)))] at h)
   refine ⟨c::a,r,by rw [h1];rfl,fun x hx => ?_, ?_,h4⟩
   ·rcases List.mem_cons.1 hx with rfl | hx
    ·exact hc
    ·exact h2 x hx
   ·have hb:(c == 10)=false:=by simpa using hc
    simp only [Lib.indexByte,hb,h3]
    have:((a.length:Int) == -1)=false:=beq_eq_false_iff_ne.2 (by omega)
    simp [this]
def lnI:Nat→Str→List Str
 |0,_=>[]
 |n+1,s=>s.take ((Lib.indexByte s 10).toNat+1)::lnI n (s.drop ((Lib.indexByte s 10).toNat+1))
def lnR:Nat→Str→Str
 |0,s=>s
 |n+1,s=>lnR n (s.drop ((Lib.indexByte s 10).toNat+1))
theorem BK:∀ (n:Nat) (s:Str),(lnI n s).length=n
 |0,_=>rfl
 |n+1,s=>by rw [lnI,List.length_cons,BK n]
def lns(s:Str):List Str:=lnI (Lib.countByte s 10) s++[lnR (Lib.countByte s 10) s]
def wQ(n:Nat)(l:List Str):AObj:=.cells (l.map AV.str++List.replicate (n-l.length) (.str [])) aW
theorem Fj:∀ (l:List Str),gI 1 l.length (l.map AV.str)=l.map gJ
 |[]=>rfl
 |s::l=>by
  rw [List.length_cons,List.map_cons,gI,List.map_cons];simp only [List.take_succ_cons,List.take_zero,List.drop_succ_cons,List.drop_zero];rw [Fj l];rfl
theorem II{s:Str}{n:Nat}(h:n≤s.length):mE (.str s) none (some (.int .i64 (n:Int)))=some (.str (s.take n)):=by simp [mE,cS,h]
theorem LD{s:Str}{n:Nat}(h:n≤s.length):mE (.str s) (some (.int .i64 (n:Int))) none=some (.str (s.drop n)):=by
 simp [mE,cS,h];exact List.take_of_length_le (by simp)
theorem LF{n:Nat}(h:n≤1000000)(H:List AObj)(e:TypeId)(cs:List AV):rms H e 16 cs (.int .i64 (n:Int)) (.int .i64 (n:Int))=some (.rslice H.length 0 n cs.length true,H++[.cells (List.replicate n cs).flatten e]):=by
 simp [rms];omega
theorem MR(n:Nat)(x:AV):(List.replicate n [x]).flatten=List.replicate n x:=by
 induction n with
 |zero=>rfl
 |succ n ih=>rw [List.replicate_succ,List.flatten_cons,ih,List.replicate_succ];rfl
theorem LG{id n:Nat}(h:0<n):B4 1 (.rslice id 0 n 1 true) none (some (.int .i64 (n:Int))) none=some (.rslice id 0 n 1 true):=by simp [B4,cS,h]
theorem gsp(hS:gW E)(hX:oB M){N:Nat}(hN:N≤100000000){H H0:List AObj}:∀ (n i:Nat) (s:Str) (o:List Str),i+n=N→Lib.countByte s 10=n→o.length=i→s.length≤100000000 →
  ∀ (k:List Fra) (He:List AObj),M.go fh H0 (.c eu :: .lp ⟨(some [0,1,2,3,9,10]),[],false⟩ eu He :: .blk 0 :: .c (.lv [0,9,10])::k) (kv [(0,.str s),(1,.str [10]),(2,.int .i64 1),(3,.int .i64 N),(9,.rslice H.length 0 (N+1) 1 true),(10,.int .i64 i)]) (H++[wQ (N+1) o]) =
   M.go fh H0 k (kv [(0,.str (lnR n s)),(9,.rslice H.length 0 (N+1) 1 true),(10,.int .i64 N)]) (H++[wQ (N+1) (o++lnI n s)])
 |0,i,s,o,h,hc,ho,hs,k,He=>by
  have e:i=N:=by omega
  subst e;rw [lnR,lnI,List.append_nil];rw [au M eu.eq_1];simp (maxSteps:=3000000) (maxDischargeDepth:=6) +contextual -implicitDefEqProofs only [amC M,↓amD,Nat.reduceBEq,Nat.reduceAdd,env,ag,kH,Nat.lt_irrefl]
 |n+1,i,s,o,h,hc,ho,hs,k,He=>by
  obtain ⟨a,r,h1,h2,h3,h4⟩:=yW s n hc;have hi:i<N:=by omega
  have hx:=fun H=>yQ M hS hX s 10 H
  rw [h3] at hx;have hal:a.length+1≤s.length:=by rw [h1];simp
  have hm:(Lib.indexByte s 10).toNat=a.length:=by rw [h3];rfl
  have d1:decide ((a.length:Int)<0)=false:=decide_eq_false (by omega);have hw1:IntKind.i64.wrap ((a.length:Int)+1)=((a.length+1:Nat):Int):=by rw [cU (by omega) (by omega)];rfl
  have hw2:IntKind.i64.wrap ((i:Int)+1)=((i+1:Nat):Int):=by rw [cU (by omega) (by omega)];rfl
  have st1:mE (.str s) none (some (.int .i64 ((a.length+1:Nat):Int)))=some (.str (s.take (a.length+1))):=II hal;have st2:mE (.str s) (some (.int .i64 ((a.length+1:Nat):Int))) none=some (.str (s.drop (a.length+1))):=LD hal
  have hdr:s.drop (a.length+1)=r:=by
   rw [h1,show a++10::r=(a++[10])++r by simp];exact List.drop_left' (by simp)
  have hia:=E6 (id:=H.length) (n:=N+1) (i:=i) (by omega) .i64;have hg:(H++[wQ (N+1) o])[H.length]?=some (wQ (N+1) o):=by rw [aH];rfl
  have hst:stO 1 (H++[wQ (N+1) o]) H.length i [.str (s.take (a.length+1))] (some (wQ (N+1) o))=some (H++[wQ (N+1) (o++[s.take (a.length+1)])]):=by
   unfold wQ;rw [stO_cells (sz:=1) rfl (by simp;omega) rfl,hp_set0,setRow_cons,setRow_nil]
   have e:(o.map AV.str++List.replicate (N+1-o.length) (AV.str [])).set i (AV.str (s.take (a.length+1)))=(o++[s.take (a.length+1)]).map AV.str++List.replicate (N+1-(o++[s.take (a.length+1)]).length) (AV.str []):=by
    rw [List.set_append_right _ _ (by simp;omega)];obtain ⟨m,hm⟩:∃ m,N+1-o.length=m+1:=⟨N-o.length,by omega⟩
    have hm2:N+1-(o++[s.take (a.length+1)]).length=m:=by rw [List.length_append,List.length_singleton];omega
    rw [hm,hm2,List.replicate_succ,List.length_map,ho,Nat.sub_self,List.set_cons_zero];simp
   rw [e];rfl
  have ih:=gsp hS hX hN (H:=H) (H0:=H0) n (i+1) (s.drop (a.length+1)) (o++[s.take (a.length+1)]) (by omega) (by rw [hdr];exact h4) (by simp [ho]) (by rw [List.length_drop];omega) k;simp only [kv_cons,kv_nil] at ih;rw [lnR,lnI,hm,List.append_cons o];rw [au M eu.eq_1];simp (maxSteps:=3000000) (maxDischargeDepth:=6) +contextual -implicitDefEqProofs only [amC M,↓amD,Nat.reduceBEq,Nat.reduceAdd,env,ag,kH,amG,AV.cell,Nat.reduceMul,Nat.reduceLeDiff,hi,hx,d1,hw1,hw2,st1,st2,hia,hg,hst,ih,(show ((([10]:Str).length:Nat):Int)=1 from rfl),(show ((1:Nat):Int)=1 from rfl)]
theorem yX(hS:gW E)(hP:sj E)(hX:oB M)(hY:IG M){s:Str}(hs:s.length≤100000)(H:List AObj):M.run jg [.str s,.str [10]] H=some (.ret (.slice .any 1 ((lns s).map gJ)),H):=by
 have hcl:Lib.countByte s 10≤s.length:=List.count_le_length
 have h0:M.run kB [.str s,.str [10],.int .i64 1,.int .i64 (-1)] H=some (.ret (.slice .any 1 ((lns s).map gJ)),H):=by
  have hc:=fun H=>Ek M hP hY s 10 H
  have hw1:IntKind.i64.wrap ((Lib.countByte s 10:Int)+1)=((Lib.countByte s 10+1:Nat):Int):=by rw [cU (by omega) (by omega)];rfl
  have hw2:IntKind.i64.wrap ((s.length:Int)+1)=((s.length+1:Nat):Int):=by rw [cU (by omega) (by omega)];rfl
  have hw3:IntKind.i64.wrap (((Lib.countByte s 10+1:Nat):Int)-1)=(Lib.countByte s 10:Int):=by rw [cU (by omega) (by omega)];omega
  have hms:rms H aW 16 [.str []] (.int .i64 ((Lib.countByte s 10+1:Nat):Int)) (.int .i64 ((Lib.countByte s 10+1:Nat):Int))=some (.rslice H.length 0 (Lib.countByte s 10+1) 1 true,H++[wQ (Lib.countByte s 10+1) []]):=by
   rw [LF (by omega),MR];rfl
  have l0:=gsp M hS hX (N:=Lib.countByte s 10) (by omega) (H:=H) (H0:=H) (Lib.countByte s 10) 0 s [] (by omega) rfl rfl (by omega);simp only [kv_cons,kv_nil,Int.ofNat_zero,List.nil_append] at l0;have hia:=E6 (id:=H.length) (n:=Lib.countByte s 10+1) (i:=Lib.countByte s 10) (by omega) .i64;have hg:∀ y:AObj,(H++[y])[H.length]?=some y:=fun y=>by rw [aH];rfl
  have hll:=BK (Lib.countByte s 10) s
  have hst:stO 1 (H++[wQ (Lib.countByte s 10+1) (lnI (Lib.countByte s 10) s)]) H.length (Lib.countByte s 10) [.str (lnR (Lib.countByte s 10) s)] (some (wQ (Lib.countByte s 10+1) (lnI (Lib.countByte s 10) s)))=some (H++[.cells ((lns s).map AV.str) aW]):=by
   unfold wQ;rw [stO_cells (sz:=1) rfl (by simp;omega) rfl,hp_set0,setRow_cons,setRow_nil,hll,Nat.add_sub_cancel_left]
   have e:((lnI (Lib.countByte s 10) s).map AV.str++List.replicate 1 (AV.str [])).set (Lib.countByte s 10) (AV.str (lnR (Lib.countByte s 10) s))=(lns s).map AV.str:=by
    rw [List.set_append_right _ _ (by rw [List.length_map,hll];exact Nat.le_refl _),List.length_map,hll,Nat.sub_self];simp [lns]
   rw [e];rfl
  have hln:(lns s).length=Lib.countByte s 10+1:=by unfold lns;rw [List.length_append,hll];rfl
  have hsl:B4 1 (.rslice H.length 0 (Lib.countByte s 10+1) 1 true) none (some (.int .i64 ((Lib.countByte s 10+1:Nat):Int))) none=some (.rslice H.length 0 (Lib.countByte s 10+1) 1 true):=by
   exact LG (by omega)
  have hfz:ml bz .deep H (H++[.cells ((lns s).map AV.str) aW]) (.rslice H.length 0 (Lib.countByte s 10+1) 1 true)=some (.slice .any 1 ((lns s).map gJ),H):=by
   have h1:=FX (k:=2) (n:=H.length) (id:=H.length) (off:=0) (len:=Lib.countByte s 10+1) (esz:=1) (room:=true) (H:=H++[.cells ((lns s).map AV.str) aW]) (cs:=(lns s).map AV.str) (rows:=(lns s).map gJ) (T:=aW) (Nat.le_refl _) (hg _) (by simp;omega) (by
    rw [List.drop_zero,← hln,Fj];exact ua fun x _=>dg (HB _ _ _ _) (je _))
   have h2:=py (cut_app H [.cells ((lns s).map AV.str) aW]) ⟨3,h1⟩;rw [hp_take] at h2;exact h2
  have q0:((-1:Int) == 0)=false:=rfl;have q1:(([10]:Str) == [])=false:=rfl;have q2:decide ((-1:Int)<0)=true:=rfl
  have hmn:xg (.int .i64 ((Lib.countByte s 10+1:Nat):Int)) (.int .i64 ((s.length+1:Nat):Int))=some (.int .i64 ((Lib.countByte s 10+1:Nat):Int)):=by
   simp [xg];omega
  rw [aV M hP.strings_genSplit rfl (c:=kG) rfl,kG];simp (maxSteps:=3000000) (maxDischargeDepth:=6) +contextual -implicitDefEqProofs only [amC M,↓amD,Nat.reduceBEq,Nat.reduceAdd,env,ag,kH,amG,AV.cell,Nat.reduceMul,Nat.reduceLeDiff,q0,q1,q2,hc,hw1,hw2,hw3,hmn,hms,l0,hia,hg,hst,hsl,hfz,(show ((([10]:Str).length:Nat):Int)=1 from rfl),(show ((1:Nat):Int)=1 from rfl)]
 have hh:=handV_drop (cut_refl H) (wk_any (esz:=1) (tag:=.any) (E7 H.length (lns s)));simp only [anyV_slice,hp_self] at hh;rw [aV M hP.strings_SplitAfter rfl (c:=js) rfl,js];simp (maxSteps:=3000000) (maxDischargeDepth:=6) +contextual -implicitDefEqProofs only [amC M,↓amD,Nat.reduceBEq,Nat.reduceAdd,env,ag,rp,h0,hh,(show ((([10]:Str).length:Nat):Int)=1 from rfl),(show ((1:Nat):Int)=1 from rfl)]
end
section
attribute [local congr] ak aR aJ al aI aA ao ah ai aC aD
variable{E:aQ}(M:bo bz E)
theorem Da(hS:gW E)(hX:oB M)(s:Str)(c:UInt8)(H:List AObj):M.run cC [.str s,.str [c]] H=some (.ret (.int .i64 (Lib.indexByte s c)),H):=by
 have h1:=nJ M hS hX s c H;rw [aV M hS.internal_stringslite_Index rfl (c:=cG) rfl,cG];have e0:((([c].length:Nat):Int) == 0)=false:=rfl;have e1:((([c].length:Nat):Int) == 1)=true:=rfl;have e2:tY ([c]:Str)[0]?=some (.int .u8 (c.toNat:Int)):=rfl;cases he:([c]:Str) == s with
 |true=>
  have:Lib.indexByte s c=0:=by rw [← eq_of_beq he];simp [Lib.indexByte]
  rw [this];simp (maxSteps:=3000000) (maxDischargeDepth:=6) +contextual -implicitDefEqProofs only [amC M,↓amD,Nat.reduceBEq,Nat.reduceAdd,env,ag,dm,e0,e1,he]
 |false=>
  simp (maxSteps:=3000000) (maxDischargeDepth:=6) +contextual -implicitDefEqProofs only [amC M,↓amD,Nat.reduceBEq,Nat.reduceAdd,env,ag,dm,e0,e1,e2,h1,he]
theorem IJ:∀ (s:Str) (c:UInt8),Lib.indexByte s c<(s.length:Int)
 |[],c=>by simp [Lib.indexByte]
 |b::s,c=>by
  have ih:=IJ s c;have hg:=Lib.indexByte_ge s c;simp only [Lib.indexByte,List.length_cons];split
  ·omega
  ·split<;>omega
theorem yY(hS:gW E){s:Str}(hs:s.length≤bL)(p:Str)(H:List AObj):M.run bD [.str s,.str p] H=some (.ret (.bool (dR s p)),H):=by
 rw [aV M hS.internal_stringslite_HasSuffix rfl (c:=bS) rfl,bS];cases hd:decide (p.length≤s.length) with
 |true=>
  have hle:p.length≤s.length:=of_decide_eq_true hd
  have hw:IntKind.i64.wrap ((s.length:Int)-(p.length:Int))=((s.length-p.length:Nat):Int):=by
   simp only [bL] at hs;rw [cU (by omega) (by omega)];omega
  simp (maxSteps:=3000000) (maxDischargeDepth:=6) +contextual -implicitDefEqProofs only [amC M,↓amD,Nat.reduceBEq,Nat.reduceAdd,env,ag,cO,dR,hd,hw,lG (show s.length-p.length≤s.length by omega)]
 |false=>
  simp (maxSteps:=3000000) (maxDischargeDepth:=6) +contextual -implicitDefEqProofs only [amC M,↓amD,Nat.reduceBEq,Nat.reduceAdd,env,ag,cO,dR,hd]
def Db(s:Str)(c:UInt8):AV:=sel (decide (0≤Lib.indexByte s c)) (.tuple [.str (s.take (Lib.indexByte s c).toNat),.str (s.drop ((Lib.indexByte s c).toNat+1)),.bool true]) (.tuple [.str s,.str [],.bool false])
theorem IK(hS:gW E)(hP:sj E)(hX:oB M){s:Str}(hs:s.length≤100000000)(c:UInt8)(H:List AObj):M.run oh [.str s,.str [c]] H=some (.ret (Db s c),H):=by
 have h2:=Da M hS hX s c H
 have h0:M.run eZ [.str s,.str [c]] H=some (.ret (Db s c),H):=by
  rw [aV M hP.internal_stringslite_Cut rfl (c:=fi) rfl,fi];unfold Db;cases h:decide (0≤Lib.indexByte s c) with
  |false=>simp (maxSteps:=3000000) (maxDischargeDepth:=6) +contextual -implicitDefEqProofs only [amC M,↓amD,Nat.reduceBEq,Nat.reduceAdd,env,ag,jy,h2,h,hp_self,cut_refl,wk_tuple]
  |true=>
   obtain ⟨m,hm⟩:∃ m:Nat,Lib.indexByte s c=(m:Int):=⟨(Lib.indexByte s c).toNat,by have:=of_decide_eq_true h;omega⟩
   have hml:m<s.length:=by have:=IJ s c;omega
   rw [hm] at h h2;rw [hm,Int.toNat_natCast];have hw1:IntKind.i64.wrap ((m:Int)+1)=((m+1:Nat):Int):=by rw [cU (by omega) (by omega)];rfl
   have st1:=II (s:=s) (n:=m) (by omega);have st2:=LD (s:=s) (n:=m+1) (by omega);simp (maxSteps:=3000000) (maxDischargeDepth:=6) +contextual -implicitDefEqProofs only [amC M,↓amD,Nat.reduceBEq,Nat.reduceAdd,env,ag,jy,h2,h,hw1,st1,st2,(show ((([c]:Str).length:Nat):Int)=1 from rfl),(show ((1:Nat):Int)=1 from rfl),hp_self,cut_refl,wk_tuple]
 rw [aV M hP.strings_Cut rfl (c:=oq) rfl,oq];unfold Db at h0 ⊢;cases h:decide (0≤Lib.indexByte s c) with
 |false=>
  simp only [h,sel_false] at h0;simp (maxSteps:=3000000) (maxDischargeDepth:=6) +contextual -implicitDefEqProofs only [amC M,↓amD,Nat.reduceBEq,Nat.reduceAdd,env,ag,sG,h0,bb,List.getElem?_cons_zero,List.getElem?_cons_succ,hp_self,cut_refl,wk_tuple]
 |true=>
  simp only [h,sel_true] at h0;simp (maxSteps:=3000000) (maxDischargeDepth:=6) +contextual -implicitDefEqProofs only [amC M,↓amD,Nat.reduceBEq,Nat.reduceAdd,env,ag,sG,h0,bb,List.getElem?_cons_zero,List.getElem?_cons_succ,hp_self,cut_refl,wk_tuple]
def Gu(s:Str):AV:=sel (dR s [10]) (.tuple [.str (s.take (s.length-1)),.bool true]) (.tuple [.str s,.bool false])
theorem vN(hS:gW E)(hP:sj E){s:Str}(hs:s.length≤100000000)(H:List AObj):M.run jR [.str s,.str [10]] H=some (.ret (Gu s),H):=by
 have h2:M.run bD [.str s,.str [10]] H=some (.ret (.bool (dR s [10])),H):=yY M hS (by simp only [bL];omega) [10] H
 have h0:M.run dE [.str s,.str [10]] H=some (.ret (Gu s),H):=by
  rw [aV M hP.internal_stringslite_CutSuffix rfl (c:=dJ) rfl,dJ];unfold Gu;cases h:dR s [10] with
  |false=>simp (maxSteps:=3000000) (maxDischargeDepth:=6) +contextual -implicitDefEqProofs only [amC M,↓amD,Nat.reduceBEq,Nat.reduceAdd,env,ag,fK,h2,h,Bool.not_false,hp_self,cut_refl,wk_tuple]
  |true=>
   have hl:1≤s.length:=by unfold dR at h;rw [Bool.and_eq_true] at h;exact of_decide_eq_true h.1
   have hw1:IntKind.i64.wrap ((s.length:Int)-1)=((s.length-1:Nat):Int):=by rw [cU (by omega) (by omega)];omega
   have st1:=II (s:=s) (n:=s.length-1) (by omega);simp (maxSteps:=3000000) (maxDischargeDepth:=6) +contextual -implicitDefEqProofs only [amC M,↓amD,Nat.reduceBEq,Nat.reduceAdd,env,ag,fK,h2,h,Bool.not_true,hw1,st1,(show ((([10]:Str).length:Nat):Int)=1 from rfl),(show ((1:Nat):Int)=1 from rfl),hp_self,cut_refl,wk_tuple]
 rw [aV M hP.strings_CutSuffix rfl (c:=jT) rfl,jT];unfold Gu at h0 ⊢;cases h:dR s [10] with
 |false=>
  simp only [h,sel_false] at h0;simp (maxSteps:=3000000) (maxDischargeDepth:=6) +contextual -implicitDefEqProofs only [amC M,↓amD,Nat.reduceBEq,Nat.reduceAdd,env,ag,mS,h0,bb,List.getElem?_cons_zero,List.getElem?_cons_succ,hp_self,cut_refl,wk_tuple]
 |true=>
  simp only [h,sel_true] at h0;simp (maxSteps:=3000000) (maxDischargeDepth:=6) +contextual -implicitDefEqProofs only [amC M,↓amD,Nat.reduceBEq,Nat.reduceAdd,env,ag,mS,h0,bb,List.getElem?_cons_zero,List.getElem?_cons_succ,hp_self,cut_refl,wk_tuple]
def hdL:List Str:=[[],[104,49],[104,50],[104,51],[112],[108,105],[114,97,119]]
theorem El(hP:sj E)(H:List AObj):M.run pC [] H=some (.ret (.agg (hdL.map AV.str)),H):=by
 rw [aV M hP.docs_heads rfl (c:=pJ) rfl,pJ];have gx:=aH H [AObj.cells (hdL.map AV.str) nE];rw [List.getElem?_cons_zero] at gx;simp only [hdL,List.map_cons,List.map_nil] at gx ⊢;simp (maxSteps:=3000000) (maxDischargeDepth:=6) +contextual -implicitDefEqProofs only [amC M,↓amD,Nat.reduceBEq,Nat.reduceAdd,env,ag,Br,amG,AV.cell,Nat.reduceMul,Nat.reduceLeDiff,gx,hp_take,cut_app]
theorem yZ(hP:sj E)(H:List AObj):M.run fo [] H=some (.ret (.slice .any 1 (hdL.map gJ)),H):=by
 rw [aV M hP.truchmanref01_heads rfl (c:=iH) rfl,iH];have hh:=handV_drop (cut_refl H) (wk_any (esz:=1) (tag:=.full) (E7 H.length hdL));simp only [anyV_slice,hp_self] at hh;simp only [hdL,List.map_cons,List.map_nil,gJ] at hh ⊢;simp (maxSteps:=3000000) (maxDischargeDepth:=6) +contextual -implicitDefEqProofs only [amC M,↓amD,Nat.reduceBEq,Nat.reduceAdd,env,ag,qd,amG,AV.cell,Nat.reduceMul,Nat.reduceLeDiff,hh]
theorem Ke{id n i:Nat}(h:i<n)(k:IntKind):tI 1 (.rslice id 0 n 1 false) (.int k (i:Int))=some (.ptr id i):=by
 simp only [tI];rw [if_pos ⟨trivial,by omega,by simp;omega⟩];simp
theorem dix{L:List Str}(hL:L.length≤1000){v:Str}{H H0:List AObj}(hc:dt H0 H){P:Nat}{T:TypeId}(hP:H[P]?=some (.cells (L.map AV.str) T))(k:List Fra):∀ (n i:Nat) (He:List AObj),i+n=L.length →
  M.go bO H0 (.c bF :: .lp ⟨(some [0,1,7,8]),[],false⟩ bF He :: .blk 0 :: .c (.lv [])::k) (kv [(0,.rslice P 0 L.length 1 false),(1,.str v),(7,.int .i64 L.length),(8,.int .i64 i)]) H =
   sel (decide (b9 (fun x=>v == x) i (L.drop i)<0)) (M.go bO H0 k (kv []) H) (some (.ret (.int .i64 (b9 (fun x=>v == x) i (L.drop i))),H.take H0.length))
 |0,i,He,h=>by
  have e:i=L.length:=by omega
  subst e;rw [List.drop_length,b9,show decide ((-1:Int)<0)=true from rfl,sel_true];rw [au M bF.eq_1];simp (maxSteps:=3000000) (maxDischargeDepth:=6) +contextual -implicitDefEqProofs only [amC M,↓amD,Nat.reduceBEq,Nat.reduceAdd,env,ag,cF,Nat.lt_irrefl]
 |n+1,i,He,h=>by
  have hi:i<L.length:=by omega
  have hx:L[i]?=some L[i]:=List.getElem?_eq_getElem hi;have hd:L.drop i=L[i]::L.drop (i+1):=List.drop_eq_getElem_cons hi;have hwi:=gK (n:=L.length) hi (by simp only [bL];omega);have hia:=Ke (id:=P) hi .i64;have hld:bN none (L.map AV.str) i=some (.str L[i]):=by simp only [bN,List.getElem?_map,hx,Option.map_some]
  have ih:=fun He=>dix hL (v:=v) hc hP k n (i+1) He (by omega)
  simp only [kv_cons,kv_nil] at ih;rw [hd,b9];cases c:v == L[i] with
  |true=>
   rw [sel_true,show decide ((i:Int)<0)=false from decide_eq_false (by omega),sel_false];rw [au M bF.eq_1];simp (maxSteps:=3000000) (maxDischargeDepth:=6) +contextual -implicitDefEqProofs only [amC M,↓amD,Nat.reduceBEq,Nat.reduceAdd,env,ag,cF,hi,hia,hP,hld,c,hc]
  |false=>
   rw [sel_false];rw [au M bF.eq_1];simp (maxSteps:=3000000) (maxDischargeDepth:=6) +contextual -implicitDefEqProofs only [amC M,↓amD,Nat.reduceBEq,Nat.reduceAdd,env,ag,cF,hi,hia,hP,hld,c,hwi,ih]
theorem Fk{α:Type}(p:α→Bool):∀ (l:List α) (i:Nat),b9 p i l = -1∨(i:Int)≤b9 p i l
 |[],_=>.inl rfl
 |x::l,i=>by
  rw [b9];cases p x with
  |true=>rw [sel_true];exact .inr (Int.le_refl _)
  |false=>
   rw [sel_false];rcases Fk p l (i+1) with h | h
   ·exact .inl h
   ·exact .inr (by omega)
theorem IL(hPr:sj E){L:List Str}(hL:L.length≤1000){v:Str}{H:List AObj}{P:Nat}{T:TypeId}(hP:H[P]?=some (.cells (L.map AV.str) T)) :
  M.run dj [.rslice P 0 L.length 1 false,.str v] H=some (.ret (.int .i64 (b9 (fun x=>v == x) 0 L)),H):=by
 have h1:=fun k He=>dix M hL (v:=v) (cut_refl H) hP k L.length 0 He (by omega)
 simp only [kv_cons,kv_nil,Int.ofNat_zero,List.drop_zero,hp_self] at h1;rw [aV M hPr.slices_Index_string_string rfl (c:=eF) rfl,eF];cases c:decide (b9 (fun x=>v == x) 0 L<0) with
 |true=>
  have hm:b9 (fun x=>v == x) 0 L = -1:=by
   rcases Fk (fun x=>v == x) L 0 with h | h
   ·exact h
   ·have:=of_decide_eq_true c;omega
  simp only [c,sel_true] at h1;rw [hm];simp (maxSteps:=3000000) (maxDischargeDepth:=6) +contextual -implicitDefEqProofs only [amC M,↓amD,Nat.reduceBEq,Nat.reduceAdd,env,ag,cF,h1,hp_self,cut_refl]
 |false=>
  simp only [c,sel_false] at h1;simp (maxSteps:=3000000) (maxDischargeDepth:=6) +contextual -implicitDefEqProofs only [amC M,↓amD,Nat.reduceBEq,Nat.reduceAdd,env,ag,cF,h1,hp_self,cut_refl]
end
section
attribute [local congr] ak aR aJ al aI aA ao ah ai aC aD
variable{E:aQ}(M:bo bz E)
noncomputable def rdL(s:Str):List aa:=Classical.choose (rK s)
noncomputable def rdE(s:Str):Int:=Classical.choose (Classical.choose_spec (rK s))
theorem BL(s:Str):yV s = .tuple [.slice .any 3 ((rdL s).map aa.row),.int .u8 (rdE s)]∧(rdL s).length≤bL:=Classical.choose_spec (Classical.choose_spec (rK s))
noncomputable def blE(k:Int)(b:Str):Int:=sel (rdE b == 0) (inB k (rdL b)) (rdE b)
def mC(e:Int):AV:=.tuple [.agg [.int .u8 0,.slice .nil 3 []],.int .u8 e]
noncomputable def blV(k:Int)(b:Str):AV:=sel (blE k b == 0) (.tuple [.agg [.int .u8 k,.slice .any 3 ((rdL b).map aa.row)],.int .u8 0]) (mC (blE k b))
noncomputable def Gv(s:Str):AV:=
 let k:=b9 (fun x=>s.take (Lib.indexByte s 32).toNat == x) 0 hdL
 let r:=s.drop ((Lib.indexByte s 32).toNat+1)
 sel (decide (0≤Lib.indexByte s 32)) (sel (decide (k<1)) (mC 4) (sel (dR r [10]) (blV k (r.take (r.length-1))) (mC 4))) (mC 4)
theorem LI(v:Str):b9 (fun x=>v == x) 0 hdL<7:=by
 simp only [hdL,b9]
 repeat' (first | (cases (v == _)<;>simp only [sel_true,sel_false]) | omega)
theorem Dc{H0 H:List AObj}(hc:dt H0 H)(k:Int)(l:List aa){t:Tag}(ht:t.fzd=t)(e:Int):ml bz .deep H0 H (.tuple [.agg [.int .u8 k,.slice t 3 (l.map aa.row)],.int .u8 e])=some (.tuple [.agg [.int .u8 k,.slice t 3 (l.map aa.row)],.int .u8 e],H.take H0.length):=by
 have h:=ub (k:=3) (n:=H0.length) (H:=H) (t:=t) (sz:=3) (Im (k:=2) (n:=H0.length) (H:=H) l);rw [ht] at h;rw [py hc ⟨6,x6 (dg (DQ (dg (rh _ _ _ _ _) (dg h (je _)))) (dg (rh _ _ _ _ _) (je _)))⟩]
theorem AK(hB:j6 E)(hS:gW E)(hBl:wL E)(hR:E.fn bj=some aZ)(hSg:pU E)(hP:sj E)(hX:oB M)(hD:vi M){s:Str}(hs:s.length≤100000)(H:List AObj):M.run pA [.str s] H=some (.ret (Gv s),H):=by
 have hc:=fun H=>IK M hS hP hX (s:=s) (by omega) 32 H
 have h1:=fun H=>El M hP H
 have hdl:hdL.length=7:=rfl;have g0:∀ (x:AObj) X,(H++x::X)[H.length]?=some x:=fun x X=>by rw [aH];rfl
 have g1:∀ y z X,(H++y::z::X)[H.length+1]?=some z:=fun y z X=>by rw [hp_getk];rfl
 have g2:∀ x y z X,(H++x::y::z::X)[H.length+2]?=some z:=fun x y z X=>by rw [hp_getk];rfl
 have s0:∀ (x y:AObj) X,(H++x::X).set H.length y=H++y::X:=fun x y X=>by rw [hp_set0];rfl
 have s1:∀ (x y z:AObj) X,(H++x::y::X).set (H.length+1) z=H++x::z::X:=fun x y z X=>by rw [hp_setk];rfl
 have s2:∀ (x y z u:AObj) X,(H++x::y::z::X).set (H.length+2) u=H++x::y::u::X:=fun x y z u X=>by rw [hp_setk];rfl
 have hi:=fun (v:Str)=>IL M hP (L:=hdL) (by rw [hdl];omega) (v:=v) (H:=H++[AObj.cells [.int .u8 0,.slice .nil 3 []] bc,AObj.cells (hdL.map AV.str) nE]) (P:=H.length+1) (T:=nE) (by rw [hp_getk];rfl)
 rw [hdl] at hi;have hsa:GM 7 1 (.ptr (H.length+1) 0) none none=some (.rslice (H.length+1) 0 7 1 false):=by simp [GM,cS]
 unfold Db at hc;have he:=fun X e=>Dc (cut_app H X) 0 [] (t:=.nil) rfl e
 simp only [List.map_nil,hp_take] at he;unfold Gv mC;dsimp only;rw [aV M hP.docs_block rfl (c:=pH) rfl,pH];cases c0:decide (0≤Lib.indexByte s 32) with
 |false=>
  simp only [c0,sel_false] at hc;rw [sel_false];have hf:=fun H=>vN M hS hP (s:=[]) (by simp) H
  unfold Gu at hf;simp only [show dR [] [10]=false from rfl,sel_false] at hf;simp only [hdL,List.map_cons,List.map_nil] at h1 hi;simp (maxSteps:=3000000) (maxDischargeDepth:=6) +contextual -implicitDefEqProofs only [amC M,↓amD,Nat.reduceBEq,Nat.reduceAdd,env,ag,fI,amG,AV.cell,Nat.reduceMul,Nat.reduceLeDiff,hc,h1,hsa,hi,hf,g0,g1,s0,s1,bb,List.getElem?_cons_zero,List.getElem?_cons_succ,Bool.not_false,he]
 |true=>
  simp only [c0,sel_true] at hc;rw [sel_true];have hk7:=LI (s.take (Lib.indexByte s 32).toNat);generalize hkk:b9 (fun x=>s.take (Lib.indexByte s 32).toNat == x) 0 hdL=kk at hk7;have hi2:=hi (s.take (Lib.indexByte s 32).toNat);rw [hkk] at hi2;have hrl:(s.drop ((Lib.indexByte s 32).toNat+1)).length≤100000:=by rw [List.length_drop];omega
  generalize s.take (Lib.indexByte s 32).toNat=hd at hc hi2;generalize s.drop ((Lib.indexByte s 32).toNat+1)=r at hc hrl;have hf:=fun H=>vN M hS hP (s:=r) (by omega) H
  unfold Gu at hf;simp only [hdL,List.map_cons,List.map_nil] at h1 hi2;cases c1:decide (kk<1) with
  |true=>
   rw [sel_true];cases c2:dR r [10] with
   |false=>
    simp only [c2,sel_false] at hf;simp (maxSteps:=3000000) (maxDischargeDepth:=6) +contextual -implicitDefEqProofs only [amC M,↓amD,Nat.reduceBEq,Nat.reduceAdd,env,ag,fI,amG,AV.cell,Nat.reduceMul,Nat.reduceLeDiff,hc,h1,hsa,hi2,hf,g0,g1,s0,s1,c1,bb,List.getElem?_cons_zero,List.getElem?_cons_succ,Bool.not_true,he]
   |true=>
    simp only [c2,sel_true] at hf;simp (maxSteps:=3000000) (maxDischargeDepth:=6) +contextual -implicitDefEqProofs only [amC M,↓amD,Nat.reduceBEq,Nat.reduceAdd,env,ag,fI,amG,AV.cell,Nat.reduceMul,Nat.reduceLeDiff,hc,h1,hsa,hi2,hf,g0,g1,s0,s1,c1,bb,List.getElem?_cons_zero,List.getElem?_cons_succ,Bool.not_true,he]
  |false=>
  rw [sel_false];cases c2:dR r [10] with
  |false=>
   simp only [c2,sel_false] at hf;rw [sel_false];simp (maxSteps:=3000000) (maxDischargeDepth:=6) +contextual -implicitDefEqProofs only [amC M,↓amD,Nat.reduceBEq,Nat.reduceAdd,env,ag,fI,amG,AV.cell,Nat.reduceMul,Nat.reduceLeDiff,hc,h1,hsa,hi2,hf,g0,g1,s0,s1,c1,bb,List.getElem?_cons_zero,List.getElem?_cons_succ,Bool.not_true,Bool.not_false,he]
  |true=>
  simp only [c2,sel_true] at hf;rw [sel_true];have hbl:(r.take (r.length-1)).length≤bL:=by rw [List.length_take];simp only [bL];omega
  generalize r.take (r.length-1)=b at hf hbl;have hr:=fun H=>IF M hB hS hBl hX hD hR (s:=b) H hbl
  obtain ⟨hr1,hr2⟩:=BL b;rw [hr1] at hr;have hw:=fun H=>Gp M hSg (l:=rdL b) (tg:=.any) hr2 H
  have hraw:=fun H=>J5 M hSg (b:=⟨kk,⟨.any,rdL b⟩⟩) hr2 H
  have hkw:B5 .u8 (.int .i64 kk)=some (.int .u8 kk):=by
   have:=of_decide_eq_false c1
   have hh:IntKind.u8.wrap kk=kk:=by
    obtain ⟨m,rfl⟩:∃ m:Nat,kk=(m:Int):=⟨kk.toNat,by omega⟩
    have:m<7:=by omega
    have key:∀ m:Fin 7,IntKind.u8.wrap ((m.val:Nat):Int)=((m.val:Nat):Int):=by decide
    exact key ⟨m,this⟩
   simp only [B5,hh]
  unfold blV blE inB mC;cases c3:rdE b == 0 with
  |false=>
   rw [sel_false,c3,sel_false];simp (maxSteps:=3000000) (maxDischargeDepth:=6) +contextual -implicitDefEqProofs only [amC M,↓amD,Nat.reduceBEq,Nat.reduceAdd,env,ag,fI,amG,AV.cell,Nat.reduceMul,Nat.reduceLeDiff,hc,h1,hsa,hi2,hf,g0,g1,g2,s0,s1,s2,c1,hkw,hr,c3,bb,List.getElem?_cons_zero,List.getElem?_cons_succ,Bool.not_true,Bool.not_false,he]
  |true=>
  rw [sel_true];cases c4:mP (rdL b) with
  |false=>
   rw [sel_false,show ((8:Int) == 0)=false from rfl,sel_false];simp (maxSteps:=3000000) (maxDischargeDepth:=6) +contextual -implicitDefEqProofs only [amC M,↓amD,Nat.reduceBEq,Nat.reduceAdd,env,ag,fI,amG,AV.cell,Nat.reduceMul,Nat.reduceLeDiff,hc,h1,hsa,hi2,hf,g0,g1,g2,s0,s1,s2,c1,hkw,hr,c3,hw,c4,bb,List.getElem?_cons_zero,List.getElem?_cons_succ,Bool.not_true,Bool.not_false,he]
  |true=>
  rw [sel_true];simp only [aX.row] at hraw;cases c5:(!(kk == 6)||p9 (rdL b)) with
  |false=>
   rw [sel_false,show ((1:Int) == 0)=false from rfl,sel_false];simp only [c5] at hraw;simp (maxSteps:=3000000) (maxDischargeDepth:=6) +contextual -implicitDefEqProofs only [amC M,↓amD,Nat.reduceBEq,Nat.reduceAdd,env,ag,fI,amG,AV.cell,Nat.reduceMul,Nat.reduceLeDiff,hc,h1,hsa,hi2,hf,g0,g1,g2,s0,s1,s2,c1,hkw,hr,c3,hw,c4,hraw,bb,List.getElem?_cons_zero,List.getElem?_cons_succ,Bool.not_true,Bool.not_false,he]
  |true=>
   rw [sel_true,show ((0:Int) == 0)=true from rfl,sel_true];simp only [c5] at hraw;have he2:=fun X=>Dc (cut_app H X) kk (rdL b) (t:=.any) rfl 0
   simp only [hp_take] at he2;simp (maxSteps:=3000000) (maxDischargeDepth:=6) +contextual -implicitDefEqProofs only [amC M,↓amD,Nat.reduceBEq,Nat.reduceAdd,env,ag,fI,amG,AV.cell,Nat.reduceMul,Nat.reduceLeDiff,hc,h1,hsa,hi2,hf,g0,g1,g2,s0,s1,s2,c1,hkw,hr,c3,hw,c4,hraw,bb,List.getElem?_cons_zero,List.getElem?_cons_succ,Bool.not_true,Bool.not_false,he2]
end
section
attribute [local congr] ak aR aJ al aI aA ao ah ai aC aD
variable{E:aQ}(M:bo bz E)
def hdK(k:Nat):Str:=hdL.getD k []
noncomputable def uJ:Nat→Nat→Str→Option AV
 |0,_,_=>none
 |n+1,k,u=>sel (bY u (hdK k++[32])) (some (blV k (u.drop (hdK k++[32]).length))) (uJ n (k+1) u)
theorem rbl(hB:j6 E)(hS:gW E)(hSg:pU E)(hP:sj E){u:Str}(hu:u.length≤100000){H:List AObj}(k:List Fra):∀ (n i:Nat) (He:List AObj),i+n=7 →
  (∀ v,uJ n i u=some v→M.go bJ H (.c aN :: .lp ⟨(some [0,2,4]),[],false⟩ aN He :: .blk 0 :: .c (.lv [2])::k) (kv [(0,.str u),(2,.ptr H.length 0),(4,.int .i64 i)]) (H++[AObj.cells [.int .u8 0,.slice .nil 3 []] bc])=some (.ret v,H)) ∧
  (uJ n i u=none→M.go bJ H (.c aN :: .lp ⟨(some [0,2,4]),[],false⟩ aN He :: .blk 0 :: .c (.lv [2])::k) (kv [(0,.str u),(2,.ptr H.length 0),(4,.int .i64 i)]) (H++[AObj.cells [.int .u8 0,.slice .nil 3 []] bc])=M.go bJ H k (kv [(2,.ptr H.length 0)]) (H++[AObj.cells [.int .u8 0,.slice .nil 3 []] bc]))
 |0,i,He,h=>by
  have e:i=7:=by omega
  subst e;have h1:=fun H=>yZ M hP H
  have hl:(hdL.map gJ).length=7:=rfl;refine ⟨fun v hv=>(by cases hv),fun _ => ?_⟩;have d0:decide (((7:Nat):Int)<((7:Nat):Int))=false:=rfl;rw [au M aN.eq_1];simp (maxSteps:=3000000) (maxDischargeDepth:=6) +contextual -implicitDefEqProofs only [amC M,↓amD,Nat.reduceBEq,Nat.reduceAdd,env,ag,bK,h1,hl,List.length_map,Nat.lt_irrefl,d0,(show decide (7<hdL.length)=false from rfl)]
 |n+1,i,He,h=>by
  have hi:i<7:=by omega
  have h1:=fun H=>yZ M hP H
  have hl:(hdL.map gJ).length=7:=rfl
  have hx:hdL[i]?=some (hdK i):=by
   unfold hdK;rw [List.getD_eq_getElem?_getD,List.getElem?_eq_getElem (show i<hdL.length from hi)];rfl
  have hkl:(hdK i).length≤3:=by
   have key:∀ j:Fin 7,(hdK j.val).length≤3:=by decide
   exact key ⟨i,hi⟩
  have hir:=ct (row:=gJ) (l:=hdL) (tag:=.any) (sz:=1) (k:=.i64) (i:=i) hi;have qst:∀ s:Str,bN none (gJ s) 0=some (.str s):=fun _=>rfl
  have sa:=bp (s:=hdK i) (t:=[32]) (by simp;omega);have hwi:IntKind.i64.wrap ((i:Int)+1)=((i+1:Nat):Int):=by rw [cU (by omega) (by omega)];rfl
  have d7:decide ((i:Int)<((7:Nat):Int))=true:=decide_eq_true (by omega);have d8:(i<hdL.length)=True:=eq_true (show i<hdL.length from hi);obtain ⟨ih1,ih2⟩:=rbl hB hS hSg hP hu (H:=H) k n (i+1) He (by omega);simp only [kv_cons,kv_nil] at ih1 ih2;have ihE:∀ He,(∀ v,uJ n (i+1) u=some v→_)∧(uJ n (i+1) u=none→_):=fun He=>rbl hB hS hSg hP hu (H:=H) k n (i+1) He (by omega)
  simp only [kv_cons,kv_nil] at ihE;have hpl:(hdK i++[32]).length=(hdK i).length+1:=by simp
  generalize hp:hdK i++[32]=p at sa hpl;rw [uJ,hp];have g0:∀ (x:AObj) X,(H++x::X)[H.length]?=some x:=fun x X=>by rw [aH];rfl
  have s0:∀ (x y:AObj) X,(H++x::X).set H.length y=H++y::X:=fun x y X=>by rw [hp_set0];rfl
  have skip:∀ (c:bY u p=false),M.go bJ H (.c aN :: .lp ⟨(some [0,2,4]),[],false⟩ aN He :: .blk 0 :: .c (.lv [2])::k) (kv [(0,.str u),(2,.ptr H.length 0),(4,.int .i64 i)]) (H++[AObj.cells [.int .u8 0,.slice .nil 3 []] bc])=M.go bJ H (.c aN :: .lp ⟨(some [0,2,4]),[],false⟩ aN (H++[AObj.cells [.int .u8 0,.slice .nil 3 []] bc]) :: .blk 0 :: .c (.lv [2])::k) (kv [(0,.str u),(2,.ptr H.length 0),(4,.int .i64 ((i+1:Nat):Int))]) (H++[AObj.cells [.int .u8 0,.slice .nil 3 []] bc]):=fun c=>by
   cases c1:decide (u.length<p.length) with
   |true=>
    rw [au M aN.eq_1];simp (maxSteps:=3000000) (maxDischargeDepth:=6) +contextual -implicitDefEqProofs only [amC M,↓amD,Nat.reduceBEq,Nat.reduceAdd,env,ag,bK,h1,hl,List.length_map,d8,d7,hi,hx,hir,qst,sa,c1,hwi]
   |false=>
    have hle:p.length≤u.length:=by have:=of_decide_eq_false c1;omega
    have c2:(u.take p.length == p)=false:=by unfold bY at c;rw [decide_eq_true hle,Bool.true_and] at c;exact c
    have st1:=II (s:=u) (n:=p.length) hle;rw [au M aN.eq_1];simp (maxSteps:=3000000) (maxDischargeDepth:=6) +contextual -implicitDefEqProofs only [amC M,↓amD,Nat.reduceBEq,Nat.reduceAdd,env,ag,bK,h1,hl,List.length_map,d8,d7,hi,hx,hir,qst,sa,c1,st1,c2,hwi,Bool.not_false]
  cases c:bY u p with
  |false=>
   rw [sel_false];obtain ⟨j1,j2⟩:=ihE (H++[AObj.cells [.int .u8 0,.slice .nil 3 []] bc]);have sk:=skip c;simp only [kv_cons,kv_nil] at sk ⊢;exact ⟨fun v hv=>by rw [sk];exact j1 v hv,fun hv=>by rw [sk];exact j2 hv⟩
  |true=>
   rw [sel_true];refine ⟨fun v hv => ?_,fun hv=>(by cases hv)⟩;cases hv;unfold bY at c;rw [Bool.and_eq_true] at c;have hle:=of_decide_eq_true c.1;have c1:decide (u.length<p.length)=false:=decide_eq_false (by omega);have st1:=II (s:=u) (n:=p.length) hle;have st2:=LD (s:=u) (n:=p.length) hle;have c2:=c.2;have hbl:(u.drop p.length).length≤100000:=by rw [List.length_drop];omega
   generalize hbb:u.drop p.length=b at st2 hbl;have hr:=fun H=>Gs M hB hS (s:=b) H
   obtain ⟨hr1,hr2⟩:=BL b;simp only [Gt,hr1] at hr;have hin:=fun H=>C6 M hSg (l:=rdL b) (tg:=.any) (kd:=(i:Int)) hr2 H
   have hkw:B5 .u8 (.int .i64 (i:Int))=some (.int .u8 (i:Int)):=by
    have key:∀ m:Fin 7,IntKind.u8.wrap ((m.val:Nat):Int)=((m.val:Nat):Int):=by decide
    have:=key ⟨i,hi⟩;simp only [B5,this]
   have he:=fun X e=>Dc (cut_app H X) 0 [] (t:=.nil) rfl e
   simp only [List.map_nil,hp_take] at he;unfold blV blE mC;cases c3:rdE b == 0 with
   |false=>
    rw [sel_false,c3,sel_false];rw [au M aN.eq_1];simp (maxSteps:=3000000) (maxDischargeDepth:=6) +contextual -implicitDefEqProofs only [amC M,↓amD,Nat.reduceBEq,Nat.reduceAdd,env,ag,bK,amG,AV.cell,Nat.reduceMul,Nat.reduceLeDiff,h1,hl,List.length_map,d8,d7,hi,hx,hir,qst,sa,c1,st1,st2,c2,g0,s0,hr,c3,bb,List.getElem?_cons_zero,List.getElem?_cons_succ,Bool.not_true,Bool.not_false,he]
   |true=>
    rw [sel_true];cases c4:inB (i:Int) (rdL b) == 0 with
    |false=>
     rw [sel_false];rw [au M aN.eq_1];simp (maxSteps:=3000000) (maxDischargeDepth:=6) +contextual -implicitDefEqProofs only [amC M,↓amD,Nat.reduceBEq,Nat.reduceAdd,env,ag,bK,amG,AV.cell,Nat.reduceMul,Nat.reduceLeDiff,h1,hl,List.length_map,d8,d7,hi,hx,hir,qst,sa,c1,st1,st2,c2,g0,s0,hr,c3,hkw,hin,c4,bb,List.getElem?_cons_zero,List.getElem?_cons_succ,Bool.not_true,Bool.not_false,he]
    |true=>
     rw [sel_true];have he2:=fun X=>Dc (cut_app H X) (i:Int) (rdL b) (t:=.any) rfl 0
     simp only [hp_take] at he2;rw [au M aN.eq_1];simp (maxSteps:=3000000) (maxDischargeDepth:=6) +contextual -implicitDefEqProofs only [amC M,↓amD,Nat.reduceBEq,Nat.reduceAdd,env,ag,bK,amG,AV.cell,Nat.reduceMul,Nat.reduceLeDiff,h1,hl,List.length_map,d8,d7,hi,hx,hir,qst,sa,c1,st1,st2,c2,g0,s0,hr,c3,hkw,hin,c4,bb,List.getElem?_cons_zero,List.getElem?_cons_succ,Bool.not_true,Bool.not_false,he2]
noncomputable def IM(u:Str):AV:=(uJ 6 1 u).getD (mC 4)
theorem Dd(hB:j6 E)(hS:gW E)(hSg:pU E)(hP:sj E){u:Str}(hu:u.length≤100000)(H:List AObj):M.run gn [.str u] H=some (.ret (IM u),H):=by
 have h1:=fun k He=>rbl M hB hS hSg hP hu (H:=H) k 6 1 He rfl
 simp only [kv_cons,kv_nil] at h1;have he:=fun X e=>Dc (cut_app H X) 0 [] (t:=.nil) rfl e
 simp only [List.map_nil,hp_take] at he;have g0:∀ (x:AObj) X,(H++x::X)[H.length]?=some x:=fun x X=>by rw [aH];rfl
 have s0:∀ (x y:AObj) X,(H++x::X).set H.length y=H++y::X:=fun x y X=>by rw [hp_set0];rfl
 unfold IM mC;rw [aV M hP.truchmanref01_blockOf rfl (c:=gv) rfl,gv];cases hb:uJ 6 1 u with
 |some v=>
  have h2:=fun k He=>(h1 k He).1 v hb
  rw [show (((1:Nat):Int))=1 from rfl] at h2;simp (maxSteps:=3000000) (maxDischargeDepth:=6) +contextual -implicitDefEqProofs only [amC M,↓amD,Nat.reduceBEq,Nat.reduceAdd,env,ag,bK,amG,AV.cell,Nat.reduceMul,Nat.reduceLeDiff,h2,Option.getD_some]
 |none=>
  have h2:=fun k He=>(h1 k He).2 hb
  rw [show (((1:Nat):Int))=1 from rfl] at h2;simp (maxSteps:=3000000) (maxDischargeDepth:=6) +contextual -implicitDefEqProofs only [amC M,↓amD,Nat.reduceBEq,Nat.reduceAdd,env,ag,bK,amG,AV.cell,Nat.reduceMul,Nat.reduceLeDiff,h2,Option.getD_none,g0,s0,he]
end
section
attribute [local congr] ak aR aJ al aI aA ao ah ai aC aD
variable{E:aQ}(M:bo bz E)
theorem Gw(k:Int)(b:Str):∃ (B:aX) (e:Int),blV k b=sel (e == 0) (.tuple [.agg B.row,.int .u8 0]) (mC e)∧B.pieces.l.length≤bL∧B.pieces.tag = .any:=⟨⟨k,⟨.any,rdL b⟩⟩,blE k b,rfl,(BL b).2,rfl⟩
theorem rU(u:Str):∀ (n k:Nat),∃ (B:aX) (e:Int),(uJ n k u).getD (mC 4)=sel (e == 0) (.tuple [.agg B.row,.int .u8 0]) (mC e)∧B.pieces.l.length≤bL∧B.pieces.tag = .any
 |0,_=>⟨⟨0,⟨.any,[]⟩⟩,4,rfl,Nat.zero_le _,rfl⟩
 |n+1,k=>by
  rw [uJ];cases bY u (hdK k++[32]) with
  |true=>rw [sel_true];exact Gw _ _
  |false=>rw [sel_false];exact rU u n (k+1)
noncomputable def lnB(u:Str):aX:=Classical.choose (rU u 6 1)
noncomputable def lnE(u:Str):Int:=Classical.choose (Classical.choose_spec (rU u 6 1))
theorem rV(u:Str):IM u=sel (lnE u == 0) (.tuple [.agg (lnB u).row,.int .u8 0]) (mC (lnE u))∧(lnB u).pieces.l.length≤bL∧(lnB u).pieces.tag = .any:=Classical.choose_spec (Classical.choose_spec (rU u 6 1))
theorem IN:∀ (h:Str) (c:UInt8) (r:Str),(∀ x∈h,x≠c)→Lib.indexByte (h++c::r) c=(h.length:Int)
 |[],c,r,_=>by simp [Lib.indexByte]
 |x::h,c,r,hh=>by
  have hb:(x == c)=false:=by simpa using hh x (by simp)
  have ih:=IN h c r fun y hy=>hh y (by simp [hy])
  simp only [List.cons_append,Lib.indexByte,hb,ih]
  have:((h.length:Int) == -1)=false:=beq_eq_false_iff_ne.2 (by omega)
  simp [this]
theorem IP:∀ (s:Str) (c:UInt8),(∀ x∈s,x≠c)→Lib.indexByte s c = -1
 |[],c,_=>rfl
 |x::s,c,h=>by
  have hb:(x == c)=false:=by simpa using h x (by simp)
  simp only [Lib.indexByte,hb,IP s c fun y hy=>h y (by simp [hy])];rfl
theorem De(c:UInt8):∀ s:Str,(∀ x∈s,x≠c)∨∃ h r,s=h++c::r∧∀ x∈h,x≠c
 |[]=>.inl fun x hx=>by cases hx
 |x::s=>by
  by_cases e:x=c
  ·exact .inr ⟨[],s,by rw [e];rfl,fun y hy=>by cases hy⟩
  ·rcases De c s with h | ⟨h,r,e1,e2⟩
   ·exact .inl fun y hy=>by
     rcases List.mem_cons.1 hy with rfl | hy
     ·exact e
     ·exact h y hy
   ·refine .inr ⟨x::h,r,by rw [e1];rfl,fun y hy => ?_⟩
    rcases List.mem_cons.1 hy with rfl | hy
    ·exact e
    ·exact e2 y hy
theorem Em:∀ j:Fin 7,∀ x∈hdK j.val,x≠32:=by decide
theorem IQ{h p b:Str}(hh:∀ x∈h,x≠32)(hp:∀ x∈p,x≠32):bY (h++32::b) (p++[32])=(h == p):=by
 rw [Bool.eq_iff_iff,beq_iff_eq];unfold bY;rw [Bool.and_eq_true,beq_iff_eq];constructor
 ·rintro ⟨_,e⟩
  have e2:=List.take_append_drop (p++[32]).length (h++32::b);rw [e] at e2
  have key:∀ (p h:Str) (x y:Str),(∀ x∈h,x≠32)→(∀ x∈p,x≠32)→p++32::x=h++32::y→h=p:=by
   intro p;induction p with
   |nil=>
    intro h x y hh _ e;cases h with
    |nil=>rfl
    |cons z h=>simp at e;exact absurd e.1.symm (hh z (by simp))
   |cons w p ih=>
    intro h x y hh hp e;cases h with
    |nil=>simp at e;exact absurd e.1 (hp w (by simp))
    |cons z h=>
     simp at e;rw [e.1,ih h x y (fun a ha=>hh a (by simp [ha])) (fun a ha=>hp a (by simp [ha])) e.2]
  exact key p h _ b hh hp (by simpa using e2)
 ·rintro rfl
  refine ⟨decide_eq_true (by simp), ?_⟩;rw [show h++32::b=(h++[32])++b by simp];exact List.take_left' rfl
theorem LJ{s p:Str}(hs:∀ x∈s,x≠32):bY s (p++[32])=false:=by
 unfold bY;rw [Bool.and_eq_false_iff]
 by_cases hl:(p++[32]).length≤s.length
 ·right
  rw [beq_eq_false_iff_ne];intro e;exact hs 32 (List.mem_of_mem_take (by rw [e];simp)) rfl
 ·left;exact decide_eq_false hl
theorem Gx(b:Str):dR (b++[10]) [10]=true:=by simp [dR]
theorem Df{b:Str}(h:∀ x∈b,x≠10):dR b [10]=false:=by
 unfold dR;rw [Bool.and_eq_false_iff];right;rw [beq_eq_false_iff_ne];intro e;exact h 10 (List.mem_of_mem_drop (by rw [e];simp)) rfl
theorem BM{u:Str}(h:∀ k,1≤k→k<7→bY u (hdK k++[32])=false):∀ (n k:Nat),1≤k→k+n=7→uJ n k u=none
 |0,_,_,_=>rfl
 |n+1,k,h1,h2=>by rw [uJ,h k h1 (by omega),sel_false,BM h n (k+1) (by omega) (by omega)]
theorem LL:∀ i j:Fin 7,hdK i.val=hdK j.val→i=j:=by decide
theorem Kf:∀ k:Fin 7,b9 (fun x=>hdK k.val == x) 0 hdL=(k.val:Int):=by decide
theorem IR{u:Str}(hu:∀ x∈u,x≠10):Gv (u++[10])=IM u:=by
 unfold Gv IM;dsimp only;rcases De 32 u with h | ⟨h,b,e,hh⟩
 ·have hi:Lib.indexByte (u++[10]) 32 = -1:=IP _ _ fun x hx=>by
   rcases List.mem_append.1 hx with hx | hx
   ·exact h x hx
   ·simp at hx;rw [hx];decide
  rw [hi,show decide ((0:Int)≤-1)=false from rfl,sel_false,BM (fun k _ _=>LJ h) 6 1 (by omega) rfl];rfl
 ·subst e
  have e1:h++32::b++[10]=h++32::(b++[10]):=by simp
  have hi:Lib.indexByte (h++32::b++[10]) 32=(h.length:Int):=by rw [e1];exact IN h 32 _ hh
  have ht:(h++32::b++[10]).take h.length=h:=by rw [e1];exact List.take_left' rfl
  have hd:(h++32::b++[10]).drop (h.length+1)=b++[10]:=by rw [e1,show h++32::(b++[10])=(h++[32])++(b++[10]) by simp];exact List.drop_left' (by simp)
  have htk:(b++[10]).take ((b++[10]).length-1)=b:=by
   rw [List.length_append];exact List.take_left' (by simp)
  rw [hi,Int.toNat_natCast,ht,hd,show decide ((0:Int)≤(h.length:Int))=true from decide_eq_true (by omega),sel_true,Gx,sel_true,htk];have hpr:∀ k:Fin 7,bY (h++32::b) (hdK k.val++[32])=(h == hdK k.val):=fun k=>IQ hh (Em k)
  have hdr:∀ k:Nat,h=hdK k→(h++32::b).drop (hdK k++[32]).length=b:=fun k e=>by
   rw [← e,show h++32::b=(h++[32])++b by simp];exact List.drop_left' rfl
  have pick:∀ k:Fin 7,h=hdK k.val→b9 (fun x=>h == x) 0 hdL=(k.val:Int):=fun k e=>by
   subst e;exact Kf k
  by_cases hex:∃ k:Fin 7,h=hdK k.val
  ·obtain ⟨k,ek⟩:=hex
   rw [pick k ek]
   have hne:∀ j:Fin 7,j≠k→(h == hdK j.val)=false:=fun j hj=>by
    rw [beq_eq_false_iff_ne];intro e;exact hj (LL j k (by rw [← e,ek]))
   obtain ⟨k,hk⟩:=k
   by_cases hk0:k=0
   ·subst hk0
    rw [show decide (((0:Nat):Int)<1)=true from rfl,sel_true];rw [BM (fun j h1 h2=>by rw [hpr ⟨j,h2⟩];exact hne ⟨j,h2⟩ (fun e=>by injection e with e;omega)) 6 1 (by omega) rfl];rfl
   ·rw [decide_eq_false (by dsimp only;omega),sel_false]
    have go:∀ (n j:Nat),j≤k→j+n=7→uJ n j (h++32::b)=some (blV (k:Int) b):=by
     intro n;induction n with
     |zero=>intro j h1 h2;omega
     |succ n ih=>
      intro j h1 h2;rw [uJ,hpr ⟨j,by omega⟩]
      by_cases hjk:j=k
      ·subst hjk
       dsimp only at ek;rw [show (h == hdK j)=true by rw [ek];exact beq_self_eq_true _,sel_true,hdr j ek]
      ·rw [hne ⟨j,by omega⟩ (fun e=>hjk (by injection e)),sel_false]
       exact ih (j+1) (by omega) (by omega)
    rw [go 6 1 (by omega) rfl];rfl
  ·have hnone:b9 (fun x=>h == x) 0 hdL = -1:=by
    have hq:∀ j:Fin 7,(h == hdK j.val)=false:=fun j=>by
     rw [beq_eq_false_iff_ne];intro e;exact hex ⟨j,e⟩
    have q0:(h == ([]:Str))=false:=hq 0;have q1:(h == ([104,49]:Str))=false:=hq 1;have q2:(h == ([104,50]:Str))=false:=hq 2;have q3:(h == ([104,51]:Str))=false:=hq 3;have q4:(h == ([112]:Str))=false:=hq 4;have q5:(h == ([108,105]:Str))=false:=hq 5;have q6:(h == ([114,97,119]:Str))=false:=hq 6;simp only [hdL,b9,q0,q1,q2,q3,q4,q5,q6,sel_false]
   rw [hnone,show decide ((-1:Int)<1)=true from rfl,sel_true];rw [BM (fun j h1 h2=>by rw [hpr ⟨j,h2⟩,beq_eq_false_iff_ne];intro e;exact hex ⟨⟨j,h2⟩,e⟩) 6 1 (by omega) rfl];rfl
theorem IS{u:Str}(hu:∀ x∈u,x≠10):Gv u=mC 4:=by
 unfold Gv;dsimp only;rw [Df fun x hx=>hu x (List.mem_of_mem_drop hx),sel_false];cases decide (0≤Lib.indexByte u 32) with
 |false=>rfl
 |true=>
  rw [sel_true];cases decide (b9 (fun x=>u.take (Lib.indexByte u 32).toNat == x) 0 hdL<1)<;>rfl
end
section
attribute [local congr] ak aR aJ al aI aA ao ah ai aC aD
variable{E:aQ}(M:bo bz E)
noncomputable def tn:Nat→Nat→Str→Option (Nat×Int)
 |0,i,r=>if r=[] then none else if i=256 then some (i,3) else some (i,4)
 |n+1,i,r=>if i=256 then some (i,3) else sel (lnE (r.take (Lib.indexByte r 10).toNat) == 0) (tn n (i+1) (r.drop ((Lib.indexByte r 10).toNat+1))) (some (i,lnE (r.take (Lib.indexByte r 10).toNat)))
noncomputable def tp:Nat→Str→List aX
 |0,_=>[]
 |n+1,r=>lnB (r.take (Lib.indexByte r 10).toNat)::tp n (r.drop ((Lib.indexByte r 10).toNat+1))
def rL(i:Nat)(e:Int):AV:=.tuple [.agg [.slice .nil 2 []],.int .i64 (i:Int),.int .u8 e]
theorem Fl{H0 H:List AObj}(hc:dt H0 H)(i:Int)(e:Int):ml bz .deep H0 H (.tuple [.agg [.slice .nil 2 []],.int .i64 i,.int .u8 e])=some (.tuple [.agg [.slice .nil 2 []],.int .i64 i,.int .u8 e],H.take H0.length):=by
 rw [py hc ⟨6,x6 (dg (DQ (dg (ub (t:=.nil) (je _)) (je _))) (dg (rh _ _ _ _ _) (dg (rh _ _ _ _ _) (je _))))⟩];rfl
structure y7 (H0:List AObj) (o:Nat) (G:List AObj) (v:AV) (acc:List aX):Prop where
 ge:H0.length≤o
 cell:G[o]?=some (.cells [v] aj)
 own:Ec H0.length G v acc
 len:H0.length≤G.length
 low:∀ m,m<H0.length→G[m]?=H0[m]?
theorem y7.cellv{H0:List AObj}{o:Nat}{G:List AObj}{v:AV}{acc:List aX}(h:y7 H0 o G v acc):v.cell=true∧bX v=some [v]:=by
 rcases h.own with ⟨_,rfl⟩ | ⟨_,t,_,rfl,_⟩<;>exact ⟨rfl,rfl⟩
theorem y7.more{H0:List AObj}{o:Nat}{G:List AObj}{v:AV}{acc:List aX}(h:y7 H0 o G v acc)(hl:acc.length≤1000){B:aX}(hB:B.pieces.tag = .any) :
  ∃ w G2,rap false (G++[AObj.cells B.row bc]) bc 2 32 false v (.slice .full 2 [B.row])=some (w,G2)∧G2[o]?=some (.cells [v] aj)∧bX w=some [w]∧stO 1 G2 o 0 [w] (some (.cells [v] aj))=some (G2.set o (.cells [w] aj)) ∧
   y7 H0 o (G2.set o (.cells [w] aj)) w (acc++[B])∧∀ (i:Nat) (y:AObj),G[i]?=some y→(∀ n e,y≠AObj.tok n e)→i≠o→(G2.set o (.cells [w] aj))[i]?=some y:=by
 obtain ⟨k,⟨tg,l⟩⟩:=B;dsimp only at hB;subst hB;have hlen:=h.len;have hge:=h.ge;obtain ⟨t,G2,m1,m2,m3,m4,m5,m6⟩:=(h.own.app [AObj.cells (aX.row ⟨k,⟨.any,l⟩⟩) bc]).push (by simp;omega) (by omega) (x:=⟨k,⟨.any,l⟩⟩) (r:=aX.row ⟨k,⟨.any,l⟩⟩) rfl rfl rfl;have hlt:(G++[AObj.cells (aX.row ⟨k,⟨.any,l⟩⟩) bc]).length=G.length+1:=by simp
 have cl:∀ {j:Nat}{y:AObj},G[j]?=some y→(∀ n e,y≠AObj.tok n e)→G2[j]?=some y:=fun hj hy=>m5 _ _ (dW hj) hy
 have hoG:=cl h.cell (fun _ _ e=>(by cases e));have holt:=bM hoG;have nto:t≠o:=fun e=>by subst e;rw [hoG] at m3;cases m3
 refine ⟨_,G2,m1,hoG,rfl,by rw [stO_cells (sz:=1) rfl (by simp) rfl];rfl,⟨hge,List.getElem?_set_self holt,.inr ⟨by simp,t,m2,rfl,by rw [List.getElem?_set_ne nto.symm];exact m3⟩,by simp;omega,fun m hm => ?_⟩,fun i y hi hy hne => ?_⟩
 ·rw [List.getElem?_set_ne (by omega),m6 m hm,List.getElem?_append_left (by omega)];exact h.low m hm
 ·rw [List.getElem?_set_ne (fun e=>hne e.symm)];exact cl hi hy
theorem y7.zero{H0:List AObj}{o:Nat}{G:List AObj}{v:AV}{acc:List aX}(h:y7 H0 o G v acc)(X:List AObj)(i e:Int) :
  stO 1 (G++X) o 0 [.slice .nil 2 []] (some (.cells [v] aj))=some ((G++X).set o (.cells [.slice .nil 2 []] aj))∧((G++X).set o (.cells [.slice .nil 2 []] aj))[o]?=some (.cells [.slice .nil 2 []] aj) ∧
   ml bz .deep H0 ((G++X).set o (.cells [.slice .nil 2 []] aj)) (.tuple [.agg [.slice .nil 2 []],.int .i64 i,.int .u8 e])=some (.tuple [.agg [.slice .nil 2 []],.int .i64 i,.int .u8 e],H0):=by
 have hc:=h.cell;have hge:=h.ge;have hlen:=h.len
 obtain ⟨c1,c2⟩:=n7 (H0:=H0) (G:=(G++X).set o (.cells [.slice .nil 2 []] aj)) (by simp;omega) (fun m hm=>by
  rw [List.getElem?_set_ne (by omega),List.getElem?_append_left (by omega)];exact h.low m hm)
 refine ⟨by rw [stO_cells (sz:=1) rfl (by simp) rfl];rfl,List.getElem?_set_self (by have:=bM hc;simp;omega), ?_⟩;rw [Fl c1,c2]
theorem Fm{n:Nat}{r:Str}(hc:Lib.countByte r 10=n+1):∃ u r',r=u++10::r'∧(∀ x∈u,x≠10)∧r.take (Lib.indexByte r 10).toNat=u∧r.take ((Lib.indexByte r 10).toNat+1)=u++[10]∧r.drop ((Lib.indexByte r 10).toNat+1)=r'∧Lib.countByte r' 10=n:=by
 obtain ⟨u,r',h1,h2,h3,h4⟩:=yW r n hc;refine ⟨u,r',h1,h2, ?_, ?_, ?_,h4⟩
 ·rw [h3,Int.toNat_natCast,h1];exact List.take_left' rfl
 ·rw [h3,Int.toNat_natCast,h1,show u++10::r'=(u++[10])++r' by simp];exact List.take_left' (by simp)
 ·rw [h3,Int.toNat_natCast,h1,show u++10::r'=(u++[10])++r' by simp];exact List.drop_left' (by simp)
theorem dps(hB:j6 E)(hS:gW E)(hBl:wL E)(hR:E.fn bj=some aZ)(hSg:pU E)(hP:sj E)(hX:oB M)(hD:vi M){L:List Str}(hL:L.length≤100001){H0:List AObj}{o:Nat}:∀ (n i:Nat) (r:Str) (G:List AObj) (acc:List aX) (v:AV),
  L.drop i=lnI n r++[lnR n r]→Lib.countByte r 10=n→r.length≤100000→acc.length=i→i≤256→y7 H0 o G v acc →
  ∃ G' w,(∀ p,tn n i r=some p→∀ (k:List Fra) (He:List AObj),M.go jP H0 (.c cD :: .lp ⟨(some [2,14,15,16]),[],false⟩ cD He :: .blk 0 :: .c (.lv [2])::k) (kv [(2,.ptr o 0),(14,.slice .any 1 (L.map gJ)),(15,.int .i64 L.length),(16,.int .i64 i)]) G=some (.ret (rL p.1 p.2),H0)) ∧
   (tn n i r=none→(∀ (k:List Fra) (He:List AObj),M.go jP H0 (.c cD :: .lp ⟨(some [2,14,15,16]),[],false⟩ cD He :: .blk 0 :: .c (.lv [2])::k) (kv [(2,.ptr o 0),(14,.slice .any 1 (L.map gJ)),(15,.int .i64 L.length),(16,.int .i64 i)]) G=M.go jP H0 k (kv [(2,.ptr o 0)]) G')∧y7 H0 o G' w (acc++tp n r)):=by
 intro n;induction n with
 |zero=>
  intro i r G acc v hd hc hr ha hi h
  have hlt:i<L.length:=by
   have:=congrArg List.length hd;simp [lnI] at this;omega
  have hx:L[i]?=some r:=by
   have:=congrArg (fun l:List Str=>l[0]?) hd;simpa [lnI,lnR] using this
  have hir:=ct (row:=gJ) (tag:=.any) (sz:=1) (k:=.i64) hlt;have qst:∀ s:Str,bN none (gJ s) 0=some (.str s):=fun _=>rfl
  have hcell:=h.cell
  have hno:∀ x∈r,x≠10:=by
   intro x hx e;subst e
   have:0<r.count 10:=List.count_pos_iff.2 hx
   have:Lib.countByte r 10=r.count 10:=rfl
   omega
  refine ⟨G,v,fun p hp k He => ?_,fun hp=>⟨fun k He => ?_,by rw [tp,List.append_nil];exact h⟩⟩
  ·unfold tn at hp
   have hr0:r≠[]:=fun e=>by rw [if_pos e] at hp;cases hp
   rw [if_neg hr0] at hp;have q0:(r == ([]:Str))=false:=beq_eq_false_iff_ne.2 hr0
   by_cases hi6:i=256
   ·rw [if_pos hi6] at hp
    cases hp;have q1:((i:Int) == 256)=true:=by rw [hi6];rfl
    obtain ⟨z1,z2,z3⟩:=h.zero [] (i:Int) 3;rw [List.append_nil] at z1 z2 z3;unfold rL;rw [au M cD.eq_1];simp (maxSteps:=3000000) (maxDischargeDepth:=6) +contextual -implicitDefEqProofs only [amC M,↓amD,Nat.reduceBEq,Nat.reduceAdd,env,ag,eP,amG,AV.cell,Nat.reduceMul,Nat.reduceLeDiff,hlt,hx,hir,qst,q0,q1,hcell,z1,z2,z3]
   ·rw [if_neg hi6] at hp
    cases hp;have q1:((i:Int) == 256)=false:=beq_eq_false_iff_ne.2 (by omega);have hb:=fun H=>AK M hB hS hBl hR hSg hP hX hD hr H
    rw [IS hno] at hb;unfold mC at hb;obtain ⟨z1,z2,z3⟩:=h.zero [AObj.cells [.int .u8 0,.slice .nil 3 []] bc] (i:Int) 4;have hcell1:∀ X,(G++X)[o]?=some (.cells [v] aj):=fun X=>dW hcell
    unfold rL;rw [au M cD.eq_1];simp (maxSteps:=3000000) (maxDischargeDepth:=6) +contextual -implicitDefEqProofs only [amC M,↓amD,Nat.reduceBEq,Nat.reduceAdd,env,ag,eP,amG,AV.cell,Nat.reduceMul,Nat.reduceLeDiff,hlt,hx,hir,qst,q0,q1,hb,bb,List.getElem?_cons_zero,List.getElem?_cons_succ,Bool.not_false,(show ((4:Int) == 0)=false from rfl),hcell,hcell1,z1,z2,z3]
  ·unfold tn at hp
   have hr0:r=[]:=by
    by_cases e:r=[]
    ·exact e
    ·rw [if_neg e] at hp
     split at hp<;>cases hp
   have q0:(r == ([]:Str))=true:=by rw [hr0];rfl
   rw [au M cD.eq_1];simp (maxSteps:=3000000) (maxDischargeDepth:=6) +contextual -implicitDefEqProofs only [amC M,↓amD,Nat.reduceBEq,Nat.reduceAdd,env,ag,eP,amG,AV.cell,Nat.reduceMul,Nat.reduceLeDiff,hlt,hx,hir,qst,q0]
 |succ n ih=>
  intro i r G acc v hd hc hr ha hi h;obtain ⟨u,r',h1,h2,h3,h4,h5,h6⟩:=Fm hc
  have hlt:i<L.length:=by
   have:=congrArg List.length hd;simp [lnI] at this;omega
  have hx:L[i]?=some (u++[10]):=by
   have:=congrArg (fun l:List Str=>l[0]?) hd;simpa [lnI,h4] using this
  have hd2:L.drop (i+1)=lnI n r'++[lnR n r']:=by
   rw [← List.drop_drop,hd,lnI,lnR,h5];rfl
  have hir:=ct (row:=gJ) (tag:=.any) (sz:=1) (k:=.i64) hlt;have qst:∀ s:Str,bN none (gJ s) 0=some (.str s):=fun _=>rfl
  have hcell:=h.cell;have hcell1:∀ X,(G++X)[o]?=some (.cells [v] aj):=fun X=>dW hcell
  have hwi:=gK (n:=L.length) hlt (by simp only [bL];omega);have q0:((u++[10]) == ([]:Str))=false:=beq_eq_false_iff_ne.2 (by simp);have hul:(u++[10]).length≤100000:=by rw [h1] at hr;simp at hr ⊢;omega
  have hrl:r'.length≤100000:=by rw [h1] at hr;simp at hr;omega
  have hb:=fun H=>AK M hB hS hBl hR hSg hP hX hD hul H
  rw [IR h2,(rV u).1] at hb;unfold mC at hb;rw [tn,tp,h3,h5];have gx:=fun (y:AObj) X=>aH G (y::X)
  simp only [List.getElem?_cons_zero] at gx;have sx:∀ (y z:AObj) (X:List AObj),(G++y::X).set G.length z=G++z::X:=fun y z X=>by rw [hp_set0];rfl
  by_cases hi6:i=256
  ·have q1:((i:Int) == 256)=true:=by rw [hi6];rfl
   rw [if_pos hi6];refine ⟨G,v,fun p hp k He => ?_,fun hp=>by cases hp⟩;cases hp;obtain ⟨z1,z2,z3⟩:=h.zero [] (i:Int) 3;rw [List.append_nil] at z1 z2 z3;unfold rL;generalize u++[10]=s at hx q0;rw [au M cD.eq_1];simp (maxSteps:=3000000) (maxDischargeDepth:=6) +contextual -implicitDefEqProofs only [amC M,↓amD,Nat.reduceBEq,Nat.reduceAdd,env,ag,eP,amG,AV.cell,Nat.reduceMul,Nat.reduceLeDiff,hlt,hx,hir,qst,q0,q1,hcell,z1,z2,z3]
  ·have q1:((i:Int) == 256)=false:=beq_eq_false_iff_ne.2 (by omega)
   rw [if_neg hi6];cases ce:lnE u == 0 with
   |false=>
    simp only [ce,sel_false] at hb;rw [sel_false];refine ⟨G,v,fun p hp k He => ?_,fun hp=>by cases hp⟩;cases hp;obtain ⟨z1,z2,z3⟩:=h.zero [AObj.cells [.int .u8 0,.slice .nil 3 []] bc] (i:Int) (lnE u);unfold rL;generalize u++[10]=s at hx q0 hb;rw [au M cD.eq_1];simp (maxSteps:=3000000) (maxDischargeDepth:=6) +contextual -implicitDefEqProofs only [amC M,↓amD,Nat.reduceBEq,Nat.reduceAdd,env,ag,eP,amG,AV.cell,Nat.reduceMul,Nat.reduceLeDiff,hlt,hx,hir,qst,q0,q1,hb,ce,bb,List.getElem?_cons_zero,List.getElem?_cons_succ,Bool.not_false,gx,sx,hcell,hcell1,z1,z2,z3]
   |true=>
    simp only [ce,sel_true] at hb;rw [sel_true];obtain ⟨b1,b2⟩:=(rV u).2;obtain ⟨w,G2,m1,m2,m3,m4,m5,_⟩:=h.more (by omega) b2;obtain ⟨G',w',i1,i2⟩:=ih (i+1) r' (G2.set o (.cells [w] aj)) (acc++[lnB u]) w hd2 h6 hrl (by simp [ha]) (by omega) m5;simp only [kv_cons,kv_nil] at i1 i2;have bst:(lnB u).pieces.tag.strip=(lnB u).pieces.tag:=by rw [b2];rfl
    have brow:(lnB u).row=[.int .u8 (lnB u).kind,.slice (lnB u).pieces.tag 3 ((lnB u).pieces.l.map aa.row)]:=rfl;generalize u++[10]=s at hx q0 hb;refine ⟨G',w',fun p hp k He => ?_,fun hp=>⟨fun k He => ?_, ?_⟩⟩
    ·have i3:=i1 p hp k
     rw [brow] at m1 hb;rw [au M cD.eq_1];simp (maxSteps:=3000000) (maxDischargeDepth:=6) +contextual -implicitDefEqProofs only [amC M,↓amD,Nat.reduceBEq,Nat.reduceAdd,env,ag,eP,amG,AV.cell,Nat.reduceMul,Nat.reduceLeDiff,hlt,hx,hir,hwi,qst,q0,q1,hb,bb,List.getElem?_cons_zero,List.getElem?_cons_succ,Bool.not_true,(show ((0:Int) == 0)=true from rfl),gx,sx,hcell,hcell1,(show ∀ x:AV,bN none [x] 0=some x from fun _=>rfl),(show ∀ x y:AV,bN (some 2) [x,y] 0=some (.agg [x,y]) from fun _ _=>rfl),mr,bst,m1,m2,m3,m4,i3]
    ·have i3:=(i2 hp).1 k
     rw [brow] at m1 hb;rw [au M cD.eq_1];simp (maxSteps:=3000000) (maxDischargeDepth:=6) +contextual -implicitDefEqProofs only [amC M,↓amD,Nat.reduceBEq,Nat.reduceAdd,env,ag,eP,amG,AV.cell,Nat.reduceMul,Nat.reduceLeDiff,hlt,hx,hir,hwi,qst,q0,q1,hb,bb,List.getElem?_cons_zero,List.getElem?_cons_succ,Bool.not_true,(show ((0:Int) == 0)=true from rfl),gx,sx,hcell,hcell1,(show ∀ x:AV,bN none [x] 0=some x from fun _=>rfl),(show ∀ x y:AV,bN (some 2) [x,y] 0=some (.agg [x,y]) from fun _ _=>rfl),mr,bst,m1,m2,m3,m4,i3]
    ·have:=(i2 hp).2
     rwa [List.append_assoc] at this
end
section
attribute [local congr] ak aR aJ al aI aA ao ah ai aC aD
variable{E:aQ}(M:bo bz E)
def Gy(l:List aX):Tag:=match l with
 |[]=>.nil
 |_=>.any
end
section
attribute [local congr] ak aR aJ al aI aA ao ah ai aC aD
variable{E:aQ}(M:bo bz E)
noncomputable def Gz(s:Str):AV:=match tn (Lib.countByte s 10) 0 s with
 |some p=>rL p.1 p.2
 |none=>.tuple [.agg [.slice (Gy (tp (Lib.countByte s 10) s)) 2 ((tp (Lib.countByte s 10) s).map aX.row)],.int .i64 0,.int .u8 0]
theorem y8:∀ (n:Nat) (s:Str),∀ b∈tp n s,b.pieces.tag = .any
 |0,_,b,h=>by cases h
 |n+1,s,b,h=>by
  rw [tp] at h;rcases List.mem_cons.1 h with rfl | h
  ·exact (rV _).2.2
  ·exact y8 n _ b h
theorem IT{H0 G:List AObj}(h1:H0.length≤G.length)(h2:∀ m,m<H0.length→G[m]?=H0[m]?){l:List aX}(hl:∀ b∈l,b.pieces.tag = .any){v:AV}{H:List AObj}{m:Nat}(h:Ec m H v l) :
  ml bz .deep H0 G (.tuple [.agg [v],.int .i64 0,.int .u8 0])=some (.tuple [.agg [.slice (Gy l) 2 (l.map aX.row)],.int .i64 0,.int .u8 0],H0):=by
 obtain ⟨hc,ht⟩:=n7 h1 h2
 have hr:∀ k,ee (ee (fzF (k+3) H0.length G)) (l.map aX.row)=some (l.map aX.row):=fun k=>ua fun x hx=>dg (rh _ _ _ _ _) (dg (by
  have h:=ub (k:=k+2) (n:=H0.length) (H:=G) (t:=x.pieces.tag) (sz:=3) (Im (k:=k+1) (n:=H0.length) (H:=G) x.pieces.l);rw [hl x hx] at h ⊢;exact h) (je _))
 have hv:fzF 6 H0.length G v=some (.slice (Gy l) 2 (l.map aX.row)):=by
  rcases h with ⟨rfl,rfl⟩ | ⟨h0,t,_,rfl,_⟩
  ·exact ub (t:=.nil) (je _)
  ·have h:=ub (k:=5) (n:=H0.length) (H:=G) (t:=.own t) (sz:=2) (hr 2)
   rw [h];cases l with
   |nil=>exact absurd rfl h0
   |cons b l=>rfl
 rw [py hc ⟨8,x6 (dg (DQ (dg hv (je _))) (dg (rh _ _ _ _ _) (dg (rh _ _ _ _ _) (je _))))⟩,ht]
theorem En(hB:j6 E)(hS:gW E)(hBl:wL E)(hR:E.fn bj=some aZ)(hSg:pU E)(hP:sj E)(hX:oB M)(hD:vi M)(hY:IG M){s:Str}(hs:s.length≤60000)(H:List AObj):M.run pz [.str s] H=some (.ret (Gz s),H):=by
 have hsp:=fun H=>yX M hS hP hX hY (s:=s) (by omega) H
 have hcl:Lib.countByte s 10≤s.length:=List.count_le_length;have hll:(lns s).length=Lib.countByte s 10+1:=by unfold lns;rw [List.length_append,BK];rfl
 have d1:decide ((65536:Int)<(s.length:Int))=false:=decide_eq_false (by omega)
 obtain ⟨G',w,i1,i2⟩:=dps M hB hS hBl hR hSg hP hX hD (L:=lns s) (by omega) (H0:=H) (o:=H.length) (Lib.countByte s 10) 0 s (H++[AObj.cells [.slice .nil 2 []] aj]) [] (.slice .nil 2 []) (by rw [List.drop_zero];rfl) rfl (by omega) rfl (by omega)
  ⟨Nat.le_refl _,by rw [aH];rfl,.inl ⟨rfl,rfl⟩,by simp,fun m hm=>List.getElem?_append_left hm⟩
 simp only [kv_cons,kv_nil,Int.ofNat_zero,List.nil_append] at i1 i2;unfold Gz;rw [aV M hP.docs_Parse rfl (c:=pG) rfl,pG];cases hp:tn (Lib.countByte s 10) 0 s with
 |some p=>
  have i3:=i1 p hp;simp (maxSteps:=3000000) (maxDischargeDepth:=6) +contextual -implicitDefEqProofs only [amC M,↓amD,Nat.reduceBEq,Nat.reduceAdd,env,ag,eP,amG,AV.cell,Nat.reduceMul,Nat.reduceLeDiff,d1,hsp,List.length_map,i3]
 |none=>
  obtain ⟨i3,j⟩:=i2 hp;obtain ⟨cv1,cv2⟩:=j.cellv;have jc:=j.cell
  have st2:stO 1 G' H.length 0 [w] (some (.cells [w] aj))=some (G'.set H.length (.cells [w] aj)):=by
   rw [stO_cells (sz:=1) rfl (by simp) (by simp [cv1])];rfl
  have sf:G'.set H.length (.cells [w] aj)=G':=uD jc;rw [sf] at st2;have dd:=IT (H0:=H) (G:=G') j.len j.low (y8 _ _) j.own;simp (maxSteps:=3000000) (maxDischargeDepth:=6) +contextual -implicitDefEqProofs only [amC M,↓amD,Nat.reduceBEq,Nat.reduceAdd,env,ag,eP,amG,AV.cell,Nat.reduceMul,Nat.reduceLeDiff,d1,hsp,List.length_map,i3,jc,(show ∀ x:AV,bN (some 1) [x] 0=some (.agg [x]) from fun _=>rfl),cv2,st2,sf,dd]
end
section
attribute [local congr] ak aR aJ al aI aA ao ah ai aC aD
variable{E:aQ}(M:bo bz E)
theorem MS{s:Str}{a b:Nat}(h:a≤b)(hb:b≤s.length):mE (.str s) (some (.int .i64 (a:Int))) (some (.int .i64 (b:Int)))=some (.str ((s.drop a).take (b-a))):=by simp [mE,cS,h,hb]
theorem Fo{p:UInt8→Bool}:∀ (s:Str) (i:Nat),(∀ x∈s,p x=false)→b9 p i s = -1
 |[],_,_=>rfl
 |x::s,i,h=>by rw [b9,h x (by simp),sel_false,Fo s (i+1) fun y hy=>h y (by simp [hy])]
theorem rps(hB:j6 E)(hS:gW E)(hSg:pU E)(hP:sj E){s:Str}(hs:s.length≤60000){H0:List AObj}{o q:Nat}(hqo:q≠o):∀ (n i a:Nat) (G:List AObj) (acc:List aX) (v:AV),
  a≤s.length→Lib.countByte (s.drop a) 10=n→acc.length=i→i≤256→y7 H0 o G v acc→G[q]?=some (.cells [.slice .nil 2 []] aj) →
  ∃ G' w,(∀ p,tn n i (s.drop a)=some p→∀ (k:List Fra) (He:List AObj),M.go dh H0 (.c aY :: .lp ⟨(some [0,2,5,6]),[],false⟩ aY He :: .blk 0 :: .c (.lv [2,5])::k) (kv [(0,.str s),(2,.ptr q 0),(5,.ptr o 0),(6,.int .i64 a)]) G=some (.ret (rL p.1 p.2),H0)) ∧
   (tn n i (s.drop a)=none→(∀ (k:List Fra) (He:List AObj),M.go dh H0 (.c aY :: .lp ⟨(some [0,2,5,6]),[],false⟩ aY He :: .blk 0 :: .c (.lv [2,5])::k) (kv [(0,.str s),(2,.ptr q 0),(5,.ptr o 0),(6,.int .i64 a)]) G=M.go dh H0 k (kv [(2,.ptr q 0),(5,.ptr o 0)]) G')∧y7 H0 o G' w (acc++tp n (s.drop a))∧G'[q]?=some (.cells [.slice .nil 2 []] aj)):=by
 intro n;induction n with
 |zero=>
  intro i a G acc v ha hc hacc hi h hq;have hcell:=h.cell
  have hlen:nK G .sl v=some (.int .i64 (i:Int)):=by
   rcases h.own with ⟨e,rfl⟩ | ⟨_,t,_,rfl,_⟩
   ·rw [← hacc,e];rfl
   ·simp only [nK,List.length_map,hacc]
  have l1:∀ x:AV,bN none [x] 0=some x:=fun _=>rfl
  have hno:∀ x∈s.drop a,x≠10:=by
   intro x hx e;subst e
   have:0<(s.drop a).count 10:=List.count_pos_iff.2 hx
   have:Lib.countByte (s.drop a) 10=(s.drop a).count 10:=rfl
   omega
  have st0:=BD hq;have sf:=uD hq;have hz:=fun i e=>Fl (n7 h.len h.low).1 i e
  simp only [(n7 h.len h.low).2] at hz;refine ⟨G,v,fun p hp k He => ?_,fun hp=>⟨fun k He => ?_,by rw [tp,List.append_nil];exact h,hq⟩⟩
  ·unfold tn at hp
   have hr0:s.drop a≠[]:=fun e=>by rw [if_pos e] at hp;cases hp
   rw [if_neg hr0] at hp
   have hal:a<s.length:=by
    rcases Nat.lt_or_ge a s.length with h | h
    ·exact h
    ·exact absurd (List.drop_eq_nil_of_le h) hr0
   by_cases hi6:i=256
   ·rw [if_pos hi6] at hp
    cases hp;have q1:((i:Int) == 256)=true:=by rw [hi6];rfl
    unfold rL;rw [au M aY.eq_1];simp (maxSteps:=3000000) (maxDischargeDepth:=6) +contextual -implicitDefEqProofs only [amC M,↓amD,Nat.reduceBEq,Nat.reduceAdd,env,ag,bI,amG,AV.cell,Nat.reduceMul,Nat.reduceLeDiff,hal,hcell,l1,hlen,q1,hq,st0,sf,hz]
   ·rw [if_neg hi6] at hp
    cases hp;have q1:((i:Int) == 256)=false:=beq_eq_false_iff_ne.2 (by omega);have hup:=fun H=>uF M hS (s:=s) (by simp only [bL];omega) (i:=a) ha 10 H
    rw [Fo _ _ (fun x hx=>by simpa using hno x hx)] at hup;rw [show (((10:UInt8).toNat:Nat):Int)=10 from rfl] at hup;unfold rL;rw [au M aY.eq_1];simp (maxSteps:=3000000) (maxDischargeDepth:=6) +contextual -implicitDefEqProofs only [amC M,↓amD,Nat.reduceBEq,Nat.reduceAdd,env,ag,bI,amG,AV.cell,Nat.reduceMul,Nat.reduceLeDiff,hal,hcell,l1,hlen,q1,hup,(show decide ((-1:Int)<0)=true from rfl),hq,st0,sf,hz]
  ·unfold tn at hp
   have hr0:s.drop a=[]:=by
    by_cases e:s.drop a=[]
    ·exact e
    ·rw [if_neg e] at hp
     split at hp<;>cases hp
   have hal:¬ a<s.length:=fun hl=>by
    have:=congrArg List.length hr0;rw [List.length_drop] at this;simp at this;omega
   rw [au M aY.eq_1];simp (maxSteps:=3000000) (maxDischargeDepth:=6) +contextual -implicitDefEqProofs only [amC M,↓amD,Nat.reduceBEq,Nat.reduceAdd,env,ag,bI,amG,AV.cell,Nat.reduceMul,Nat.reduceLeDiff,hal]
 |succ n ih=>
  intro i a G acc v ha hc hacc hi h hq;obtain ⟨u,r',h1,h2,h3,h4,h5,h6⟩:=Fm hc
  have hlens:s.length=a+(u.length+1+r'.length):=by
   have:=congrArg List.length h1;rw [List.length_drop] at this;simp at this;omega
  have hal:a<s.length:=by omega
  have hcell:=h.cell;have hcell1:∀ X,(G++X)[o]?=some (.cells [v] aj):=fun X=>dW hcell
  have hq1:∀ X,(G++X)[q]?=some (.cells [.slice .nil 2 []] aj):=fun X=>dW hq
  have hlen:∀ G,nK G .sl v=some (.int .i64 (i:Int)):=fun G=>by
   rcases h.own with ⟨e,rfl⟩ | ⟨_,t,_,rfl,_⟩
   ·rw [← hacc,e];rfl
   ·simp only [nK,List.length_map,hacc]
  have l1:∀ x:AV,bN none [x] 0=some x:=fun _=>rfl
  have hup:=fun H=>uF M hS (s:=s) (by simp only [bL];omega) (i:=a) ha 10 H
  rw [h1,wX u 10 r' a (fun x hx=>by simpa using h2 x hx) rfl] at hup;rw [show (((10:UInt8).toNat:Nat):Int)=10 from rfl] at hup;have d1:decide (((a+u.length:Nat):Int)<0)=false:=decide_eq_false (by omega);have st1:=MS (s:=s) (a:=a) (b:=a+u.length) (by omega) (by omega);rw [show a+u.length-a=u.length by omega,h1,List.take_left' rfl] at st1;have hw1:IntKind.i64.wrap (((a+u.length:Nat):Int)+1)=((a+u.length+1:Nat):Int):=by rw [cU (by omega) (by omega)];rfl
  have hdr:s.drop (a+u.length+1)=r':=by
   rw [Nat.add_assoc,← List.drop_drop,h1,show u++10::r'=(u++[10])++r' by simp];exact List.drop_left' (by simp)
  have hb:=fun H=>Dd M hB hS hSg hP (u:=u) (by omega) H
  rw [(rV u).1] at hb;unfold mC at hb;rw [tn,tp,h3,h5];have gx:=fun (y:AObj) X=>aH G (y::X)
  simp only [List.getElem?_cons_zero] at gx;have sx:∀ (y z:AObj) (X:List AObj),(G++y::X).set G.length z=G++z::X:=fun y z X=>by rw [hp_set0];rfl
  have hlenX:∀ X:List AObj,H0.length≤(G++X).length:=fun X=>by have:=h.len;simp;omega
  have lowX:∀ (X:List AObj) (m:Nat),m<H0.length→(G++X)[m]?=H0[m]? := fun X m hm=>by have:=h.len;rw [List.getElem?_append_left (by omega)];exact h.low m hm
  have st0:=fun X=>BD (hq1 X)
  have sf:=fun X=>uD (hq1 X)
  have hz:=fun X i e=>Fl (n7 (hlenX X) (lowX X)).1 i e
  simp only [fun X=>(n7 (hlenX X) (lowX X)).2] at hz;have st00:=BD hq;have sf0:=uD hq;have hz0:=fun i e=>Fl (n7 h.len h.low).1 i e
  simp only [(n7 h.len h.low).2] at hz0
  by_cases hi6:i=256
  ·have q1:((i:Int) == 256)=true:=by rw [hi6];rfl
   rw [if_pos hi6];refine ⟨G,v,fun p hp k He => ?_,fun hp=>by cases hp⟩;cases hp;unfold rL;rw [au M aY.eq_1];simp (maxSteps:=3000000) (maxDischargeDepth:=6) +contextual -implicitDefEqProofs only [amC M,↓amD,Nat.reduceBEq,Nat.reduceAdd,env,ag,bI,amG,AV.cell,Nat.reduceMul,Nat.reduceLeDiff,hal,hcell,l1,hlen,q1,hq,st00,sf0,hz0]
  ·have q1:((i:Int) == 256)=false:=beq_eq_false_iff_ne.2 (by omega)
   rw [if_neg hi6];cases ce:lnE u == 0 with
   |false=>
    simp only [ce,sel_false] at hb;rw [sel_false];refine ⟨G,v,fun p hp k He => ?_,fun hp=>by cases hp⟩;cases hp;unfold rL;rw [au M aY.eq_1];simp (maxSteps:=3000000) (maxDischargeDepth:=6) +contextual -implicitDefEqProofs only [amC M,↓amD,Nat.reduceBEq,Nat.reduceAdd,env,ag,bI,amG,AV.cell,Nat.reduceMul,Nat.reduceLeDiff,hal,hcell,l1,hlen,q1,hup,d1,st1,hb,ce,bb,List.getElem?_cons_zero,List.getElem?_cons_succ,Bool.not_false,gx,sx,hq1,st0,sf,hz]
   |true=>
    simp only [ce,sel_true] at hb;rw [sel_true];obtain ⟨b1,b2⟩:=(rV u).2;obtain ⟨w,G2,m1,m2,m3,m4,m5,m6⟩:=h.more (by omega) b2;obtain ⟨G',w',i1,i2⟩:=ih (i+1) (a+u.length+1) (G2.set o (.cells [w] aj)) (acc++[lnB u]) w (by omega) (by rw [hdr];exact h6) (by simp [hacc]) (by omega) m5 (m6 _ _ hq (fun _ _ e=>by cases e) hqo);rw [hdr] at i1 i2;simp only [kv_cons,kv_nil] at i1 i2;have bst:(lnB u).pieces.tag.strip=(lnB u).pieces.tag:=by rw [b2];rfl
    have brow:(lnB u).row=[.int .u8 (lnB u).kind,.slice (lnB u).pieces.tag 3 ((lnB u).pieces.l.map aa.row)]:=rfl;refine ⟨G',w',fun p hp k He => ?_,fun hp=>⟨fun k He => ?_, ?_,(i2 hp).2.2⟩⟩
    ·have i3:=i1 p hp k
     rw [brow] at m1 hb;rw [au M aY.eq_1];simp (maxSteps:=3000000) (maxDischargeDepth:=6) +contextual -implicitDefEqProofs only [amC M,↓amD,Nat.reduceBEq,Nat.reduceAdd,env,ag,bI,amG,AV.cell,Nat.reduceMul,Nat.reduceLeDiff,hal,hcell,hcell1,l1,hlen,q1,hup,d1,st1,hb,hw1,bb,List.getElem?_cons_zero,List.getElem?_cons_succ,Bool.not_true,(show ((0:Int) == 0)=true from rfl),gx,sx,(show ∀ x y:AV,bN (some 2) [x,y] 0=some (.agg [x,y]) from fun _ _=>rfl),mr,bst,m1,m2,m3,m4,i3]
    ·have i3:=(i2 hp).1 k
     rw [brow] at m1 hb;rw [au M aY.eq_1];simp (maxSteps:=3000000) (maxDischargeDepth:=6) +contextual -implicitDefEqProofs only [amC M,↓amD,Nat.reduceBEq,Nat.reduceAdd,env,ag,bI,amG,AV.cell,Nat.reduceMul,Nat.reduceLeDiff,hal,hcell,hcell1,l1,hlen,q1,hup,d1,st1,hb,hw1,bb,List.getElem?_cons_zero,List.getElem?_cons_succ,Bool.not_true,(show ((0:Int) == 0)=true from rfl),gx,sx,(show ∀ x y:AV,bN (some 2) [x,y] 0=some (.agg [x,y]) from fun _ _=>rfl),mr,bst,m1,m2,m3,m4,i3]
    ·have:=(i2 hp).2.1
     rwa [List.append_assoc] at this
theorem Eo(hB:j6 E)(hS:gW E)(hSg:pU E)(hP:sj E){s:Str}(hs:s.length≤60000)(H:List AObj):M.run iB [.str s] H=some (.ret (Gz s),H):=by
 have d1:decide ((65536:Int)<(s.length:Int))=false:=decide_eq_false (by omega);have hq0:∀ X,(H++AObj.cells [.slice .nil 2 []] aj::X)[H.length]?=some (.cells [.slice .nil 2 []] aj):=fun X=>by rw [aH];rfl
 obtain ⟨G',w,i1,i2⟩:=rps M hB hS hSg hP hs (H0:=H) (o:=H.length+1) (q:=H.length) (by omega) (Lib.countByte s 10) 0 0 (H++[AObj.cells [.slice .nil 2 []] aj,AObj.cells [.slice .nil 2 []] aj]) [] (.slice .nil 2 []) (by omega) (by rw [List.drop_zero]) rfl (by omega)
  ⟨by omega,by rw [hp_getk];rfl,.inl ⟨rfl,rfl⟩,by simp,fun m hm=>List.getElem?_append_left hm⟩ (hq0 _)
 simp only [kv_cons,kv_nil,Int.ofNat_zero,List.nil_append,List.drop_zero] at i1 i2;unfold Gz;rw [aV M hP.truchmanref01_Parse rfl (c:=iG) rfl,iG];cases hp:tn (Lib.countByte s 10) 0 s with
 |some p=>
  have i3:=i1 p hp;simp (maxSteps:=3000000) (maxDischargeDepth:=6) +contextual -implicitDefEqProofs only [amC M,↓amD,Nat.reduceBEq,Nat.reduceAdd,env,ag,bI,amG,AV.cell,Nat.reduceMul,Nat.reduceLeDiff,d1,List.append_assoc,List.cons_append,List.nil_append,i3]
 |none=>
  obtain ⟨i3,j,jq⟩:=i2 hp;obtain ⟨cv1,cv2⟩:=j.cellv;have jc:=j.cell
  have st2:stO 1 G' H.length 0 [w] (some (.cells [.slice .nil 2 []] aj))=some (G'.set H.length (.cells [w] aj)):=by
   rw [stO_cells (sz:=1) rfl (by simp) (by simp [cv1])];rfl
  have gs:(G'.set H.length (.cells [w] aj))[H.length]?=some (.cells [w] aj):=List.getElem?_set_self (bM jq);have dd:=IT (H0:=H) (G:=G'.set H.length (.cells [w] aj)) (by simpa using j.len) (fun m hm=>by rw [List.getElem?_set_ne (by omega)];exact j.low m hm) (y8 _ _) j.own;simp (maxSteps:=3000000) (maxDischargeDepth:=6) +contextual -implicitDefEqProofs only [amC M,↓amD,Nat.reduceBEq,Nat.reduceAdd,env,ag,bI,amG,AV.cell,Nat.reduceMul,Nat.reduceLeDiff,d1,List.append_assoc,List.cons_append,List.nil_append,i3,jc,jq,(show ∀ x:AV,bN (some 1) [x] 0=some (.agg [x]) from fun _=>rfl),cv2,st2,gs,dd]
theorem Dg:∀ (n:Nat) (s:Str),(tp n s).length=n
 |0,_=>rfl
 |n+1,s=>by rw [tp,List.length_cons,Dg n]
theorem Fp:∀ (n:Nat) (s:Str),∀ b∈tp n s,b.pieces.l.length≤bL
 |0,_,b,h=>by cases h
 |n+1,s,b,h=>by
  rw [tp] at h;rcases List.mem_cons.1 h with rfl | h
  ·exact (rV _).2.1
  ·exact Fp n _ b h
theorem Ep{s:Str}(hs:s.length≤60000):∃ (l:List aX) (i:Int) (e:Int),Gz s = .tuple [.agg [.slice (Gy l) 2 (l.map aX.row)],.int .i64 i,.int .u8 e]∧l.length≤bL∧∀ b∈l,b.pieces.l.length≤bL:=by
 have hcl:Lib.countByte s 10≤s.length:=List.count_le_length;unfold Gz;cases tn (Lib.countByte s 10) 0 s with
 |some p=>exact ⟨[],p.1,p.2,rfl,Nat.zero_le _,fun b hb=>by cases hb⟩
 |none=>exact ⟨_,0,0,rfl,by rw [Dg];simp only [bL];omega,Fp _ _⟩
theorem y9(hB:j6 E)(hS:gW E)(hBl:wL E)(hR:E.fn bj=some aZ)(hSg:pU E)(hP:sj E)(hX:oB M)(hD:vi M)(hY:IG M){s:Str}(hs:s.length≤bL){H:List AObj}
  (hL:∀ H,M.run cI [] H=some (.ret (.bool true),H)):M.run eY [.str s] H=some (.ret (.bool true),H):=by
 rw [aV M hP.truchmanlaw01_DocsParses rfl (c:=fc) rfl,fc];cases c1:decide ((3500:Int)<(s.length:Int)) with
 |true=>simp (maxSteps:=3000000) (maxDischargeDepth:=6) +contextual -implicitDefEqProofs only [amC M,↓amD,Nat.reduceBEq,Nat.reduceAdd,env,ag,jm,c1,hL]
 |false=>
  have hl:s.length≤3500:=by have:=of_decide_eq_false c1;omega
  have v1:=fun H=>En M hB hS hBl hR hSg hP hX hD hY (s:=s) (by omega) H
  have v2:=fun H=>Eo M hB hS hSg hP (s:=s) (by omega) H
  obtain ⟨l,i,e,h1,h2,h3⟩:=Ep (s:=s) (by omega);rw [h1] at v1 v2
  have v6:=fun H=>Iq M hB hSg (a:=⟨⟨Gy l,l⟩⟩) (b:=⟨⟨Gy l,l⟩⟩) ⟨rfl,fun i x y hx hy=>by
   dsimp only at hx hy;rw [hx] at hy;cases hy;exact ⟨rfl,rfl,h3 x (List.mem_of_getElem? hx)⟩⟩ h2 H
  simp only [fN.row] at v6;have g0:∀ (x:AObj) X,(H++x::X)[H.length]?=some x:=fun x X=>by rw [aH];rfl
  have g1:∀ y z X,(H++y::z::X)[H.length+1]?=some z:=fun y z X=>by rw [hp_getk];rfl
  have s0:∀ (x y:AObj) X,(H++x::X).set H.length y=H++y::X:=fun x y X=>by rw [hp_set0];rfl
  have s1:∀ (x y z:AObj) X,(H++x::y::X).set (H.length+1) z=H++x::z::X:=fun x y z X=>by rw [hp_setk];rfl
  have l1:∀ x:AV,bN (some 1) [x] 0=some (.agg [x]):=fun _=>rfl
  simp (maxSteps:=3000000) (maxDischargeDepth:=6) +contextual -implicitDefEqProofs only [amC M,↓amD,Nat.reduceBEq,Nat.reduceAdd,env,ag,jm,amG,AV.cell,Nat.reduceMul,Nat.reduceLeDiff,c1,v1,v2,v6,hL,g0,g1,s0,s1,l1,bb,List.getElem?_cons_zero,List.getElem?_cons_succ,beq_self_eq_true,hp_take,cut_app]
end
section
open Go.ChangeShapes Go.WideShapes
structure Kg (P:Program):Prop where
 u_string:P.underlying aW=some .string
 c_string:P.cellsOf aW=1
section
variable{P:Program}{W:World}{G:Nat→Option (List AV)}
end
end
section
open Go.Shelf Go.RowKit Go.Lib Go.Proofs
def za:Go.Shelf.Ren:=⟨fun | 197=>56 | 260=>102 | n=>n,fun | 9=>9 | 21=>21 | 3=>3 | 4=>4 | 5=>5 | 105=>114 | 119=>196 | 0=>0 | 46=>197 | 139=>200 | 138=>199 | n=>n,fun | 3=>0 | 4=>1 | n=>n⟩
theorem IU:Go.Proofs.Lays.n197 Tryz.prog za where
 mixed:=by kernel_rfl
 f197:=Tryz.func56.trans (congrArg some (by kernel_rfl))
 f260:=Tryz.func102.trans (congrArg some (by kernel_rfl))
 t0:=Tryz.underlying0
 a0:=Tryz.isAgg0
 z0:=Tryz.sizeOf0
 v0:=Tryz.zeroValue0
 t3:=Tryz.underlying3
 a3:=Tryz.isAgg3
 z3:=Tryz.sizeOf3
 v3:=Tryz.zeroValue3
 t4:=Tryz.underlying4
 a4:=Tryz.isAgg4
 z4:=Tryz.sizeOf4
 v4:=Tryz.zeroValue4
 t5:=Tryz.underlying5
 a5:=Tryz.isAgg5
 z5:=Tryz.sizeOf5
 v5:=Tryz.zeroValue5
 t9:=Tryz.underlying9
 a9:=Tryz.isAgg9
 z9:=Tryz.sizeOf9
 v9:=Tryz.zeroValue9
 t21:=Tryz.underlying21
 a21:=Tryz.isAgg21
 z21:=Tryz.sizeOf21
 v21:=Tryz.zeroValue21
 t46:=Tryz.underlying197
 a46:=Tryz.isAgg197
 z46:=Tryz.sizeOf197
 v46:=Tryz.zeroValue197
 t105:=Tryz.underlying114
 a105:=Tryz.isAgg114
 z105:=Tryz.sizeOf114
 v105:=Tryz.zeroValue114
 t119:=Tryz.underlying196
 a119:=Tryz.isAgg196
 z119:=Tryz.sizeOf196
 t138:=Tryz.underlying199
 a138:=Tryz.isAgg199
 z138:=Tryz.sizeOf199
 v138:=Tryz.zeroValue199
 t139:=Tryz.underlying200
 a139:=Tryz.isAgg200
 z139:=Tryz.sizeOf200
 v139:=Tryz.zeroValue200
 g3:=by kernel_rfl
 g4:=by kernel_rfl
theorem Er:∀ args w,(callFunc 56 args).run Tryz.prog w = .ok (.enter 56 args) w:=enters_of Tryz.func56 (by kernel_rfl) rfl
theorem GA:∀ (s:ByteArray) (w:World),Lib.Utf8Tabs 0 1 w→Calls Tryz.prog 56 #[.string s] w fun e w'=>e = .returned (.tuple #[.int .i32 (Lib.decodeGo s).1,.int .i64 (Lib.decodeGo s).2])∧Below w.heap.size w w':=fun s w hT=>Any.utf8_DecodeRuneInString IU s w hT
theorem GB {W:World} (h3:VarReads Tryz.prog W "unicode/utf8.first" firstData) (h4:VarReads Tryz.prog W "unicode/utf8.acceptRanges" acceptData):Lib.Utf8Tabs 0 1 W:=
 utf8Tabs_of_readsT (ρ:=za) { IU with } ⟨by kernel_rfl,by kernel_rfl,by kernel_rfl,by kernel_rfl,by kernel_rfl,by kernel_rfl,by kernel_rfl⟩ h3 h4
end
section
open Go.Proofs
def IV:List (Nat×AFn):=[(3,fe),(5,jP),(6,dh),(7,eo),(8,jr),(16,b7),(18,jt),(19,pI),(20,ep),(21,bJ),(22,l8),(23,eh)]
theorem LM:lN (di Tryz.prog G0) IV:=by repeat' first | (unfold di;kernel_rfl) | exact trivial | refine ⟨?_, ?_⟩
def IW:List (Nat×AFn):=[(24,aZ),(25,iy),(26,gO),(27,dA),(28,ma),(29,ed),(34,lA),(44,fJ),(46,fh),(47,ot),(48,pK),(49,bO)]
theorem LN:lN (di Tryz.prog G0) IW:=by repeat' first | (unfold di;kernel_rfl) | exact trivial | refine ⟨?_, ?_⟩
def IX:List (Nat×AFn):=[(50,jU),(51,pM),(52,sW),(53,iI),(54,cW),(55,gA),(57,kx),(58,dB),(59,cY),(60,gd),(61,gg),(62,iz)]
theorem LO:lN (di Tryz.prog G0) IX:=by repeat' first | (unfold di;kernel_rfl) | exact trivial | refine ⟨?_, ?_⟩
def IY:List (Nat×AFn):=[(63,eE),(64,fU),(90,uj),(91,mI),(92,fj),(93,dK),(94,cg),(95,nH),(96,pO),(97,gQ),(98,ey),(99,cL)]
theorem LP:lN (di Tryz.prog G0) IY:=by repeat' first | (unfold di;kernel_rfl) | exact trivial | refine ⟨?_, ?_⟩
def IZ:List (Nat×AFn):=[(100,dZ),(101,ez),(103,dk),(105,gh),(106,dC),(107,eT),(108,dD),(109,cM),(110,cN),(129,lC),(131,aP),(132,eB)]
theorem LQ:lN (di Tryz.prog G0) IZ:=by repeat' first | (unfold di;kernel_rfl) | exact trivial | refine ⟨?_, ?_⟩
def I0:List (Nat×AFn):=[(133,dy),(134,iM),(135,dz),(136,cP),(138,jD),(139,eb),(140,gj),(141,ej),(150,fw)]
theorem LR:lN (di Tryz.prog G0) I0:=by repeat' first | (unfold di;kernel_rfl) | exact trivial | refine ⟨?_, ?_⟩
def I1:List (Nat×List (Nat×AFn)):=[(23,IV),(49,IW),(62,IX),(99,IY),(132,IZ),(150,I0)]
def Mz(f:FuncId):Option AFn:=CA I1 f
theorem Kh:∀ f af,Mz f=some af→di Tryz.prog G0 f af:=fun f af h=>x9 (show Bk _ I1 from ⟨LM,LN,LO,LP,LQ,LR,trivial⟩) h
def LS(f:FuncId)(args:List AV)(H:List AObj):Option Out:=
 match args with
 |[]=>bif Nat.beq f cI then some (.ret (.bool true),H) else none
 |[.str s]=>bif Nat.beq f bw then some (.ret (.tuple [.int .i32 ((vS s).1:Nat),.int .i64 ((vS s).2:Nat)]),H) else none
 |_=>JQ f args H
theorem Ki{f:FuncId}{args:List AV}{H H':List AObj}{r:mD}(h:LS f args H=some (r,H')):cR Tryz.prog G0 f args H fun r2 H2=>r2=r∧H2=H':=by
 unfold LS at h;split at h
 ·cases h1:Nat.beq f cI with
  |true=>rw [h1] at h;cases h;rw [Nat.eq_of_beq_eq_true h1];exact HW H
  |false=>rw [h1] at h;cases h
 ·rename_i s
  cases h1:Nat.beq f bw with
  |true=>rw [h1] at h;cases h;rw [Nat.eq_of_beq_eq_true h1];exact JK rfl Er GA s H
  |false=>rw [h1] at h;cases h
 ·exact EV h
noncomputable def EN:aQ := { P:=Tryz.prog,G:=G0,fn:=Mz,orc:=LS,dfn:=fun _=>none,seq:=JT,sar:=fun _=>1 }
theorem MA:EN.Ok:=⟨EW,fun f af h=>Kh f af h,(fun _ _ _ h=>by cases h),(fun _ _ _ _ _ h=>by cases h),fun _ _ _ _ _ h=>Ki h,(fun _ _ _ h=>by cases h),EX⟩
end
end Go.Am
