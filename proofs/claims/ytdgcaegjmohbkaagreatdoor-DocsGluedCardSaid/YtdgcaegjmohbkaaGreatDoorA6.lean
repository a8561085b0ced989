import Derived.Test.YtdgcaegjmohbkaaGreatDoorA5
import Derived.Test.YtdgcaegjmohbkaaGreatDoorChecked
import Derived.Shelf.Unicode.DecodeAny
import Derived.Lib.LaidU8T
import Derived.KernelRfl
/-
  Part 6 of the tool: an abstract machine over the model, proved sound, and what it says of the functions that the law reaches. Condition: none but those that each theorem names.
-/
set_option linter.unusedVariables false
set_option linter.unusedSimpArgs false
set_option maxRecDepth 100000
set_option maxHeartbeats 4000000
namespace Go.Am
open Go.RowKit
section
attribute [local congr] aD bH aS aE aR aL aF au aw aM aN
variable{E:a8}(M:bY cC E)
theorem GC:∀ (l:List Int) (n:Int) (p:Option Int),okA n p l=true→(∀ (i:Nat) (x y:Int),l[i]?=some x→l[i+1]?=some y→x<y)∧(∀ x∈l,1≤x∧x≤n-1)∧∀ q x,p=some q→l[0]?=some x→q<x
 |[],n,p,_=>⟨fun i x y h=>(by simp at h),fun x h=>(by cases h),fun q x _ h=>(by simp at h)⟩
 |k::t,n,p,h=>by
  rw [uw,Bool.and_eq_true,Bool.and_eq_true,Bool.and_eq_true] at h;obtain ⟨h1,h2,h3,h4⟩:=h;obtain ⟨i1,i2,i3⟩:=GC t n (some k) h4;simp only [Bool.not_eq_true',decide_eq_false_iff_not] at h1 h2;refine ⟨fun i x y hx hy => ?_,fun x hx => ?_,fun q x hq hx => ?_⟩
  ·cases i with
   |zero=>
    rw [List.getElem?_cons_zero] at hx;rw [List.getElem?_cons_succ] at hy;exact i3 x y (by rw [← hx]) hy
   |succ i=>
    rw [List.getElem?_cons_succ] at hx hy;exact i1 i x y hx hy
  ·rcases List.mem_cons.1 hx with rfl | hx
   ·omega
   ·exact i2 x hx
  ·rw [List.getElem?_cons_zero] at hx
   subst hq;dsimp only at h3;simp only [Bool.not_eq_true',decide_eq_false_iff_not] at h3;injection hx with hx;omega
def uz(pos:List Int)(T:CSt):Bool:=decide (T.done.length<pos.length)&&((T.place:Int) == pos.getD T.done.length 0)
structure vy (pos:List Int) (S T:CSt):Prop where
 done:S.done=T.done
 cur:S.cur=T.cur
 opn:S.opn=T.opn
 place:S.place=T.place
 due:S.due=uz pos T
 pos:S.pos=pos.drop (T.done.length+(if S.due=true then 1 else 0))
theorem Ea(pos:List Int)(S:CSt)(x:ae):rz pos S x=(uz pos S && !(x.kind == 3)):=by
 unfold rz uz;rw [Bool.and_assoc]
theorem JW{pos:List Int}(hinc:∀ (i:Nat) (x y:Int),pos[i]?=some x→pos[i+1]?=some y→x<y){T:CSt}(h:uz pos T=true):uz pos (mV T)=false:=by
 unfold uz at h ⊢;rw [Bool.and_eq_true] at h;obtain ⟨h1,h2⟩:=h;have h1:=of_decide_eq_true h1;have hx:pos[T.done.length]?=some pos[T.done.length]:=List.getElem?_eq_getElem h1;rw [List.getD_eq_getElem?_getD,hx] at h2;have h2:(T.place:Int)=pos[T.done.length]:=eq_of_beq h2;have hd:(mV T).done.length=T.done.length+1:=by simp [mV]
 have hp:(mV T).place=T.place:=rfl;rw [hd,hp]
 by_cases hlt:T.done.length+1<pos.length
 ·have hy:pos[T.done.length+1]?=some pos[T.done.length+1]:=List.getElem?_eq_getElem hlt
  have:=hinc _ _ _ hx hy;rw [List.getD_eq_getElem?_getD,hy,decide_eq_true hlt,Bool.true_and];simp only [Option.getD_some,beq_eq_false_iff_ne];omega
 ·rw [decide_eq_false hlt];rfl
theorem Eb{pos:List Int}(hinc:∀ (i:Nat) (x y:Int),pos[i]?=some x→pos[i+1]?=some y→x<y){S T:CSt}(h:vy pos S T)(hd:S.due=true):vy pos (nD S) (mV T):=by
 have hh:uz pos T=true:=by rw [← h.due];exact hd
 refine ⟨by simp [nD,mV,h.done,h.cur,h.opn],by simp [nD,mV,h.opn],h.opn,h.place,(JW hinc hh).symm, ?_⟩;have:=h.pos;rw [if_pos hd] at this;show S.pos=_;rw [this];simp [nD,mV]
theorem HT(pos:List Int)(m n:Nat):xg (pos.drop m) n=(decide (m<pos.length)&&((n:Int) == pos.getD m 0)):=by
 by_cases hlt:m<pos.length
 ·rw [List.drop_eq_getElem_cons hlt,xg,decide_eq_true hlt,Bool.true_and,List.getD_eq_getElem?_getD,List.getElem?_eq_getElem hlt,Option.getD_some]
  rw [Bool.eq_iff_iff];simp only [beq_iff_eq];exact ⟨fun h=>h.symm,fun h=>h.symm⟩
 ·rw [List.drop_of_length_le (by omega),xg,decide_eq_false hlt];rfl
theorem Ec{pos:List Int}(hinc:∀ (i:Nat) (x y:Int),pos[i]?=some x→pos[i+1]?=some y→x<y){S T:CSt}(h:vy pos S T){p:ae}(hk:(p.kind == 1)=true∨(p.kind == 5)=true):vy pos (mS S p) (mW pos T p):=by
 have k3:(p.kind == 3)=false:=by rcases hk with hk | hk<;>(rw [eq_of_beq hk];rfl)
 have k2:(p.kind == 2)=false:=by rcases hk with hk | hk<;>(rw [eq_of_beq hk];rfl)
 have k15:((p.kind == 1)||(p.kind == 5))=true:=by rcases hk with hk | hk<;>simp [hk]
 have h1:vy pos (ff S) (sel (rz pos T p) (mV T) T)∧(ff S).due=false:=by
  rw [Ea,← h.due,k3,Bool.not_false,Bool.and_true];unfold ff;cases hd:S.due with
  |true=>rw [sel_true,sel_true];exact ⟨Eb hinc h hd,rfl⟩
  |false=>rw [sel_false,sel_false];exact ⟨h,hd⟩
 obtain ⟨h1,hdf⟩:=h1;unfold mW;generalize sel (rz pos T p) (mV T) T=T1 at h1;have hps:=h1.pos;rw [if_neg (by simp [hdf]),Nat.add_zero] at hps
 have hh:xg (ff S).pos ((ff S).place+1)=uz pos (AA T1 p):=by
  rw [hps,HT,h1.place];simp only [uz,AA,k15,sel_true]
 refine ⟨h1.done, ?_, ?_, ?_, ?_, ?_⟩
 ·show bN (ff S).cur p=bN T1.cur p;rw [h1.cur]
 ·show (ff S).opn=cY T1.opn p
  rw [h1.opn];simp [cY,k2,k3,sel_false]
 ·show (ff S).place+1=sel ((p.kind == 1)||(p.kind == 5)) (T1.place+1) T1.place
  rw [k15,sel_true,h1.place]
 ·show sel (xg (ff S).pos ((ff S).place+1)) true (ff S).due=_
  rw [hh,hdf];cases uz pos (AA T1 p)<;>rfl
 ·show sel (xg (ff S).pos ((ff S).place+1)) (ff S).pos.tail (ff S).pos=pos.drop (T1.done.length+if sel (xg (ff S).pos ((ff S).place+1)) true (ff S).due=true then 1 else 0)
  rw [hdf];cases xg (ff S).pos ((ff S).place+1) with
  |true=>rw [sel_true,sel_true,if_pos rfl,hps,List.tail_drop]
  |false=>rw [sel_false,sel_false,if_neg (by simp),Nat.add_zero,hps]
theorem LW{pos:List Int}(hinc:∀ (i:Nat) (x y:Int),pos[i]?=some x→pos[i+1]?=some y→x<y){S T:CSt}(h:vy pos S T){p:ae}(k1:(p.kind == 1)=false)(k5:(p.kind == 5)=false):vy pos (Cu S p) (mW pos T p):=by
 have h1:vy pos (jG S p) (sel (rz pos T p) (mV T) T):=by
  rw [Ea,← h.due];unfold jG;cases hd:S.due && !(p.kind == 3) with
  |true=>
   rw [sel_true,sel_true];rw [Bool.and_eq_true] at hd;exact Eb hinc h hd.1
  |false=>rw [sel_false,sel_false];exact h
 unfold mW;generalize sel (rz pos T p) (mV T) T=T1 at h1;have hh:uz pos (AA T1 p)=uz pos T1:=by simp only [uz,AA,k1,k5,Bool.or_false,sel_false]
 refine ⟨h1.done, ?_, ?_, ?_,by rw [hh];exact h1.due,h1.pos⟩
 ·show bN (jG S p).cur p=bN T1.cur p;rw [h1.cur]
 ·show cY (jG S p).opn p=cY T1.opn p;rw [h1.opn]
 ·show (jG S p).place=sel ((p.kind == 1)||(p.kind == 5)) (T1.place+1) T1.place
  rw [k1,k5,Bool.or_false,sel_false,h1.place]
theorem Bn{pos:List Int}(hinc:∀ (i:Nat) (x y:Int),pos[i]?=some x→pos[i+1]?=some y→x<y):∀ (rs:List Nat) {S T:CSt},vy pos S T→vy pos (rs.foldl (fun S r=>mS S (mT r)) S) ((rs.map mT).foldl (mW pos) T)
 |[],S,T,h=>h
 |r::rs,S,T,h=>by
  rw [List.foldl_cons,List.map_cons,List.foldl_cons];exact Bn hinc rs (Ec hinc h (.inl rfl))
theorem Ed{pos:List Int}(hinc:∀ (i:Nat) (x y:Int),pos[i]?=some x→pos[i+1]?=some y→x<y):∀ (l:List ae) {S T:CSt},vy pos S T→vy pos (Bk S l) ((il l).foldl (mW pos) T)
 |[],S,T,h=>h
 |x::l,S,T,h=>by
  have hs:il (x::l)=mU x++il l:=rfl;rw [hs,List.foldl_append];refine Ed hinc l (S:=Cv S x) ?_;unfold Cv mU;cases k1:x.kind == 1 with
  |true=>rw [sel_true,sel_true];exact Bn hinc _ h
  |false=>
   rw [sel_false,sel_false,List.foldl_cons,List.foldl_nil];cases k5:x.kind == 5 with
   |true=>rw [sel_true];exact Ec hinc h (.inr k5)
   |false=>rw [sel_false];exact LW hinc h k1 k5
theorem JX{l:List ae}{pos:List Int}{n:Int}(h:okA n none pos=true):nh l pos=ND l pos:=by
 obtain ⟨h1,h2,_⟩:=GC pos n none h
 have h0:vy pos ⟨[],[],pos,0,false,[]⟩ ⟨[],[],[],0,false,[]⟩:=by
  refine ⟨rfl,rfl,rfl,rfl, ?_,rfl⟩;unfold uz;cases pos with
  |nil=>rfl
  |cons x t=>
   have:=h2 x List.mem_cons_self;simp only [List.length_nil,List.getD_cons_zero];symm;rw [Bool.and_eq_false_iff];right;simp only [beq_eq_false_iff_ne];omega
 have:=Ed h1 l h0;unfold nh ND;rw [show Fy l pos=Bk ⟨[],[],pos,0,false,[]⟩ l from rfl,show LV l pos=(il l).foldl (mW pos) ⟨[],[],[],0,false,[]⟩ from rfl,this.done,this.cur]
end
section
attribute [local congr] aD bH aS aE aR aL aF au aw aM aN
variable{E:a8}(M:bY cC E)
def iT(k:Int)(l:List ae):List Str:=(l.filter fun x=>x.car&&(x.kind == k)).map (·.text)
theorem Bo(k:Int)(x:ae)(l:List ae):iT k (x::l)=sel (x.car&&(x.kind == k)) [x.text] []++iT k l:=by
 unfold iT;rw [List.filter_cons];cases x.car&&(x.kind == k)<;>rfl
theorem OpV.own{H H':List AObj}{v:AV}{l:List Str}(h:OpV H v l)(hs:∀ (O:Nat) (y:AObj),v = .rslice O 0 l.length 1 true→H[O]?=some y→H'[O]?=some y):OpV H' v l:=by
 rcases h with h | ⟨O,junk,h1,h2⟩
 ·exact .inl h
 ·exact .inr ⟨O,junk,h1,hs O _ h1 h2⟩
theorem JY{G:List AObj}{v:AV}{l:List Str}(h:OpV G v l)(hl:l.length≤100000000)(s:Str) :
  ∃ G',rap true G aI 1 16 false v (.slice .full 1 [[.str s]])=some (.rslice G.length 0 (l.length+1) 1 true,G')∧OpV G' (.rslice G.length 0 (l.length+1) 1 true) (l++[s])∧G.length<G'.length∧∀ (i:Nat) (y:AObj),G[i]?=some y→(∀ O,v = .rslice O 0 l.length 1 true→i≠O)→G'[i]?=some y:=by
 rcases h with ⟨rfl,rfl⟩ | ⟨O,junk,rfl,hg⟩
 ·refine ⟨G++[.cells [.str s] aI], ?_,.inr ⟨G.length,[],rfl,by rw [bg];rfl⟩,by simp,fun i y hi _=>dc hi⟩
  simp only [rap,kE,mF,or_true,if_true,iS];rw [if_pos (by simp)];rfl
 ·have hlt:=dy hg
  have hlen:l.length*1≤(fX l++junk).length:=by rw [List.length_append,fR];omega
  refine ⟨G.set O .dead++[.cells (fX (l++[s])) aI], ?_,.inr ⟨G.length,[],by simp, ?_⟩,by simp,fun i y hi hne => ?_⟩
  ·simp only [rap,kE,mF,or_true,if_true,iS,hg]
   rw [if_pos ⟨trivial,trivial,hlen,by simp;omega,by simp;omega⟩];simp only [Nat.mul_one];rw [List.take_left' (by rw [fR]),rq];rfl
  ·rw [List.append_nil,show G.length=(G.set O .dead).length by simp,bg];rfl
  ·have:=(List.getElem?_eq_some_iff.1 hi).1
   rw [List.getElem?_append_left (by simp;omega),List.getElem?_set_ne (hne O rfl).symm];exact hi
theorem den(hC:lB E){H0:List AObj}{l:List ae}{tg:Tag}(hl:l.length≤100000000):∀ (n i:Nat) (H:List AObj) (v w:AV) (a b:List Str),i+n=l.length→OpV H v a→OpV H w b→(∀ O O' len len',v = .rslice O 0 len 1 true→w = .rslice O' 0 len' 1 true→O≠O')→free (fun j=>j<H0.length) v→free (fun j=>j<H0.length) w→H0.length≤H.length→a.length≤i→b.length≤i →
  ∃ H' v' w',(∀ (k:List Fra) (He:List AObj),M.go iH H0 (.c cT :: .lp ⟨(some [2,3,6,7,8]),[],false⟩ cT He :: .blk 0 :: .c (.lv [2,3])::k) (kv [(2,v),(3,w),(6,.slice tg 3 (l.map ae.row)),(7,.int .i64 l.length),(8,.int .i64 i)]) H=M.go iH H0 k (kv [(2,v'),(3,w')]) H')∧OpV H' v' (a++iT 2 (l.drop i))∧OpV H' w' (b++iT 3 (l.drop i))∧(∀ O O' len len',v' = .rslice O 0 len 1 true→w' = .rslice O' 0 len' 1 true→O≠O')∧free (fun j=>j<H0.length) v'∧H.length≤H'.length∧(∀ j,j<H0.length→H'[j]?=H[j]?)
 |0,i,H,v,w,a,b,h,hv,hw,hne,fv,fw,hle,ha,hb=>by
  have e:i=l.length:=by omega
  subst e;refine ⟨H,v,w,fun k He => ?_,by rw [List.drop_length];simpa [iT] using hv,by rw [List.drop_length];simpa [iT] using hw,hne,fv,Nat.le_refl _,fun _ _=>rfl⟩;rw [al M cT.eq_1];simp (maxSteps:=3000000) (maxDischargeDepth:=6) +contextual -implicitDefEqProofs only [amC M,↓amD,Nat.reduceBEq,Nat.reduceAdd,env,ak,jI,Nat.lt_irrefl]
 |n+1,i,H,v,w,a,b,h,hv,hw,hne,fv,fw,hle,ha,hb=>by
  have hi:i<l.length:=by omega
  have hx:l[i]?=some l[i]:=List.getElem?_eq_getElem hi;have hd:(l.drop i)=l[i]::l.drop (i+1):=List.drop_eq_getElem_cons hi;have hwi:=dO (n:=l.length) hi (by simp only [ca];omega);have hir:=aU (row:=ae.row) (tag:=tg) (sz:=3) (k:=.i64) hi;have gx:=bg H [AObj.cells l[i].row ag];rw [List.getElem?_cons_zero] at gx;have hv1:OpV (H++[AObj.cells l[i].row ag]) v a:=hv.stay fun O cs hO=>dc hO
  have hw1:OpV (H++[AObj.cells l[i].row ag]) w b:=hw.stay fun O cs hO=>dc hO
  rw [hd,Bo,Bo]
  have lt_of:∀ {v:AV}{a:List Str},OpV H v a→∀ O len,v = .rslice O 0 len 1 true→O<H.length:=fun {v a} hv O len e=>by
   rcases hv with ⟨_,hv⟩ | ⟨O',junk,hv,hO⟩
   ·rw [hv] at e;cases e
   ·rw [hv] at e;cases e;exact dy hO
  have one:∃ H1 v1 w1,(∀ (k:List Fra) (He:List AObj),M.go iH H0 (.c cT :: .lp ⟨(some [2,3,6,7,8]),[],false⟩ cT He :: .blk 0 :: .c (.lv [2,3])::k) (kv [(2,v),(3,w),(6,.slice tg 3 (l.map ae.row)),(7,.int .i64 l.length),(8,.int .i64 i)]) H =
    M.go iH H0 (.c cT :: .lp ⟨(some [2,3,6,7,8]),[],false⟩ cT H1 :: .blk 0 :: .c (.lv [2,3])::k) (kv [(2,v1),(3,w1),(6,.slice tg 3 (l.map ae.row)),(7,.int .i64 l.length),(8,.int .i64 ((i+1:Nat):Int))]) H1) ∧
    OpV H1 v1 (a++sel (l[i].car&&(l[i].kind == 2)) [l[i].text] [])∧OpV H1 w1 (b++sel (l[i].car&&(l[i].kind == 3)) [l[i].text] [])∧(∀ O O' len len',v1 = .rslice O 0 len 1 true→w1 = .rslice O' 0 len' 1 true→O≠O')∧free (fun j=>j<H0.length) v1∧free (fun j=>j<H0.length) w1∧H.length≤H1.length∧(∀ j,j<H0.length→H1[j]?=H[j]?):=by
   have keep:∀ {u:AV}{d:List Str}{G1:List AObj},OpV H u d→free (fun j=>j<H0.length) u→(∀ (i':Nat) (y:AObj),(H++[AObj.cells l[i].row ag])[i']?=some y→(∀ O,u = .rslice O 0 d.length 1 true→i'≠O)→G1[i']?=some y)→∀ j,j<H0.length→G1[j]?=H[j]? := fun {u d G1} hu fu hk j hj=>by
    have hlt:j<H.length:=by omega
    rw [List.getElem?_eq_getElem hlt];exact hk j _ (dc (List.getElem?_eq_getElem hlt)) fun O e ei=>fu O _ _ _ _ e (by omega)
   cases k2:l[i].car&&(l[i].kind == 2) with
   |true=>
    rw [Bool.and_eq_true] at k2;have k3:(l[i].kind == 3)=false:=by rw [eq_of_beq k2.2];rfl
    obtain ⟨G1,a1,a2,a3,a4⟩:=JY hv1 (by omega) l[i].text;have hlg:(H++[AObj.cells l[i].row ag]).length=H.length+1:=by simp
    rw [hlg] at a1 a2 a3;refine ⟨G1,_,w,fun k He => ?_,by rw [sel_true];exact a2,by rw [k3,Bool.and_false,sel_false,List.append_nil];exact hw1.own fun O y e hO=>a4 O y hO fun O' e' ei=>hne O' O _ _ e' e ei.symm,fun O O' len len' e1 e2 => ?_,fun Q o n e r eq=>(by cases eq;omega),fw,by omega,keep hv fv a4⟩
    ·rw [al M cT.eq_1]
     simp (maxSteps:=3000000) (maxDischargeDepth:=6) +contextual -implicitDefEqProofs only [amC M,↓amD,Nat.reduceBEq,Nat.reduceAdd,env,ak,jI,amG,AV.cell,Nat.reduceMul,Nat.reduceLeDiff,hi,hx,hir,hwi,gx,k2.1,k2.2,bh,a1]
    ·cases e1
     have:=lt_of hw O' len' e2;omega
   |false=>
    rw [sel_false,List.append_nil];cases k3:l[i].car&&(l[i].kind == 3) with
    |true=>
     rw [Bool.and_eq_true] at k3;have k2f:(l[i].kind == 2)=false:=by rw [eq_of_beq k3.2];rfl
     obtain ⟨G1,a1,a2,a3,a4⟩:=JY hw1 (by omega) l[i].text;have hlg:(H++[AObj.cells l[i].row ag]).length=H.length+1:=by simp
     rw [hlg] at a1 a2 a3;refine ⟨G1,v,_,fun k He => ?_,hv1.own fun O y e hO=>a4 O y hO fun O' e' ei=>hne O O' _ _ e e' ei,by rw [sel_true];exact a2,fun O O' len len' e1 e2 => ?_,fv,fun Q o n e r eq=>(by cases eq;omega),by omega,keep hw fw a4⟩
     ·rw [al M cT.eq_1]
      simp (maxSteps:=3000000) (maxDischargeDepth:=6) +contextual -implicitDefEqProofs only [amC M,↓amD,Nat.reduceBEq,Nat.reduceAdd,env,ak,jI,amG,AV.cell,Nat.reduceMul,Nat.reduceLeDiff,hi,hx,hir,hwi,gx,k3.1,k2f,k3.2,bh,a1]
     ·cases e2
      have:=lt_of hv O len e1;omega
    |false=>
     rw [sel_false,List.append_nil];refine ⟨_,v,w,fun k He => ?_,hv1,hw1,hne,fv,fw,by simp,fun j hj=>List.getElem?_append_left (by omega)⟩;cases kc:l[i].car with
     |false=>
      rw [al M cT.eq_1];simp (maxSteps:=3000000) (maxDischargeDepth:=6) +contextual -implicitDefEqProofs only [amC M,↓amD,Nat.reduceBEq,Nat.reduceAdd,env,ak,jI,amG,AV.cell,Nat.reduceMul,Nat.reduceLeDiff,hi,hx,hir,hwi,gx,kc,bh]
     |true=>
      rw [kc,Bool.true_and] at k2 k3;rw [al M cT.eq_1];simp (maxSteps:=3000000) (maxDischargeDepth:=6) +contextual -implicitDefEqProofs only [amC M,↓amD,Nat.reduceBEq,Nat.reduceAdd,env,ak,jI,amG,AV.cell,Nat.reduceMul,Nat.reduceLeDiff,hi,hx,hir,hwi,gx,kc,k2,k3,bh]
  obtain ⟨H1,v1,w1,o1,o2,o3,o4,o5,o6,o7,o8⟩:=one;have la:(sel (l[i].car&&(l[i].kind == 2)) [l[i].text] []).length≤1:=by cases l[i].car&&(l[i].kind == 2)<;>simp [sel_true,sel_false]
  have lb:(sel (l[i].car&&(l[i].kind == 3)) [l[i].text] []).length≤1:=by cases l[i].car&&(l[i].kind == 3)<;>simp [sel_true,sel_false]
  obtain ⟨H2,v2,w2,i1,i2,i3,i4,i5,i6,i7⟩:=den hC (H0:=H0) (tg:=tg) hl n (i+1) H1 v1 w1 _ _ (by omega) o2 o3 o4 o5 o6 (by omega) (by rw [List.length_append];omega) (by rw [List.length_append];omega);exact ⟨H2,v2,w2,fun k He=>by rw [o1 k He,i1 k H1],by rw [← List.append_assoc];exact i2,by rw [← List.append_assoc];exact i3,i4,i5,by omega,fun j hj=>by rw [i7 j hj,o8 j hj]⟩
theorem Ee(hC:lB E){l:List ae}{tg:Tag}(hl:l.length≤100000000)(H:List AObj):∃ H' v w,M.run ny [.slice tg 3 (l.map ae.row)] H=some (.ret (.tuple [v,w]),H')∧OpV H' v (iT 2 l)∧OpV H' w (iT 3 l)∧(∀ O O' len len',v = .rslice O 0 len 1 true→w = .rslice O' 0 len' 1 true→O≠O')∧free (fun j=>j<H.length) v∧H.length≤H'.length∧∀ j,j<H.length→H'[j]?=H[j]? := by
 obtain ⟨H',v,w,e1,e2,e3,e4,e5,e6,e7⟩:=den M hC (H0:=H) (tg:=tg) hl l.length 0 H (.slice .nil 1 []) (.slice .nil 1 []) [] [] (by omega) (.inl ⟨rfl,rfl⟩) (.inl ⟨rfl,rfl⟩) (fun O O' len len' e=>(by cases e)) (fun Q o n e r eq=>(by cases eq)) (fun Q o n e r eq=>(by cases eq)) (Nat.le_refl _) (Nat.le_refl _) (Nat.le_refl _);rw [List.drop_zero,List.nil_append] at e2 e3;refine ⟨H',v,w, ?_,e2,e3,e4,e5,e6,e7⟩
 simp only [kv_cons,kv_nil,Int.ofNat_zero] at e1;rw [b9 M hC.docs_ends rfl (c:=qO) rfl,qO];simp (maxSteps:=3000000) (maxDischargeDepth:=6) +contextual -implicitDefEqProofs only [amC M,↓amD,Nat.reduceBEq,Nat.reduceAdd,env,ak,jI,List.length_map,e1]
end
section
attribute [local congr] aD bH aS aE aR aL aF au aw aM aN
variable{E:a8}(M:bY cC E)
theorem JZ(l:List Str)(i:Nat)(s:Str):(fX l).set i (.str s)=fX (l.set i s):=by
 unfold fX;rw [List.map_set]
theorem zw{l:List Str}{junk:List AV}{i:Nat}(hi:i<l.length)(s:Str):bn (fX l++junk) i [.str s]=fX (l.set i s)++junk:=by
 rw [setRow_cons,setRow_nil,List.set_append_left _ _ (by rw [fR];exact hi),JZ]
theorem GD{l:List Str}{junk:List AV}{i:Nat}{s:Str}(h:l[i]?=some s):bT none (fX l++junk) i=some (.str s):=by
 have hlt:=(List.getElem?_eq_some_iff.1 h).1;simp only [bT];rw [List.getElem?_append_left (by rw [fR];exact hlt),fX,List.getElem?_map,h];rfl
theorem rvl{H0:List AObj}{O:Nat}{junk:List AV}{len:Nat}(hlen:len≤100000000):∀ (n i j:Nat) (G:List AObj) (l:List Str),j-i≤n→i≤j+1→j<len→l.length=len→G[O]?=some (.cells (fX l++junk) aI) →
  ∃ G' l',(∀ (k:List Fra) (He:List AObj),M.go aT H0 (.c aG :: .lp ⟨(some [0,2,3]),[],false⟩ aG He :: .blk 0 :: .c (.lv [])::k) (kv [(0,.rslice O 0 len 1 true),(2,.int .i64 i),(3,.int .i64 j)]) G=M.go aT H0 k .leaf G')∧G'[O]?=some (.cells (fX l'++junk) aI)∧l'.length=len∧(∀ m,l'[m]?=if i≤m∧m≤j then l[i+j-m]? else l[m]?)∧G'.length=G.length∧∀ m,m≠O→G'[m]?=G[m]?
 |n,i,j,G,l,hn,hij,hj,hl,hG=>by
  by_cases hlt:i<j
  ·obtain ⟨n,rfl⟩:∃ m,n=m+1:=⟨n-1,by omega⟩
   have hi:i<l.length:=by omega
   have hjl:j<l.length:=by omega
   have xi:l[i]?=some l[i]:=List.getElem?_eq_getElem hi;have xj:l[j]?=some l[j]:=List.getElem?_eq_getElem hjl;have hOl:=dy hG;have hl2:((l.set i l[j]).set j l[i]).length=len:=by simp [hl]
   have hG1:(G.set O (AObj.cells (fX (l.set i l[j])++junk) aI))[O]?=some (.cells (fX (l.set i l[j])++junk) aI):=List.getElem?_set_self hOl;have hG2:((G.set O (AObj.cells (fX (l.set i l[j])++junk) aI)).set O (AObj.cells (fX ((l.set i l[j]).set j l[i])++junk) aI))[O]?=some (.cells (fX ((l.set i l[j]).set j l[i])++junk) aI):=List.getElem?_set_self (by simpa using hOl);have so1:=stO_cells (sz:=1) (H:=G) (id:=O) (off:=i) (cs:=[.str l[j]]) (T:=aI) (old:=fX l++junk) rfl (by rw [List.length_append,fR];omega) rfl
   have so2:=stO_cells (sz:=1) (H:=G.set O (AObj.cells (fX (l.set i l[j])++junk) aI)) (id:=O) (off:=j) (cs:=[.str l[i]]) (T:=aI) (old:=fX (l.set i l[j])++junk) rfl (by rw [List.length_append,fR];simp;omega) rfl;rw [zw hi] at so1;rw [zw (by simpa using hjl)] at so2;obtain ⟨G',l',e1,e2,e3,e4,e5,e6⟩:=rvl hlen n (i+1) (j-1) _ _ (by omega) (by omega) (by omega) hl2 hG2;refine ⟨G',l',fun k He => ?_,e2,e3,fun m => ?_,by simpa using e5,fun m hm=>by rw [e6 m hm,List.getElem?_set_ne hm.symm,List.getElem?_set_ne hm.symm]⟩
   ·rw [← e1 k ((G.set O (AObj.cells (fX (l.set i l[j])++junk) aI)).set O (AObj.cells (fX ((l.set i l[j]).set j l[i])++junk) aI))]
    have ii:=rM (id:=O) (show i<len by omega) .i64;have ij:=rM (id:=O) (show j<len by omega) .i64;have li:=GD (junk:=junk) xi;have lj:=GD (junk:=junk) xj;have wi:=dO (n:=len) (show i<len by omega) (by simp only [ca];omega);have wj:IntKind.i64.wrap ((j:Int)-1)=((j-1:Nat):Int):=by rw [b4 (by omega) (by omega)];omega
    have r1:∀ H,lT (some H)=some (dg,H):=fun _=>rfl
    generalize hA:G.set O (AObj.cells (fX (l.set i l[j])++junk) aI)=A at hG1 so1 so2;generalize hB:A.set O (AObj.cells (fX ((l.set i l[j]).set j l[i])++junk) aI)=B at so2;rw [al M aG.eq_1];simp (maxSteps:=3000000) (maxDischargeDepth:=6) +contextual -implicitDefEqProofs only [amC M,↓amD,Nat.reduceBEq,Nat.reduceAdd,env,ak,bp,amG,AV.cell,Nat.reduceMul,Nat.reduceLeDiff,hlt,ii,ij,hG,li,lj,so1,hA,hG1,so2,hB,zw,wi,wj,r1]
   ·rw [e4 m]
    by_cases h1:i+1≤m∧m≤j-1
    ·rw [if_pos h1,if_pos (by omega),List.getElem?_set_ne (by omega),List.getElem?_set_ne (by omega)]
     congr 1;omega
    ·rw [if_neg h1]
     by_cases hmj:m=j
     ·subst hmj
      rw [List.getElem?_set_self (by simpa using hjl),if_pos (by omega),show i+m-m=i by omega,xi]
     ·rw [List.getElem?_set_ne (fun e=>hmj e.symm)]
      by_cases hmi:m=i
      ·subst hmi
       rw [List.getElem?_set_self hi,if_pos (by omega),show m+j-m=j by omega,xj]
      ·rw [List.getElem?_set_ne (fun e=>hmi e.symm),if_neg (by omega)]
  ·refine ⟨G,l,fun k He => ?_,hG,hl,fun m => ?_,rfl,fun _ _=>rfl⟩
   ·rw [al M aG.eq_1]
    simp (maxSteps:=3000000) (maxDischargeDepth:=6) +contextual -implicitDefEqProofs only [amC M,↓amD,Nat.reduceBEq,Nat.reduceAdd,env,ak,bp,hlt]
   ·by_cases h1:i≤m∧m≤j
    ·rw [if_pos h1];congr 1;omega
    ·rw [if_neg h1]
theorem LX(hC:lB E){G:List AObj}{v:AV}{l:List Str}(h:OpV G v l)(hl:l.length≤100000000):∃ G',M.run dQ [v] G=some (.ret (.tuple []),G')∧OpV G' v l.reverse∧G'.length=G.length∧∀ m,(∀ O,v = .rslice O 0 l.length 1 true→m≠O)→G'[m]?=G[m]? := by
 rcases h with ⟨rfl,rfl⟩ | ⟨O,junk,rfl,hG⟩
 ·refine ⟨G, ?_,.inl ⟨rfl,rfl⟩,rfl,fun _ _=>rfl⟩
  rw [b9 M hC.slices_Reverse_string_string rfl (c:=bo) rfl,bo];have w0:IntKind.i64.wrap (((0:Nat):Int)-1) = -1:=rfl;have hd:decide ((0:Int) < -1)=false:=rfl
  have go0:∀ k He,M.go aT G (.c aG :: .lp ⟨(some [0,2,3]),[],false⟩ aG He :: .blk 0 :: .c (.lv [])::k) (kv [(0,.slice .nil 1 []),(2,.int .i64 0),(3,.int .i64 (-1))]) G=M.go aT G k .leaf G:=fun k He=>by
   rw [al M aG.eq_1];simp (maxSteps:=3000000) (maxDischargeDepth:=6) +contextual -implicitDefEqProofs only [amC M,↓amD,Nat.reduceBEq,Nat.reduceAdd,env,ak,bp,hd]
  simp only [kv_cons,kv_nil] at go0;simp (maxSteps:=3000000) (maxDischargeDepth:=6) +contextual -implicitDefEqProofs only [amC M,↓amD,Nat.reduceBEq,Nat.reduceAdd,env,ak,bp,w0,go0,List.length_nil]
 ·by_cases h0:l.length=0
  ·have:l=[]:=List.length_eq_zero_iff.1 h0
   subst this;refine ⟨G, ?_,.inr ⟨O,junk,rfl,hG⟩,rfl,fun _ _=>rfl⟩;have w0:IntKind.i64.wrap (((0:Nat):Int)-1) = -1:=rfl;have hd:decide ((0:Int) < -1)=false:=rfl
   have go0:∀ k He,M.go aT G (.c aG :: .lp ⟨(some [0,2,3]),[],false⟩ aG He :: .blk 0 :: .c (.lv [])::k) (kv [(0,.rslice O 0 0 1 true),(2,.int .i64 0),(3,.int .i64 (-1))]) G=M.go aT G k .leaf G:=fun k He=>by
    rw [al M aG.eq_1];simp (maxSteps:=3000000) (maxDischargeDepth:=6) +contextual -implicitDefEqProofs only [amC M,↓amD,Nat.reduceBEq,Nat.reduceAdd,env,ak,bp,hd]
   simp only [kv_cons,kv_nil] at go0;rw [b9 M hC.slices_Reverse_string_string rfl (c:=bo) rfl,bo];simp (maxSteps:=3000000) (maxDischargeDepth:=6) +contextual -implicitDefEqProofs only [amC M,↓amD,Nat.reduceBEq,Nat.reduceAdd,env,ak,bp,w0,go0,List.length_nil]
  ·obtain ⟨G',l',e1,e2,e3,e4,e5,e6⟩:=rvl M (H0:=G) (O:=O) (junk:=junk) (len:=l.length) hl l.length 0 (l.length-1) G l (by omega) (by omega) (by omega) rfl hG
   have hr:l'=l.reverse:=by
    refine List.ext_getElem? fun m => ?_
    rw [e4 m]
    by_cases hm:m<l.length
    ·rw [if_pos (by omega),List.getElem?_reverse hm];congr 1;omega
    ·rw [if_neg (by omega),List.getElem?_eq_none (by omega),List.getElem?_eq_none (by simp;omega)]
   subst hr;refine ⟨G', ?_,.inr ⟨O,junk,by simp,e2⟩,e5,fun m hm=>e6 m (hm O rfl)⟩;have w0:IntKind.i64.wrap ((l.length:Int)-1)=((l.length-1:Nat):Int):=by rw [b4 (by omega) (by omega)];omega
   simp only [kv_cons,kv_nil,Int.ofNat_zero] at e1;rw [b9 M hC.slices_Reverse_string_string rfl (c:=bo) rfl,bo];simp (maxSteps:=3000000) (maxDischargeDepth:=6) +contextual -implicitDefEqProofs only [amC M,↓amD,Nat.reduceBEq,Nat.reduceAdd,env,ak,bp,w0,e1]
theorem eql{G H0:List AObj}(hc:dz H0 G){v w:AV}{a b:List Str}(hv:OpV G v a)(hw:OpV G w b)(hab:a.length=b.length)(hl:a.length≤100000000)(k:List Fra):∀ (n i:Nat) (He:List AObj),i+n=a.length →
  M.go cg H0 (.c bz :: .lp ⟨(some [0,1,12,13]),[],false⟩ bz He :: .blk 0 :: .c (.lv [])::k) (kv [(0,v),(1,w),(12,.int .i64 a.length),(13,.int .i64 i)]) G=sel (a.drop i == b.drop i) (M.go cg H0 k .leaf G) (some (.ret (.bool false),G.take H0.length))
 |0,i,He,h=>by
  have e:i=a.length:=by omega
  subst e;rw [List.drop_length,List.drop_of_length_le (by omega),show (([]:List Str) == [])=true from rfl,sel_true];rw [al M bz.eq_1];simp (maxSteps:=3000000) (maxDischargeDepth:=6) +contextual -implicitDefEqProofs only [amC M,↓amD,Nat.reduceBEq,Nat.reduceAdd,env,ak,bJ,Nat.lt_irrefl]
 |n+1,i,He,h=>by
  have hi:i<a.length:=by omega
  have hib:i<b.length:=by omega
  obtain ⟨O,cs,o1,o2,o3⟩:=Ct hv (List.getElem?_eq_getElem hi);obtain ⟨O',cs',p1,p2,p3⟩:=Ct hw (List.getElem?_eq_getElem hib);have hwi:=dO (n:=a.length) hi (by simp only [ca];omega);have ih:=fun He=>eql hc hv hw hab hl k n (i+1) He (by omega)
  simp only [kv_cons,kv_nil] at ih;rw [List.drop_eq_getElem_cons hi,List.drop_eq_getElem_cons hib,List.cons_beq_cons];cases he:a[i] == b[i] with
  |true=>
   rw [Bool.true_and];rw [al M bz.eq_1];simp (maxSteps:=3000000) (maxDischargeDepth:=6) +contextual -implicitDefEqProofs only [amC M,↓amD,Nat.reduceBEq,Nat.reduceAdd,env,ak,bJ,hi,o1,o2,o3,p1,p2,p3,he,hwi,ih]
  |false=>
   rw [Bool.false_and,sel_false];rw [al M bz.eq_1];simp (maxSteps:=3000000) (maxDischargeDepth:=6) +contextual -implicitDefEqProofs only [amC M,↓amD,Nat.reduceBEq,Nat.reduceAdd,env,ak,bJ,hi,o1,o2,o3,p1,p2,p3,he,hc]
theorem HU(hC:lB E){G:List AObj}{v w:AV}{a b:List Str}(hv:OpV G v a)(hw:OpV G w b)(hl:a.length≤100000000):M.run eo [v,w] G=some (.ret (.bool (a == b)),G):=by
 have l1:=fun H=>vv (G:=H) hv
 have l2:=fun H=>vv (G:=H) hw
 rw [b9 M hC.slices_Equal_string_string rfl (c:=ep) rfl,ep]
 by_cases hab:a.length=b.length
 ·have hq:(a.length == b.length)=true:=by simp [hab]
  have h1:=fun k He=>eql M (cut_refl G) hv hw hab hl k a.length 0 He (by omega)
  simp only [kv_cons,kv_nil,Int.ofNat_zero,List.drop_zero] at h1;cases he:a == b with
  |true=>
   simp only [he,sel_true] at h1;simp (maxSteps:=3000000) (maxDischargeDepth:=6) +contextual -implicitDefEqProofs only [amC M,↓amD,Nat.reduceBEq,Nat.reduceAdd,env,ak,bJ,l1,l2,hq,h1]
  |false=>
   simp only [he,sel_false] at h1;simp (maxSteps:=3000000) (maxDischargeDepth:=6) +contextual -implicitDefEqProofs only [amC M,↓amD,Nat.reduceBEq,Nat.reduceAdd,env,ak,bJ,l1,l2,hq,h1,hp_self]
 ·have hq:(a.length == b.length)=false:=by simp [hab]
  have he:(a == b)=false:=by simp only [beq_eq_false_iff_ne];intro e;exact hab (by rw [e])
  rw [he];simp (maxSteps:=3000000) (maxDischargeDepth:=6) +contextual -implicitDefEqProofs only [amC M,↓amD,Nat.reduceBEq,Nat.reduceAdd,env,ak,bJ,l1,l2,hq,hp_self,cut_refl]
end
section
attribute [local congr] aD bH aS aE aR aL aF au aw aM aN
variable{E:a8}(M:bY cC E)
def chkPs:List (Sl ae)→Int
 |[]=>0
 |p::ps=>sel (cS p.l == 0) (chkPs ps) (cS p.l)
def zx:List (Sl ae)→Bool
 |[]=>true
 |p::ps=>(match ps with
  |[]=>true
  |q::_=>iT 3 p.l == (iT 2 q.l).reverse)&&zx ps
theorem Ef(p q:Sl ae)(ps:List (Sl ae)):zx (p::q::ps)=((iT 3 p.l == (iT 2 q.l).reverse)&&zx (q::ps)):=rfl
def kq(n i:Nat)(x:ae):Bool:=x.car&&(((x.kind == 2)&&decide (0<i))||((x.kind == 3)&&decide (i+1<n)))
def glue1(n i:Nat)(cur l:List ae):List ae:=l.foldl (fun c x=>sel (kq n i x) c (bN c x)) cur
def rA(n:Nat):Nat→List ae→List (Sl ae)→List ae
 |_,cur,[]=>cur
 |i,cur,p::ps=>rA n (i+1) (glue1 n i cur p.l) ps
def gS(cur:List ae):CSt:=⟨[],cur,[],0,false,[]⟩
def szQ(l:List ae):Nat:=(l.map fun x=>x.text.length+1).sum
theorem zy(x:ae)(l:List ae):szQ (x::l)=x.text.length+1+szQ l:=by simp [szQ]
def szL(ps:List (Sl ae)):Nat:=(ps.map fun p=>szQ p.l).sum
theorem Eg(p:Sl ae)(l:List (Sl ae)):szL (p::l)=szQ p.l+szL l:=by simp [szL]
theorem GE{H0 G:List AObj}(h1:H0.length≤G.length)(h2:∀ m,m<H0.length→G[m]?=H0[m]?):dz H0 G∧G.take H0.length=H0:=by
 have hk:G.take H0.length=H0:=by
  refine List.ext_getElem? fun i => ?_
  by_cases hi:i<H0.length
  ·rw [List.getElem?_take_of_lt hi,h2 i hi]
  ·rw [List.getElem?_eq_none (by simp;omega),List.getElem?_eq_none (by omega)]
 exact ⟨⟨h1,fun i x hi hx=>.inl (by rw [← h2 i hi];exact hx)⟩,hk⟩
def uA(m:Nat)(cur:List ae):Prop:=cur.length≤m∧∀ x∈cur,x.text.length≤m
theorem uA.put{m:Nat}{cur:List ae}(h:uA m cur)(p:ae):uA (m+(p.text.length+1)) (bN cur p):=
 ⟨by have:=zt cur p;have:=h.1;omega,fun x hx=>by have:=zu h.2 (Nat.le_refl p.text.length) x hx;omega⟩
theorem uA.mono{m n:Nat}{cur:List ae}(h:uA m cur)(hn:m≤n):uA n cur:=⟨Nat.le_trans h.1 hn,fun x hx=>Nat.le_trans (h.2 x hx) hn⟩
theorem uA.glue1{n i:Nat}:∀ (l:List ae) {m:Nat}{cur:List ae},uA m cur→uA (m+szQ l) (glue1 n i cur l)
 |[],m,cur,h=>h
 |x::l,m,cur,h=>by
  rw [zy,← Nat.add_assoc];show uA _ (Go.Am.glue1 n i (sel (kq n i x) cur (bN cur x)) l);refine uA.glue1 l ?_;cases kq n i x
  ·exact h.put x
  ·exact h.mono (by omega)
theorem gl0(hB:lP E)(hX:Av M){H H0:List AObj}(hc:dz H0 H){ps:List (Sl ae)}{tg:Tag}(hn:ps.length≤1000000)(hps:∀ p∈ps,p.l.length≤1000000∧ru p.l)(k:List Fra):∀ (n i:Nat) (He:List AObj),i+n=ps.length →
  M.go cP H0 (.c gG :: .lp ⟨(some [0,20,21,22]),[],false⟩ gG He :: .blk 0 :: .c (.lv [0])::k) (kv [(0,.slice tg 1 (ps.map gz)),(20,.slice tg 1 (ps.map gz)),(21,.int .i64 ps.length),(22,.int .i64 i)]) H =
   sel (chkPs (ps.drop i) == 0) (M.go cP H0 k (kv [(0,.slice tg 1 (ps.map gz))]) H) (some (.ret (.tuple [.slice .nil 3 [],.int .u8 (chkPs (ps.drop i))]),H.take H0.length))
 |0,i,He,h=>by
  have e:i=ps.length:=by omega
  subst e;rw [List.drop_length,chkPs,show ((0:Int) == 0)=true from rfl,sel_true];rw [al M gG.eq_1];simp (maxSteps:=3000000) (maxDischargeDepth:=6) +contextual -implicitDefEqProofs only [amC M,↓amD,Nat.reduceBEq,Nat.reduceAdd,env,ak,bG,Nat.lt_irrefl]
 |n+1,i,He,h=>by
  have hi:i<ps.length:=by omega
  have hx:ps[i]?=some ps[i]:=List.getElem?_eq_getElem hi;have hd:(ps.drop i)=ps[i]::ps.drop (i+1):=List.drop_eq_getElem_cons hi;have hwi:=dO (n:=ps.length) hi (by simp only [ca];omega);have hir:=aU (row:=gz) (tag:=tg) (sz:=1) (k:=.i64) hi;obtain ⟨p1,p2⟩:=hps _ (List.getElem_mem hi);have hck:=fun H=>pL M hB hX (l:=ps[i]) p1 p2 H
  have ih:=fun He=>gl0 hB hX hc (tg:=tg) hn hps k n (i+1) He (by omega)
  simp only [kv_cons,kv_nil] at ih;have hde:=fun e=>GB hc 3 e
  rw [hd,chkPs];cases c0:cS ps[i].l == 0 with
  |true=>
   rw [sel_true];rw [al M gG.eq_1];simp (maxSteps:=3000000) (maxDischargeDepth:=6) +contextual -implicitDefEqProofs only [amC M,↓amD,Nat.reduceBEq,Nat.reduceAdd,env,ak,bG,hi,hx,hir,hwi,qPl,hck,c0,ih,Bool.not_true]
  |false=>
   rw [sel_false,c0,sel_false];rw [al M gG.eq_1];simp (maxSteps:=3000000) (maxDischargeDepth:=6) +contextual -implicitDefEqProofs only [amC M,↓amD,Nat.reduceBEq,Nat.reduceAdd,env,ak,bG,hi,hx,hir,hwi,qPl,hck,c0,hde,Bool.not_false]
theorem gl1(hC:lB E){H0:List AObj}{ps:List (Sl ae)}{tg:Tag}(hn:ps.length≤1000000)(hps:∀ p∈ps,p.l.length≤100000000):∀ (n j:Nat) (G:List AObj),j+1+n=ps.length→H0.length≤G.length→(∀ m,m<H0.length→G[m]?=H0[m]?) →
  ∃ G',(∀ (k:List Fra) (He:List AObj),M.go cP H0 (.c gH :: .lp ⟨(some [0,7]),[],false⟩ gH He :: .blk 2 :: .c (.lv [0])::k) (kv [(0,.slice tg 1 (ps.map gz)),(7,.int .i64 ((j+1:Nat):Int))]) G =
   sel (zx (ps.drop j)) (M.go cP H0 k (kv [(0,.slice tg 1 (ps.map gz))]) G') (some (.ret (.tuple [.slice .nil 3 [],.int .u8 10]),H0)))∧H0.length≤G'.length∧∀ m,m<H0.length→G'[m]?=H0[m]?
 |0,j,G,h,hl,hG=>by
  have e:ps.length=j+1:=by omega
  refine ⟨G,fun k He => ?_,hl,hG⟩;have hj:j<ps.length:=by omega
  have ha:zx (ps.drop j)=true:=by
   rw [List.drop_eq_getElem_cons hj,List.drop_of_length_le (by omega)];rfl
  rw [ha,sel_true];have hlt:¬ (j+1<ps.length):=by omega
  rw [al M gH.eq_1];simp (maxSteps:=3000000) (maxDischargeDepth:=6) +contextual -implicitDefEqProofs only [amC M,↓amD,Nat.reduceBEq,Nat.reduceAdd,env,ak,bG,hlt,List.length_map]
 |n+1,j,G,h,hl,hG=>by
  have hj:j<ps.length:=by omega
  have hi:j+1<ps.length:=by omega
  have hxj:ps[j]?=some ps[j]:=List.getElem?_eq_getElem hj;have hxi:ps[j+1]?=some ps[j+1]:=List.getElem?_eq_getElem hi;have hrj:=aU (row:=gz) (tag:=tg) (sz:=1) (k:=.i64) hj;have hri:=aU (row:=gz) (tag:=tg) (sz:=1) (k:=.i64) hi;have hwj:IntKind.i64.wrap (((j+1:Nat):Int)-1)=(j:Int):=by rw [b4 (by omega) (by omega)];omega
  have hwi:=dO (n:=ps.length) hi (by simp only [ca];omega);have bj:=hps _ (List.getElem_mem hj);have bi:=hps _ (List.getElem_mem hi);obtain ⟨G1,v1,w1,e1,o1,o2,o3,o4,o5,o6⟩:=Ee M hC (l:=ps[j].l) (tg:=ps[j].tag) bj G;obtain ⟨G2,v2,w2,f1,q1,q2,q3,q4,q5,q6⟩:=Ee M hC (l:=ps[j+1].l) (tg:=ps[j+1].tag) bi G1;have cl:∀ (k:Int) (l:List ae),(iT k l).length≤l.length:=fun k l=>by unfold iT;rw [List.length_map];exact List.length_filter_le _ _
  have c3:=cl 3 ps[j].l;have c2:=cl 2 ps[j+1].l;obtain ⟨G3,r1,r2,r3,r4⟩:=LX M hC q1 (by omega);have ow2:OpV G2 w1 (iT 3 ps[j].l):=o2.stay fun O cs hO=>by rw [q6 O (dy hO)];exact hO
  have lw:∀ O len,w1 = .rslice O 0 len 1 true→O<G1.length:=fun O len e=>by
   rcases o2 with ⟨_,hv⟩ | ⟨O',junk,hv,hO⟩
   ·rw [hv] at e;cases e
   ·rw [hv] at e;cases e;exact dy hO
  have ow3:OpV G3 w1 (iT 3 ps[j].l):=ow2.own fun O y e hO=>by
   rw [r4 O fun O' e' ei=>q4 O' _ _ _ _ e' (by rw [← ei];exact lw O _ e)];exact hO
  have eq:=HU M hC ow3 r2 (by omega)
  have low3:∀ m,m<H0.length→G3[m]?=H0[m]? := fun m hm=>by
   rw [r4 m fun O' e' ei=>q4 O' _ _ _ _ e' (by omega),q6 m (by omega),o6 m (by omega),hG m hm]
  have hle3:H0.length≤G3.length:=by omega
  obtain ⟨hc3,ht3⟩:=GE hle3 low3;have hde:=GB hc3 3 10;rw [ht3] at hde;have hd:ps.drop j=ps[j]::ps[j+1]::ps.drop (j+1+1):=by rw [List.drop_eq_getElem_cons hj,List.drop_eq_getElem_cons hi]
  have ha:zx (ps.drop j)=((iT 3 ps[j].l == (iT 2 ps[j+1].l).reverse)&&zx (ps.drop (j+1))):=by
   rw [hd,Ef,List.drop_eq_getElem_cons hi]
  rw [ha];cases c0:iT 3 ps[j].l == (iT 2 ps[j+1].l).reverse with
  |false=>
   refine ⟨G3,fun k He => ?_,hle3,low3⟩;rw [Bool.false_and,sel_false];rw [al M gH.eq_1];simp (maxSteps:=3000000) (maxDischargeDepth:=6) +contextual -implicitDefEqProofs only [amC M,↓amD,Nat.reduceBEq,Nat.reduceAdd,env,ak,bG,hi,hj,hxj,hxi,hrj,hri,hwj,hwi,qPl,List.length_map,e1,f1,r1,eq,c0,cZ,List.getElem?_cons_zero,List.getElem?_cons_succ,hde,Bool.not_false]
  |true=>
   obtain ⟨G4,i1,i2,i3⟩:=gl1 hC (tg:=tg) hn hps n (j+1) G3 (by omega) hle3 low3;refine ⟨G4,fun k He => ?_,i2,i3⟩;simp only [kv_cons,kv_nil] at i1;rw [Bool.true_and];rw [al M gH.eq_1];simp (maxSteps:=3000000) (maxDischargeDepth:=6) +contextual -implicitDefEqProofs only [amC M,↓amD,Nat.reduceBEq,Nat.reduceAdd,env,ak,bG,hi,hj,hxj,hxi,hrj,hri,hwj,hwi,qPl,List.length_map,e1,f1,r1,eq,c0,cZ,List.getElem?_cons_zero,List.getElem?_cons_succ,i1,Bool.not_true]
end
section
attribute [local congr] aD bH aS aE aR aL aF au aw aM aN
variable{E:a8}(M:bY cC E)
theorem LY{n i:Nat}(x:ae):(decide ((0:Int)<(i:Int))=decide (0<i)):=by
 rw [Bool.eq_iff_iff];simp
theorem gl2(hC:lB E){H0:List AObj}{R:Nat→Prop}{c:Nat}{pv:AV}{ps:List (Sl ae)}{tgp:Tag}(hpv:pv = .slice tgp 1 (ps.map gz))(hnp:ps.length≤1000000){i:Nat}(hi0:i<ps.length){l:List ae}{tg:Tag}(hl:l.length≤100000000):∀ (n j m:Nat) (H:List AObj) (cur:List ae),j+n=l.length→eU R c H (gS cur)→uA m cur→m+szQ (l.drop j)≤100000000 →
  ∃ H',(∀ (k:List Fra) (He:List AObj),M.go cP H0 (.c bw :: .lp ⟨(some [0,12,13,64,65,66,71,72,73]),[],false⟩ bw He :: .blk 6 :: .c (.lv [0,12,64,65,66])::k) (kv [(0,pv),(12,.ptr c 0),(13,.int .i64 i),(64,pv),(65,.int .i64 ps.length),(66,.int .i64 i),(71,.slice tg 3 (l.map ae.row)),(72,.int .i64 l.length),(73,.int .i64 j)]) H =
   M.go cP H0 k (kv [(0,pv),(12,.ptr c 0),(64,pv),(65,.int .i64 ps.length),(66,.int .i64 i)]) H')∧eU R c H' (gS (glue1 ps.length i cur (l.drop j)))∧Frm R H H'
 |0,j,m,H,cur,h,hS,hb,hm=>by
  have e:j=l.length:=by omega
  subst e;refine ⟨H,fun k He => ?_,by rw [List.drop_length];exact hS,Frm.refl R H⟩;rw [al M bw.eq_1];simp (maxSteps:=3000000) (maxDischargeDepth:=6) +contextual -implicitDefEqProofs only [amC M,↓amD,Nat.reduceBEq,Nat.reduceAdd,env,ak,bG,Nat.lt_irrefl]
 |n+1,j,m,H,cur,h,hS,hb,hm=>by
  have hj:j<l.length:=by omega
  have hx:l[j]?=some l[j]:=List.getElem?_eq_getElem hj;have hd:(l.drop j)=l[j]::l.drop (j+1):=List.drop_eq_getElem_cons hj;have hwj:=dO (n:=l.length) hj (by simp only [ca];omega);have hwi:=dO (n:=ps.length) hi0 (by simp only [ca];omega);have hir:=aU (row:=ae.row) (tag:=tg) (sz:=3) (k:=.i64) hj;have hlp:∀ G,nF G .sl pv=some (.int .i64 ((ps.length:Nat):Int)):=fun G=>by rw [hpv];simp only [nF,List.length_map]
  rw [hd] at hm ⊢;rw [zy] at hm;have gx:=bg H [AObj.cells l[j].row ag];rw [List.getElem?_cons_zero] at gx;have h1:=hS.app [AObj.cells l[j].row ag];obtain ⟨_,l2⟩:=hS.le;have f1:=Frm.app H [AObj.cells l[j].row ag] l2;have hgi:=LY (n:=0) (i:=i) l[j];show ∃ H',_∧eU R c H' (gS (glue1 ps.length i (sel (kq ps.length i l[j]) cur (bN cur l[j])) (l.drop (j+1))))∧_
  have skip:kq ps.length i l[j]=true→∀ (k:List Fra) (He:List AObj),M.go cP H0 (.c bw :: .lp ⟨(some [0,12,13,64,65,66,71,72,73]),[],false⟩ bw He :: .blk 6 :: .c (.lv [0,12,64,65,66])::k) (kv [(0,pv),(12,.ptr c 0),(13,.int .i64 i),(64,pv),(65,.int .i64 ps.length),(66,.int .i64 i),(71,.slice tg 3 (l.map ae.row)),(72,.int .i64 l.length),(73,.int .i64 j)]) H =
    M.go cP H0 (.c bw :: .lp ⟨(some [0,12,13,64,65,66,71,72,73]),[],false⟩ bw (H++[AObj.cells l[j].row ag]) :: .blk 6 :: .c (.lv [0,12,64,65,66])::k) (kv [(0,pv),(12,.ptr c 0),(13,.int .i64 i),(64,pv),(65,.int .i64 ps.length),(66,.int .i64 i),(71,.slice tg 3 (l.map ae.row)),(72,.int .i64 l.length),(73,.int .i64 ((j+1:Nat):Int))]) (H++[AObj.cells l[j].row ag]):=fun hs k He=>by
   unfold kq at hs;rw [Bool.and_eq_true] at hs;obtain ⟨hs1,hs2⟩:=hs;cases k2:l[j].kind == 2 with
   |true=>
    have k3:(l[j].kind == 3)=false:=by rw [eq_of_beq k2];rfl
    rw [k2,k3,Bool.true_and,Bool.false_and,Bool.or_false] at hs2;rw [hs2] at hgi;rw [al M bw.eq_1];simp (maxSteps:=3000000) (maxDischargeDepth:=6) +contextual -implicitDefEqProofs only [amC M,↓amD,Nat.reduceBEq,Nat.reduceAdd,env,ak,bG,amG,AV.cell,Nat.reduceMul,Nat.reduceLeDiff,hj,hx,hir,hwj,hwi,hlp,bh,gx,hs1,k2,k3,hgi]
   |false=>
    cases k3:l[j].kind == 3 with
    |false=>rw [k2,k3] at hs2;cases hs2
    |true=>
     rw [k2,k3,Bool.true_and,Bool.false_and,Bool.false_or] at hs2;have hlt:i+1<ps.length:=of_decide_eq_true hs2;rw [al M bw.eq_1];simp (maxSteps:=3000000) (maxDischargeDepth:=6) +contextual -implicitDefEqProofs only [amC M,↓amD,Nat.reduceBEq,Nat.reduceAdd,env,ak,bG,amG,AV.cell,Nat.reduceMul,Nat.reduceLeDiff,hj,hx,hir,hwj,hwi,hlp,bh,gx,hs1,k2,k3,hlt]
  cases hsk:kq ps.length i l[j] with
  |true=>
   rw [sel_true];have sk:=skip hsk;obtain ⟨H2,i1,i2,i3⟩:=gl2 hC (H0:=H0) hpv hnp hi0 (tg:=tg) hl n (j+1) (m+(l[j].text.length+1)) _ cur (by omega) h1 (hb.mono (by omega)) (by omega);exact ⟨H2,fun k He=>by rw [sk k He,i1 k _],i2,f1.trans i3⟩
  |false=>
   rw [sel_false];have hb2:=hb.put l[j];obtain ⟨H1,p1,p2,p3,_⟩:=uu M hC h1 (show (gS cur).done.length≤100000000 from Nat.zero_le _) (show (gS cur).cur.length≤100000000 from by have:=hb.1;show cur.length≤_;omega) (fun x hx=>by have:=hb.2 x hx;omega) (p:=l[j]) (by omega);have p2':eU R c H1 (gS (bN cur l[j])):=p2
   have step:∀ (k:List Fra) (He:List AObj),M.go cP H0 (.c bw :: .lp ⟨(some [0,12,13,64,65,66,71,72,73]),[],false⟩ bw He :: .blk 6 :: .c (.lv [0,12,64,65,66])::k) (kv [(0,pv),(12,.ptr c 0),(13,.int .i64 i),(64,pv),(65,.int .i64 ps.length),(66,.int .i64 i),(71,.slice tg 3 (l.map ae.row)),(72,.int .i64 l.length),(73,.int .i64 j)]) H =
    M.go cP H0 (.c bw :: .lp ⟨(some [0,12,13,64,65,66,71,72,73]),[],false⟩ bw H1 :: .blk 6 :: .c (.lv [0,12,64,65,66])::k) (kv [(0,pv),(12,.ptr c 0),(13,.int .i64 i),(64,pv),(65,.int .i64 ps.length),(66,.int .i64 i),(71,.slice tg 3 (l.map ae.row)),(72,.int .i64 l.length),(73,.int .i64 ((j+1:Nat):Int))]) H1:=fun k He=>by
    unfold kq at hsk;cases kc:l[j].car with
    |false=>
     rw [al M bw.eq_1];simp (maxSteps:=3000000) (maxDischargeDepth:=6) +contextual -implicitDefEqProofs only [amC M,↓amD,Nat.reduceBEq,Nat.reduceAdd,env,ak,bG,amG,AV.cell,Nat.reduceMul,Nat.reduceLeDiff,hj,hx,hir,hwj,hwi,hlp,bh,gx,kc,p1]
    |true=>
     rw [kc,Bool.true_and] at hsk;cases k2:l[j].kind == 2 with
     |true=>
      have k3:(l[j].kind == 3)=false:=by rw [eq_of_beq k2];rfl
      rw [k2,k3,Bool.true_and,Bool.false_and,Bool.or_false] at hsk;rw [hsk] at hgi;rw [al M bw.eq_1];simp (maxSteps:=3000000) (maxDischargeDepth:=6) +contextual -implicitDefEqProofs only [amC M,↓amD,Nat.reduceBEq,Nat.reduceAdd,env,ak,bG,amG,AV.cell,Nat.reduceMul,Nat.reduceLeDiff,hj,hx,hir,hwj,hwi,hlp,bh,gx,kc,k2,k3,hgi,p1]
     |false=>
      rw [k2,Bool.false_and,Bool.false_or] at hsk;cases k3:l[j].kind == 3 with
      |false=>
       rw [al M bw.eq_1];simp (maxSteps:=3000000) (maxDischargeDepth:=6) +contextual -implicitDefEqProofs only [amC M,↓amD,Nat.reduceBEq,Nat.reduceAdd,env,ak,bG,amG,AV.cell,Nat.reduceMul,Nat.reduceLeDiff,hj,hx,hir,hwj,hwi,hlp,bh,gx,kc,k2,k3,p1]
      |true=>
       rw [k3,Bool.true_and] at hsk;have hlt:¬ (i+1<ps.length):=of_decide_eq_false hsk;rw [al M bw.eq_1];simp (maxSteps:=3000000) (maxDischargeDepth:=6) +contextual -implicitDefEqProofs only [amC M,↓amD,Nat.reduceBEq,Nat.reduceAdd,env,ak,bG,amG,AV.cell,Nat.reduceMul,Nat.reduceLeDiff,hj,hx,hir,hwj,hwi,hlp,bh,gx,kc,k2,k3,hlt,p1]
   obtain ⟨H2,i1,i2,i3⟩:=gl2 hC (H0:=H0) hpv hnp hi0 (tg:=tg) hl n (j+1) (m+(l[j].text.length+1)) _ _ (by omega) p2' hb2 (by omega);exact ⟨H2,fun k He=>by rw [step k He,i1 k _],i2,(f1.trans p3).trans i3⟩
theorem gl3(hC:lB E){H0:List AObj}{R:Nat→Prop}{c:Nat}{ps:List (Sl ae)}{tgp:Tag}(hnp:ps.length≤1000000)(hps:∀ p∈ps,p.l.length≤100000000):∀ (n i m:Nat) (H:List AObj) (cur:List ae),i+n=ps.length→eU R c H (gS cur)→uA m cur→m+szL (ps.drop i)≤100000000 →
  ∃ H',(∀ (k:List Fra) (He:List AObj),M.go cP H0 (.c js :: .lp ⟨(some [0,12,64,65,66]),[],false⟩ js He :: .blk 4 :: .c (.lv [12])::k) (kv [(0,.slice tgp 1 (ps.map gz)),(12,.ptr c 0),(64,.slice tgp 1 (ps.map gz)),(65,.int .i64 ps.length),(66,.int .i64 i)]) H=M.go cP H0 k (kv [(12,.ptr c 0)]) H')∧eU R c H' (gS (rA ps.length i cur (ps.drop i)))∧Frm R H H'
 |0,i,m,H,cur,h,hS,hb,hm=>by
  have e:i=ps.length:=by omega
  subst e;refine ⟨H,fun k He => ?_,by rw [List.drop_length];exact hS,Frm.refl R H⟩;rw [al M js.eq_1];simp (maxSteps:=3000000) (maxDischargeDepth:=6) +contextual -implicitDefEqProofs only [amC M,↓amD,Nat.reduceBEq,Nat.reduceAdd,env,ak,bG,Nat.lt_irrefl]
 |n+1,i,m,H,cur,h,hS,hb,hm=>by
  have hi:i<ps.length:=by omega
  have hx:ps[i]?=some ps[i]:=List.getElem?_eq_getElem hi;have hd:(ps.drop i)=ps[i]::ps.drop (i+1):=List.drop_eq_getElem_cons hi;have hwi:=dO (n:=ps.length) hi (by simp only [ca];omega);have hir:=aU (row:=gz) (tag:=tgp) (sz:=1) (k:=.i64) hi;have bi:=hps _ (List.getElem_mem hi);rw [hd] at hm ⊢;rw [Eg] at hm;obtain ⟨H1,a1,a2,a3⟩:=gl2 M hC (H0:=H0) (pv:=.slice tgp 1 (ps.map gz)) rfl hnp hi (l:=ps[i].l) (tg:=ps[i].tag) bi ps[i].l.length 0 m H cur (by omega) hS hb (by rw [List.drop_zero];omega)
  rw [List.drop_zero] at a2;have hb2:=uA.glue1 (n:=ps.length) (i:=i) ps[i].l hb;obtain ⟨H2,i1,i2,i3⟩:=gl3 hC (H0:=H0) (tgp:=tgp) hnp hps n (i+1) (m+szQ ps[i].l) H1 _ (by omega) a2 hb2 (by omega);refine ⟨H2,fun k He => ?_,i2,a3.trans i3⟩;simp only [kv_cons,kv_nil,Int.ofNat_zero] at a1 i1;rw [al M js.eq_1];simp (maxSteps:=3000000) (maxDischargeDepth:=6) +contextual -implicitDefEqProofs only [amC M,↓amD,Nat.reduceBEq,Nat.reduceAdd,env,ak,bG,hi,hx,hir,hwi,qPl,a1,i1,List.length_map]
def Eh(ps:List (Sl ae)):AV:=
 sel (decide (ps.length=0)) (.tuple [.slice .nil 3 [],.int .u8 1]) (sel (chkPs ps == 0) (sel (zx ps) (sel (p8 (rA ps.length 0 [] ps)) (.tuple [.slice .nil 3 [],.int .u8 3]) (.tuple [.slice (ng (rA ps.length 0 [] ps)) 3 ((rA ps.length 0 [] ps).map ae.row),.int .u8 0])) (.tuple [.slice .nil 3 [],.int .u8 10])) (.tuple [.slice .nil 3 [],.int .u8 (chkPs ps)]))
theorem HV(hB:lP E)(hX:Av M)(hC:lB E){ps:List (Sl ae)}{tg:Tag}(hn:ps.length≤1000000)(hps:∀ p∈ps,p.l.length≤1000000∧ru p.l)(hsz:szL ps≤100000000)(H:List AObj) :
  M.run qI [.slice tg 1 (ps.map gz)] H=some (.ret (Eh ps),H):=by
 have deS:=fun e=>GB (cut_refl H) 3 e
 simp only [hp_self] at deS;rw [b9 M hC.docs_Glue rfl (c:=qN) rfl,qN]
 by_cases h0:ps.length=0
 ·have d0:decide (ps.length=0)=true:=decide_eq_true h0
  have q0:(((ps.length:Nat):Int) == 0)=true:=by rw [h0];rfl
  simp (maxSteps:=3000000) (maxDischargeDepth:=6) +contextual -implicitDefEqProofs only [amC M,↓amD,Nat.reduceBEq,Nat.reduceAdd,env,ak,bG,List.length_map,q0,deS,Eh,d0]
 ·have d0:decide (ps.length=0)=false:=decide_eq_false h0
  have q0:(((ps.length:Nat):Int) == 0)=false:=beq_eq_false_iff_ne.2 (by omega);have g0:=fun k He=>gl0 M hB hX (cut_refl H) (tg:=tg) hn hps k ps.length 0 He (by omega)
  simp only [kv_cons,kv_nil,Int.ofNat_zero,List.drop_zero,hp_self] at g0;cases c0:chkPs ps == 0 with
  |false=>
   simp only [c0,sel_false] at g0;simp (maxSteps:=3000000) (maxDischargeDepth:=6) +contextual -implicitDefEqProofs only [amC M,↓amD,Nat.reduceBEq,Nat.reduceAdd,env,ak,bG,List.length_map,q0,g0,Eh,d0,c0]
  |true=>
   simp only [c0,sel_true] at g0;obtain ⟨G1,g1,l1,w1⟩:=gl1 M hC (H0:=H) (tg:=tg) hn (fun p hp=>by have:=(hps p hp).1;omega) (ps.length-1) 0 H (by omega) (Nat.le_refl _) (fun _ _=>rfl);simp only [kv_cons,kv_nil,(show (((0+1:Nat)):Int)=1 from rfl),List.drop_zero] at g1;cases c1:zx ps with
   |false=>
    simp only [c1,sel_false] at g1;simp (maxSteps:=3000000) (maxDischargeDepth:=6) +contextual -implicitDefEqProofs only [amC M,↓amD,Nat.reduceBEq,Nat.reduceAdd,env,ak,bG,List.length_map,q0,g0,g1,Eh,d0,c0,c1]
   |true=>
    simp only [c1,sel_true] at g1;obtain ⟨G,hG⟩:∃ G,G=G1++[AObj.cells [.slice .nil 3 []] ah,AObj.cells [.rslice G1.length 0 1 1 true,.slice .nil 1 [],.int .i64 0,.bool false,.slice .nil 1 []] aK]:=⟨_,rfl⟩
    have w0:eU (fun i=>i<H.length) (G1.length+1) G (gS []):=by
     refine ⟨G1.length,G1.length+2,[],.slice .nil 3 [],.nil,.slice .nil 1 [],⟨by omega,by omega,fun i hi=>by rw [hG];simp;omega,by rw [hG,hp_getk];rfl,by rw [hG,bg];rfl,rfl,fun i w l h=>by simp at h,.inl ⟨rfl,rfl⟩,fun Q o n e r eq=>(by cases eq),fun Q o n e r eq=>(by cases eq),by rw [hG];simp,.inl ⟨rfl,rfl⟩,fun Q o n e r eq=>(by cases eq),.inr (.inr (.inl rfl))⟩⟩
    obtain ⟨G3,s1,s2,s3⟩:=gl3 M hC (H0:=H) (tgp:=tg) hn (fun p hp=>by have:=(hps p hp).1;omega) ps.length 0 0 G [] (by omega) w0 ⟨Nat.le_refl _,fun x hx=>(by cases hx)⟩ (by rw [List.drop_zero];omega);rw [List.drop_zero] at s2;obtain ⟨P,q,vs,v,ta,ov,h⟩:=s2;have hvs:vs=[]:=List.length_eq_zero_iff.1 h.len;subst hvs
    have low:∀ m,m<H.length→G3[m]?=H[m]? := fun m hm=>by
     rw [s3.low m hm,hG,List.getElem?_append_left (by omega),w1 m hm]
    have hle:H.length≤G3.length:=by have:=s3.len;rw [hG] at this;simp at this;omega
    obtain ⟨hcut,htk⟩:=GE hle low;generalize hcu:rA ps.length 0 [] ps=cur at h;have hcl:=h.cell;have hpr:=h.par;have hlv:=fun G=>Fw (G:=G) h.cr
    have hia:=rM (id:=P) (n:=1) (i:=0) (by omega) .i64;have hld:bT none [v] 0=some v:=rfl;have hdn:(gS cur).done.length+1=1:=rfl;rw [hdn] at hcl;rw [List.nil_append] at hpr;simp only [kv_cons,kv_nil,Int.ofNat_zero] at s1 hia;rw [hG] at s1;have hbig:decide ((512:Int)<(((gS cur).cur.length:Nat):Int))=p8 cur:=rfl;have hde:=GB hcut 3 3;rw [htk] at hde;have hfz:=sK hcut (v:=.tuple [v,.int .u8 0]) ⟨6,yp (gD (MD h.cr h.pr) (gD (Fa _ _ _ _ _) (mJ _)))⟩
    rw [htk] at hfz;have hcc:(gS cur).cur=cur:=rfl;rw [hcc] at hfz;cases c2:p8 cur with
    |true=>
     simp (maxSteps:=3000000) (maxDischargeDepth:=6) +contextual -implicitDefEqProofs only [amC M,↓amD,Nat.reduceBEq,Nat.reduceAdd,env,ak,bG,amG,AV.cell,Nat.reduceMul,Nat.reduceLeDiff,rnc,List.length_map,q0,g0,g1,Eh,d0,c0,c1,hcu,s1,hcl,hpr,cl5,hia,hld,hlv,hbig,c2,hde]
    |false=>
     simp (maxSteps:=3000000) (maxDischargeDepth:=6) +contextual -implicitDefEqProofs only [amC M,↓amD,Nat.reduceBEq,Nat.reduceAdd,env,ak,bG,amG,AV.cell,Nat.reduceMul,Nat.reduceLeDiff,rnc,List.length_map,q0,g0,g1,Eh,d0,c0,c1,hcu,s1,hcl,hpr,cl5,hia,hld,hlv,hbig,c2,hfz]
end
section
attribute [local congr] aD bH aS aE aR aL aF au aw aM aN
variable{E:a8}(M:bY cC E)
end
section
attribute [local congr] aD bH aS aE aR aL aF au aw aM aN
variable{E:a8}(M:bY cC E)
end
section
attribute [local congr] aD bH aS aE aR aL aF au aw aM aN
variable{E:a8}(M:bY cC E)
theorem J0:∀ l:List ae,szQ l=l.length+jT l
 |[]=>rfl
 |x::l=>by
  rw [zy,J0 l,jT,jT,List.map_cons,List.sum_cons,List.length_cons];omega
theorem J1:∀ ps:List (Sl ae),szL ps=Ay ps
 |[]=>rfl
 |p::ps=>by
  rw [Eg,J1 ps,J0,Ay,Ay,List.map_cons,List.sum_cons]
end
theorem J2{s:Str}(hne:s≠[])(hv:¬ ((cq s).1=65533∧(cq s).2=1))(t:Str):cq (s.take (cq s).2++t)=cq s:=by
 have hl:0<s.length:=List.length_pos_iff.2 hne;unfold cq at *
 rw [Lib.decodeL_N s] at *
 rcases Lib.decodeN_shape s.length (s.getD 0 0).toNat (s.getD 1 0).toNat (s.getD 2 0).toNat (s.getD 3 0).toNat with ⟨c,e⟩ | ⟨c1,c2,c3,cv,e⟩ | ⟨c1,c2,c3,c4,cv,cs,e⟩ | ⟨c1,c2,c3,c4,c5,cv,cw,e⟩ | e
 ·rw [e,Lib.takeA s hl,Lib.decodeL_N]
  generalize s.getD 0 0=a at *
  simp only [List.cons_append,List.nil_append,List.getD_cons_zero,List.length_cons];unfold Lib.decodeN;rw [if_pos c]
 ·rw [e,Lib.takeB s c2,Lib.decodeL_N]
  generalize s.getD 0 0=a at *
  generalize s.getD 1 0=b at *
  simp only [List.cons_append,List.nil_append,List.getD_cons_zero,List.getD_cons_succ,List.length_cons];unfold Lib.decodeN;rw [if_neg (by omega),if_pos (by omega),if_pos (by omega)]
 ·rw [e,Lib.takeC s c2,Lib.decodeL_N]
  generalize s.getD 0 0=a at *
  generalize s.getD 1 0=b at *
  generalize s.getD 2 0=d at *
  simp only [List.cons_append,List.nil_append,List.getD_cons_zero,List.getD_cons_succ,List.length_cons];have:=a.toNat_lt;have:=b.toNat_lt;have:=d.toNat_lt;unfold Lib.decodeN;rw [if_neg (by omega),if_neg (by omega),if_pos (by omega),if_pos (by omega)]
 ·rw [e,Lib.takeD s c2,Lib.decodeL_N]
  generalize s.getD 0 0=a at *
  generalize s.getD 1 0=b at *
  generalize s.getD 2 0=d at *
  generalize s.getD 3 0=f at *
  simp only [List.cons_append,List.nil_append,List.getD_cons_zero,List.getD_cons_succ,List.length_cons];unfold Lib.decodeN;rw [if_neg (by omega),if_neg (by omega),if_neg (by omega),if_pos (by omega),if_pos (by omega)]
 ·rw [e] at hv
  exact absurd ⟨rfl,rfl⟩ hv
def nE(r:Nat):Prop:=vw r≠[]∧HF r (vw r).length=false∧∀ t,cq (vw r++t)=(r,(vw r).length)
theorem FB{s:Str}(hne:s≠[])(h:kG s=true):nE (cq s).1∧vw (cq s).1=s.take (cq s).2∧kG (s.drop (cq s).2)=true:=by
 rw [zh hne,Bool.and_eq_true,Bool.not_eq_true'] at h
 have hv:¬ ((cq s).1=65533∧(cq s).2=1):=fun e=>by
  have h1:=h.1;rw [e.1,e.2] at h1;cases h1
 have e1:vw (cq s).1=s.take (cq s).2:=Gi hne hv;have hl:=Co hne;have hw:=mP s;have e2:(s.take (cq s).2).length=(cq s).2:=by rw [List.length_take];omega
 refine ⟨⟨?_, ?_,fun t => ?_⟩,e1,h.2⟩
 ·intro e
  rw [e1] at e;rw [e] at e2;simp at e2;omega
 ·rw [e1,e2];exact h.1
 ·rw [e1,J2 hne hv,e2]
theorem Ei:∀ (n:Nat) (s:Str),s.length≤n→kG s=true→∀ r∈dJ s,nE r
 |0,s,h,_,r,hr=>by
  obtain rfl:s=[]:=List.eq_nil_of_length_eq_zero (by omega);cases hr
 |n+1,s,h,ht,r,hr=>by
  by_cases hs:s=[]
  ·subst hs;cases hr
  ·obtain ⟨g1,_,g3⟩:=FB hs ht
   rw [rm hs] at hr;rcases List.mem_cons.1 hr with rfl | hr
   ·exact g1
   ·have hw:=mP s
    exact Ei n _ (by rw [List.length_drop];omega) g3 r hr
theorem th:∀ (rs:List Nat),(∀ r∈rs,nE r)→dJ (jS rs)=rs∧kG (jS rs)=true
 |[],_=>⟨rfl,rfl⟩
 |r::rs,h=>by
  obtain ⟨g1,g2,g3⟩:=h r (by simp);obtain ⟨i1,i2⟩:=th rs fun x hx=>h x (by simp [hx])
  have e:jS (r::rs)=vw r++jS rs:=rfl;have hne:jS (r::rs)≠[]:=by rw [e];simp [g1]
  rw [rm hne,zh hne,e,g3,List.drop_left' rfl,i1,i2,g2];exact ⟨rfl,rfl⟩
theorem kr(a b:List Nat):jS (a++b)=jS a++jS b:=by simp [jS]
theorem LZ{rs:List Nat}(h:∀ r∈rs,nE r)(h0:rs≠[]):jS rs≠[]:=by
 cases rs with
 |nil=>exact absurd rfl h0
 |cons r rs=>
  show vw r++jS rs≠[];simp [(h r (by simp)).1]
def txP(rs:List Nat):ae:=⟨1,jS rs,false⟩
def Tx(x:ae):Prop:=(x.kind == 1)=false∨∃ rs,rs≠[]∧(∀ r∈rs,nE r)∧x=txP rs
def Sg(x:ae):Prop:=(x.kind == 1)=false∨∃ r,nE r∧x=txP [r]
theorem txP_one(r:Nat):txP [r]=mT r:=by
 unfold txP mT jS vw;simp
theorem Sg.tx{x:ae}(h:Sg x):Tx x:=by
 rcases h with h | ⟨r,h1,h2⟩
 ·exact .inl h
 ·exact .inr ⟨[r],by simp,fun y hy=>by simp at hy;subst hy;exact h1,h2⟩
def de(s:List ae):List ae:=s.foldl bN []
theorem kT(s:List ae)(x:ae):de (s++[x])=bN (de s) x:=by unfold de;rw [List.foldl_append];rfl
theorem putF_txP(l:List ae)(a b:List Nat):bN (l++[txP a]) (txP b)=l++[txP (a++b)]:=by
 rw [eI];show sel true _ _=_;rw [sel_true,txP,txP,txP,kr]
theorem rO{l:List ae}{x p:ae}(h:(x.kind == 1)=false):bN (l++[x]) p=l++[x]++[p]:=by
 rw [eI,h,Bool.and_false,sel_false]
theorem eV{α:Type}(l:List α):l=[]∨∃ m x,l=m++[x]:=by
 rcases List.eq_nil_or_concat l with h | ⟨m,x,h⟩
 ·exact .inl h
 ·exact .inr ⟨m,x,by simpa using h⟩
theorem mX{α:Type}{P:List α→Prop}(h0:P [])(h1:∀ l x,P l→P (l++[x]))(l:List α):P l:=by
 have key:∀ n (l:List α),l.length=n→P l:=by
  intro n;induction n with
  |zero=>intro l hl;rw [List.eq_nil_of_length_eq_zero hl];exact h0
  |succ n ih=>
   intro l hl;rcases eV l with rfl | ⟨m,x,rfl⟩
   ·exact h0
   ·exact h1 m x (ih m (by simpa using hl))
 exact key _ l rfl
theorem kU{l:List ae}(hl:∀ y∈l,Tx y){x:ae}(hx:Tx x):bN l x=l++[x]∨∃ m a b,l=m++[txP a]∧x=txP b∧bN l x=m++[txP (a++b)]:=by
 rcases hx with hx | ⟨b,b0,b1,rfl⟩
 ·exact .inl (rN hx)
 ·rcases eV l with rfl | ⟨m,y,rfl⟩
  ·exact .inl rfl
  ·rcases hl y (by simp) with hy | ⟨a,a0,a1,rfl⟩
   ·exact .inl (rO hy)
   ·exact .inr ⟨m,a,b,rfl,rfl,putF_txP _ _ _⟩
theorem J3{l:List ae}(hl:∀ y∈l,Tx y){x:ae}(hx:Tx x):∀ y∈bN l x,Tx y:=fun y hy=>by
 rcases kU hl hx with h | ⟨m,a,b,rfl,rfl,h⟩
 ·rw [h] at hy
  rcases List.mem_append.1 hy with hy | hy
  ·exact hl y hy
  ·simp at hy;subst hy;exact hx
 ·rw [h] at hy
  rcases List.mem_append.1 hy with hy | hy
  ·exact hl y (by simp [hy])
  ·simp at hy;subst hy
   have h1:=hl (txP a) (by simp);rcases h1 with h1 | ⟨a',n1,g1,e1⟩
   ·cases h1
   rcases hx with h2 | ⟨b',n2,g2,e2⟩
   ·cases h2
   refine .inr ⟨a'++b',by simp [n1],fun r hr => ?_, ?_⟩
   ·rcases List.mem_append.1 hr with hr | hr
    ·exact g1 r hr
    ·exact g2 r hr
   ·unfold txP at *
    injection e1 with _ e1 _;injection e2 with _ e2 _;rw [kr,kr,e1,e2]
theorem oF:∀ (s:List ae) {c:List ae},(∀ y∈c,Tx y)→(∀ y∈s,Tx y)→∀ y∈s.foldl bN c,Tx y
 |[],_,hc,_=>hc
 |x::s,_,hc,hs=>oF s (J3 hc (hs x (by simp))) fun y hy=>hs y (by simp [hy])
theorem mq{s:List ae}(h:∀ y∈s,Tx y):∀ y∈de s,Tx y:=oF s (fun y hy=>(by cases hy)) h
theorem L0(c:List ae)(hc:∀ y∈c,Tx y)(a b:List Nat):bN (bN c (txP a)) (txP b)=bN c (txP (a++b)):=by
 rcases eV c with rfl | ⟨m,y,rfl⟩
 ·show bN ([]++[txP a]) (txP b)=[]++[txP (a++b)]
  exact putF_txP _ _ _
 ·rcases hc y (by simp) with hy | ⟨d,_,_,rfl⟩
  ·rw [rO hy,rO hy,putF_txP]
  ·rw [putF_txP,putF_txP,putF_txP,List.append_assoc]
theorem rP{c:List ae}(hc:∀ y∈c,Tx y)(s:List ae)(hs:∀ y∈s,Tx y):(de s).foldl bN c=s.foldl bN c:=by
 induction s using mX with
 |h0=>rfl
 |h1 s x ih=>
  have hs1:∀ y∈s,Tx y:=fun y hy=>hs y (by simp [hy])
  have ih:=ih hs1;rw [kT,List.foldl_append,List.foldl_cons,List.foldl_nil,← ih];rcases kU (mq hs1) (hs x (by simp)) with h | ⟨m,a,b,e1,e2,h⟩
  ·rw [h,List.foldl_append];rfl
  ·rw [h,e1,e2,List.foldl_append,List.foldl_append,List.foldl_cons,List.foldl_nil,List.foldl_cons,List.foldl_nil]
   have hm:∀ y∈m,Tx y:=fun y hy=>mq hs1 y (by rw [e1];simp [hy])
   rw [L0 _ (oF m hc hm)]
theorem ti{c:List ae}(hc:∀ y∈c,(y.kind == 1)=false)(s:List ae)(hs:∀ y∈s,Tx y):s.foldl bN c=c++de s:=by
 induction s using mX with
 |h0=>simp [de]
 |h1 s x ih=>
  have hs1:∀ y∈s,Tx y:=fun y hy=>hs y (by simp [hy])
  rw [List.foldl_append,List.foldl_cons,List.foldl_nil,ih hs1,kT];rcases eV (de s) with e | ⟨m,y,e⟩
  ·rw [e,List.append_nil]
   rcases eV c with rfl | ⟨m,y,rfl⟩
   ·rfl
   ·rw [rO (hc y (by simp))];rfl
  ·rw [e,← List.append_assoc,eI,eI]
   cases x.kind == 1&&y.kind == 1<;>simp [sel]
theorem rB(a b:List ae):il (a++b)=il a++il b:=by simp [il]
theorem zA(x:ae):il [x]=mU x:=by simp [il]
theorem uB{x:ae}(h:(x.kind == 1)=false):mU x=[x]:=by unfold mU;rw [h,sel_false]
theorem rQ{rs:List Nat}(h:∀ r∈rs,nE r):mU (txP rs)=rs.map mT:=by
 unfold mU;show sel true _ _=_;rw [sel_true];show (dJ (jS rs)).map mT=_;rw [(th rs h).1]
theorem GF{l:List ae}(h:∀ y∈l,(y.kind == 1)=false):il l=l:=by
 induction l with
 |nil=>rfl
 |cons x l ih=>
  show mU x++il l=_;rw [uB (h x (by simp)),ih fun y hy=>h y (by simp [hy])];rfl
theorem J4{s:List ae}(hs:∀ y∈s,Sg y):il (de s)=s:=by
 induction s using mX with
 |h0=>rfl
 |h1 s x ih=>
  have hs1:∀ y∈s,Sg y:=fun y hy=>hs y (by simp [hy])
  have ih:=ih hs1;have ht:=mq fun y hy=>(hs1 y hy).tx
  have hx:=hs x (by simp)
  have hsx:mU x=[x]:=by
   rcases hx with h | ⟨r,h1,rfl⟩
   ·exact uB h
   ·rw [rQ fun y hy=>by simp at hy;subst hy;exact h1,txP_one];rfl
  rw [kT];rcases kU ht hx.tx with h | ⟨m,a,b,e1,e2,h⟩
  ·rw [h,rB,ih,zA,hsx]
  ·have ga:∃ a',(∀ r∈a',nE r)∧txP a=txP a':=by
    rcases ht (txP a) (by rw [e1];simp) with h1 | ⟨a',_,g,e⟩
    ·cases h1
    ·exact ⟨a',g,e⟩
   obtain ⟨a',ga,ea⟩:=ga
   obtain ⟨r,gr,er⟩:∃ r,nE r∧txP b=txP [r]:=by
    rw [e2] at hx;rcases hx with h1 | ⟨r,g,e⟩
    ·cases h1
    ·exact ⟨r,g,e⟩
   have eab:txP (a++b)=txP (a'++[r]):=by
    unfold txP at ea er ⊢;injection ea with _ ea _;injection er with _ er _;rw [kr,kr,ea,er]
   rw [h,eab,rB,zA,rQ (fun y hy=>by
    rcases List.mem_append.1 hy with hy | hy
    ·exact ga y hy
    ·simp at hy;subst hy;exact gr),List.map_append,← rQ ga,← ea,← List.append_assoc,← zA,← rB,← e1,ih,e2,er,txP_one];rfl
def NA:Bool→List ae→Prop
 |_,[]=>True
 |p,x::l=>(p&&(x.kind == 1))=false∧NA (x.kind == 1) l
theorem zB{a b:List ae}:∀ {p:Bool},NA p (a++b)↔NA p a∧NA (a.foldl (fun _ x=>x.kind == 1) p) b:=by
 induction a with
 |nil=>intro p;simp [NA]
 |cons x a ih=>intro p;simp only [List.cons_append,NA,List.foldl_cons,ih,and_assoc]
theorem Ej:∀ (l:List ae) (c:List ae) (p:Bool),(∀ y∈l,Tx y)→NA p l→(p=false→∀ m y,c=m++[y]→(y.kind == 1)=false)→(il l).foldl bN c=c++l
 |[],c,p,_,_,_=>by simp [il]
 |x::l,c,p,ht,ha,hc=>by
  have hl:∀ y∈l,Tx y:=fun y hy=>ht y (by simp [hy])
  have hcx:bN c x=c++[x]:=by
   cases k:x.kind == 1 with
   |false=>exact rN k
   |true=>
    have h1:=ha.1;rw [k,Bool.and_true] at h1;rcases eV c with rfl | ⟨m,y,rfl⟩
    ·rfl
    ·exact rO (hc h1 m y rfl)
  show (mU x++il l).foldl bN c=c++x::l;rw [List.foldl_append]
  have h2:(mU x).foldl bN c=c++[x]:=by
   rcases ht x (by simp) with h | ⟨rs,h0,hg,rfl⟩
   ·rw [uB h];exact hcx
   ·rw [rQ hg]
    have key:∀ (q:List Nat) (a:List Nat),(q.map mT).foldl bN (c++[txP a])=c++[txP (a++q)]:=by
     intro q;induction q with
     |nil=>intro a;simp
     |cons r q ih=>intro a;rw [List.map_cons,List.foldl_cons,← txP_one,putF_txP,ih,List.append_assoc];rfl
    cases rs with
    |nil=>exact absurd rfl h0
    |cons r rs=>
     have h3:bN c (txP [r])=c++[txP [r]]:=by
      have h1:=ha.1;rw [show ((txP (r::rs)).kind == 1)=true from rfl,Bool.and_true] at h1;rcases eV c with rfl | ⟨m,y,rfl⟩
      ·rfl
      ·exact rO (hc h1 m y rfl)
     rw [List.map_cons,List.foldl_cons,← txP_one,h3,key];rfl
  rw [h2,Ej l (c++[x]) (x.kind == 1) hl ha.2 (fun hp m y e=>by
   have e2:=(List.append_inj' e rfl).2;simp at e2;subst e2;exact hp)]
  simp
def Cx(x:ae):Bool := !(x.kind == 1)||(!(x.text == [])&&kG x.text)
def nxt(st:List Str)(x:ae):List Str:=if x.kind == 2 then x.text::st else if x.kind == 3 then st.tail else st
def okW(b e:Bool)(st:List Str)(x:ae):Bool:=
 !zk x&&(!xd x&&(Cx x&&(!xf x&&(fQ b e x&&(!((x.kind == 3) && !rr st x.text) && !((x.kind == 2)&&decide ((16:Int)<((x.text::st).length:Int))))))))
def Wok:List ae→Bool→Bool→List Str→Prop
 |[],_,_,_=>True
 |x::l,b,e,st=>okW b e st x=true∧Wok l (b || !bA x) (e||aY x) (nxt st x)
def bF(b:Bool)(l:List ae):Bool:=b||l.any fun x => !bA x
def eF(e:Bool)(l:List ae):Bool:=e||l.any aY
def sF(st:List Str)(l:List ae):List Str:=l.foldl nxt st
theorem GG(b:Bool)(x:ae)(l:List ae):bF b (x::l)=bF (b || !bA x) l:=by simp [bF,Bool.or_assoc]
theorem Cy(b:Bool)(x:ae)(l:List ae):eF b (x::l)=eF (b||aY x) l:=by simp [eF,Bool.or_assoc]
theorem vz(b:Bool)(l m:List ae):bF b (l++m)=bF (bF b l) m:=by simp [bF,Bool.or_assoc]
theorem vA(b:Bool)(l m:List ae):eF b (l++m)=eF (eF b l) m:=by simp [eF,Bool.or_assoc]
theorem mY(st:List Str)(l m:List ae):sF st (l++m)=sF (sF st l) m:=List.foldl_append ..
theorem gj:∀ {a c:List ae}{b e:Bool}{st:List Str},Wok (a++c) b e st↔Wok a b e st∧Wok c (bF b a) (eF e a) (sF st a)
 |[],c,b,e,st=>by simp [Wok,bF,eF,sF]
 |x::a,c,b,e,st=>by
  rw [List.cons_append,Wok,Wok,gj,GG,Cy,and_assoc];rfl
theorem k12{x:ae}(h:(x.kind == 1)=true):(x.kind == 2)=false∧(x.kind == 3)=false∧(x.kind == 5)=false:=by
 rw [eq_of_beq h];exact ⟨rfl,rfl,rfl⟩
theorem k23{x:ae}(h:(x.kind == 2)=true):(x.kind == 1)=false∧(x.kind == 3)=false∧(x.kind == 5)=false:=by
 rw [eq_of_beq h];exact ⟨rfl,rfl,rfl⟩
theorem k31{x:ae}(h:(x.kind == 3)=true):(x.kind == 1)=false∧(x.kind == 2)=false∧(x.kind == 5)=false:=by
 rw [eq_of_beq h];exact ⟨rfl,rfl,rfl⟩
theorem GH(x:ae)(st:List Str):(if x.kind == 2 then x.text::stP x st else stP x st)=nxt st x:=by
 unfold stP nxt;cases c2:x.kind == 2 with
 |true=>simp [(k23 c2).2.1]
 |false=>simp only [Bool.false_eq_true,if_false]
theorem J5{p:Bool}{x:ae}:Cp p x=false↔Cx x=true∧(p&&(x.kind == 1))=false:=by
 unfold Cp Cx;cases x.kind == 1<;>cases x.text == []<;>cases kG x.text<;>cases p<;>simp
theorem Ek:∀ (l:List ae) (p b e:Bool) (st:List Str),uo l p b e st=0↔NA p l∧Wok l b e st∧sF st l=[]
 |[],p,b,e,st=>by
  unfold uo NA Wok sF;cases st<;>simp [sel]<;>omega
 |x::l,p,b,e,st=>by
  have ih:=Ek l (x.kind == 1) (b || !bA x) (e||aY x) (nxt st x);rw [uo,NA,Wok,show sF st (x::l)=sF (nxt st x) l from rfl];unfold okW;cases c1:zk x with
  |true=>simp [sel]
  |false=>
  cases c2:xd x with
  |true=>simp [sel]
  |false=>
  cases c3:Cp p x with
  |true=>
   have h3:¬ (Cx x=true∧(p&&(x.kind == 1))=false):=fun h=>by rw [J5.2 h] at c3;cases c3
   simp only [sel];constructor
   ·intro h;cases h
   ·rintro ⟨⟨h1,_⟩,⟨h2,_⟩,_⟩
    simp only [Bool.and_eq_true] at h2;exact absurd ⟨h2.2.2.1,h1⟩ h3
  |false=>
  obtain ⟨t1,t2⟩:=J5.1 c3;rw [t1,t2];cases c4:xf x with
  |true=>simp [sel]
  |false=>
  cases c5:fQ b e x with
  |false=>simp [sel]
  |true=>
  cases c6:(x.kind == 3) && !rr st x.text with
  |true=>simp [sel]
  |false=>
  cases c7:x.kind == 2 with
  |false=>
   have hs:stP x st=nxt st x:=by have:=GH x st;rwa [c7,if_neg (by simp)] at this
   rw [hs];simp only [sel,Bool.not_false,Bool.true_and,Bool.false_and,true_and];exact ih
  |true=>
   have hs:x.text::stP x st=nxt st x:=by have:=GH x st;rwa [c7,if_pos rfl] at this
   have hp:stP x st=st:=by unfold stP;rw [if_neg (by rw [(k23 c7).2.1];simp)]
   have h2:nxt st x=x.text::st:=by rw [← hs,hp]
   rw [hs,h2];rw [h2] at ih;cases c8:decide ((16:Int)<((x.text::st).length:Int)) with
   |true=>simp [sel]
   |false=>
    simp only [sel,Bool.not_false,Bool.true_and,true_and];exact ih
theorem pA(l:List ae):cS l=0↔l.length≤512∧NA false l∧Wok l false false []∧sF [] l=[]:=by
 unfold cS;cases c:decide ((512:Int)<(l.length:Int)) with
 |true=>
  have:=of_decide_eq_true c;simp only [sel];constructor
  ·intro h;cases h
  ·intro h;omega
 |false=>
  have:=of_decide_eq_false c;rw [sel_false,Ek];constructor
  ·intro h;exact ⟨by omega,h⟩
  ·intro h;exact h.2
theorem Cz{b e:Bool}{st:List Str}{x:ae}(h:okW b e st x=true):Tx x:=by
 unfold okW at h;simp only [Bool.and_eq_true,Bool.not_eq_true'] at h;cases k:x.kind == 1 with
 |false=>exact .inl k
 |true=>
  have h1:=h.2.1;have h2:=h.2.2.1;unfold xd at h1;rw [(k12 k).1,(k12 k).2.1] at h1;unfold Cx at h2;rw [k] at h2;simp only [Bool.not_true,Bool.false_or,Bool.and_eq_true,Bool.not_eq_true',beq_eq_false_iff_ne] at h2;refine .inr ⟨dJ x.text,fun e => ?_,Ei _ _ (Nat.le_refl _) h2.2, ?_⟩
  ·have:=Be h2.2
   rw [e] at this;exact h2.1 this.symm
  ·obtain ⟨kd,t,c⟩:=x
   unfold txP;dsimp only at *
   rw [Be h2.2,eq_of_beq k];simp at h1;rw [h1]
theorem zC:∀ {l:List ae}{b e:Bool}{st:List Str},Wok l b e st→∀ y∈l,Tx y
 |x::l,b,e,st,h,y,hy=>by
  rcases List.mem_cons.1 hy with rfl | hy
  ·exact Cz h.1
  ·exact zC h.2 y hy
theorem xo{b e:Bool}{st:List Str}{rs:List Nat}(h0:rs≠[])(hg:∀ r∈rs,nE r):okW b e st (txP rs) = !e:=by
 have h1:Cx (txP rs)=true:=by
  unfold Cx;have h2:=LZ hg h0;have h3:=(th rs hg).2;simp [txP,h2,h3]
 unfold okW;rw [h1];simp [zk,xd,xf,fQ,bA,aY,txP]
theorem Bp{st:List Str}:∀ {rs:List Nat}{b:Bool},(∀ r∈rs,nE r)→Wok (rs.map mT) b false st
 |[],_,_=>trivial
 |r::rs,b,h=>by
  rw [List.map_cons,← txP_one];exact ⟨xo (by simp) fun y hy=>by simp at hy;subst hy;exact h _ (by simp),Bp fun y hy=>h y (by simp [hy])⟩
theorem J6{rs:List Nat}:(∀ st,sF st (rs.map mT)=st)∧(∀ e,eF e (rs.map mT)=e)∧∀ b,rs≠[]→bF b (rs.map mT)=true:=by
 refine ⟨fun st => ?_,fun e => ?_,fun b h => ?_⟩
 ·induction rs with
  |nil=>rfl
  |cons r rs ih=>exact ih
 ·induction rs with
  |nil=>simp [eF]
  |cons r rs ih=>rw [List.map_cons,Cy,show aY (mT r)=false from rfl,Bool.or_false];exact ih
 ·cases rs with
  |nil=>exact absurd rfl h
  |cons r rs=>simp [bF,mT,bA]
theorem J7:∀ {l:List ae}{b e:Bool}{st:List Str},Wok l b e st→Wok (il l) b e st∧bF b (il l)=bF b l∧eF e (il l)=eF e l∧sF st (il l)=sF st l
 |[],b,e,st,_=>⟨trivial,rfl,rfl,rfl⟩
 |x::l,b,e,st,h=>by
  obtain ⟨i1,i2,i3,i4⟩:=J7 h.2;show Wok (mU x++il l) _ _ _∧bF _ (mU x++il l)=_∧eF _ (mU x++il l)=_∧sF _ (mU x++il l)=_;rw [vz,vA,mY,GG,Cy,show sF st (x::l)=sF (nxt st x) l from rfl,gj]
  have key:Wok (mU x) b e st∧bF b (mU x)=(b || !bA x)∧eF e (mU x)=(e||aY x)∧sF st (mU x)=nxt st x:=by
   rcases Cz h.1 with k | ⟨rs,h0,hg,rfl⟩
   ·rw [uB k]
    exact ⟨⟨h.1,trivial⟩,by simp [bF],by simp [eF],rfl⟩
   ·rw [rQ hg]
    have he:=h.1;rw [xo h0 hg,Bool.not_eq_true'] at he;subst he;obtain ⟨f1,f2,f3⟩:=J6 (rs:=rs);refine ⟨Bp hg, ?_, ?_, ?_⟩
    ·rw [f3 b h0];simp [txP,bA]
    ·rw [f2];rfl
    ·rw [f1];rfl
  obtain ⟨a1,a2,a3,a4⟩:=key;rw [a2,a3,a4];exact ⟨⟨a1,i1⟩,i2,i3,i4⟩
theorem J8:∀ {l:List ae}{b e:Bool}{st:List Str},Wok l b e st→∀ y∈il l,Sg y
 |x::l,b,e,st,h,y,hy=>by
  rcases List.mem_append.1 (show y∈mU x++il l from hy) with hy | hy
  ·rcases Cz h.1 with k | ⟨rs,h0,hg,rfl⟩
   ·rw [uB k] at hy;simp at hy;subst hy;exact .inl k
   ·rw [rQ hg] at hy
    obtain ⟨r,hr,rfl⟩:=List.mem_map.1 hy;exact .inr ⟨r,hg r hr,(txP_one r).symm⟩
  ·exact J8 h.2 y hy
theorem L2{b e:Bool}{st:List Str}{s:List ae}(h:Wok s b e st):Wok (de s) b e st∧bF b (de s)=bF b s∧eF e (de s)=eF e s∧sF st (de s)=sF st s∧NA false (de s):=by
 induction s using mX with
 |h0=>exact ⟨trivial,rfl,rfl,rfl,trivial⟩
 |h1 s x ih=>
  obtain ⟨h1,h2⟩:=gj.1 h;obtain ⟨i1,i2,i3,i4,i5⟩:=ih h1;have hs1:=zC h1;have hx:=Cz h2.1;rw [kT];rcases kU (mq hs1) hx with hc | ⟨m,a,c,e1,e2,hc⟩
  ·rw [hc,vz,vA,mY,vz,vA,mY,i2,i3,i4,gj,i2,i3,i4]
   refine ⟨⟨i1,h2⟩,rfl,rfl,rfl, ?_⟩;rw [zB];refine ⟨i5, ?_,trivial⟩;rcases eV (de s) with e0 | ⟨m,y,e0⟩
   ·rw [e0];rfl
   ·rw [e0,List.foldl_append]
    show ((y.kind == 1)&&(x.kind == 1))=false;cases k1:x.kind == 1 with
    |false=>exact Bool.and_false _
    |true=>
     cases k2:y.kind == 1 with
     |false=>rfl
     |true=>
      rw [e0,eI,k1,k2] at hc;have:=congrArg List.length hc;simp [sel] at this
  ·subst e2
   rw [e1] at i1 i2 i3 i4 i5;obtain ⟨j1,j2⟩:=gj.1 i1
   have ha:∃ a',a'≠[]∧(∀ r∈a',nE r)∧txP a=txP a':=by
    rcases mq hs1 (txP a) (by rw [e1];simp) with h1 | ⟨a',n,g,e⟩
    ·cases h1
    ·exact ⟨a',n,g,e⟩
   obtain ⟨a',n1,g1,ea⟩:=ha
   have hcc:∃ c',c'≠[]∧(∀ r∈c',nE r)∧txP c=txP c':=by
    rcases hx with h1 | ⟨c',n,g,e⟩
    ·cases h1
    ·exact ⟨c',n,g,e⟩
   obtain ⟨c',n2,g2,ec⟩:=hcc
   have eac:txP (a++c)=txP (a'++c'):=by
    unfold txP at ea ec ⊢;injection ea with _ ea _;injection ec with _ ec _;rw [kr,kr,ea,ec]
   have g3:∀ r∈a'++c',nE r:=fun r hr=>by
    rcases List.mem_append.1 hr with hr | hr
    ·exact g1 r hr
    ·exact g2 r hr
   rw [hc,eac,vz,vA,mY,vz,vA,mY,← i2,← i3,← i4,vz,vA,mY,gj,zB];have o1:=j2.1;rw [ea,xo n1 g1] at o1;refine ⟨⟨j1, ?_,trivial⟩, ?_, ?_,rfl, ?_⟩
   ·rw [xo (by simp [n1]) g3];exact o1
   ·simp [bF,txP,bA]
   ·simp [eF,txP,aY]
   ·rw [zB] at i5
    exact ⟨i5.1,i5.2.1,trivial⟩
theorem FC{b e b' e':Bool}{x:ae}(hb:b'=true→b=true)(he:e'=true→e=true)(h:fQ b e x=true):fQ b' e' x=true:=by
 unfold fQ at *
 generalize bA x=o at *
 generalize aY x=c at *
 revert b e b' e' o c;decide
theorem J9{b e b' e':Bool}{st:List Str}{x:ae}(hb:b'=true→b=true)(he:e'=true→e=true)(h:okW b e st x=true):okW b' e' st x=true:=by
 unfold okW at *
 simp only [Bool.and_eq_true] at h ⊢;exact ⟨h.1,h.2.1,h.2.2.1,h.2.2.2.1,FC hb he h.2.2.2.2.1,h.2.2.2.2.2⟩
theorem El:∀ {l:List ae}{b e b' e':Bool}{st:List Str},(b'=true→b=true)→(e'=true→e=true)→Wok l b e st→Wok l b' e' st
 |[],_,_,_,_,_,_,_,_=>trivial
 |x :: l,b,e,b',e',st,hb,he,h=>⟨J9 hb he h.1,El (fun hh=>by
    cases b' with
    |true=>rw [hb rfl];rfl
    |false=>simp at hh;simp [hh]) (fun hh=>by
    cases e' with
    |true=>rw [he rfl];rfl
    |false=>simp at hh;simp [hh]) h.2⟩
theorem pB:∀ {l:List ae}{e:Bool}{st:List Str},Wok l true e st→∀ x∈l,bA x=false
 |y::l,e,st,h,x,hx=>by
  rcases List.mem_cons.1 hx with rfl | hx
  ·have h1:=h.1
   unfold okW fQ at h1;simp only [Bool.and_eq_true,Bool.not_eq_true',Bool.and_true,Bool.or_eq_false_iff] at h1;exact h1.2.2.2.2.1.1
  ·exact pB h.2 x hx
theorem rC{c:List ae}{y:ae}{t:List ae}{b e:Bool}{st:List Str}(h:Wok (c++y::t) b e st)(hy:(y.kind == 3)=false):∀ x∈c,aY x=false:=fun x hx=>by
 have h1:=(gj.1 h).2.1;unfold okW fQ at h1;simp only [Bool.and_eq_true,Bool.not_eq_true',Bool.or_eq_false_iff] at h1;have h2:=h1.2.2.2.2.1.2;have h3:aY y=false:=by unfold aY;rw [hy];rfl
 rw [h3,Bool.not_false,Bool.and_true] at h2;unfold eF at h2;rw [Bool.or_eq_false_iff] at h2;have:=List.any_eq_false.1 h2.2 x hx;simpa using this
def isU(x:ae):Bool:=(x.kind == 1)||(x.kind == 5)
def uN(l:List ae):Nat:=(l.filter isU).length
theorem ks(a b:List ae):uN (a++b)=uN a+uN b:=by simp [uN]
theorem rR(x:ae)(l:List ae):uN (x::l)=(if isU x=true then 1 else 0)+uN l:=by
 unfold uN;rw [List.filter_cons];split<;>simp;omega
theorem GI{l:List ae}(h:∀ x∈l,isU x=false):uN l=0:=by
 unfold uN;rw [List.length_eq_zero_iff,List.filter_eq_nil_iff];intro x hx;simp [h x hx]
theorem GJ{x:ae}(h:(x.kind == 3)=true):isU x=false:=by unfold isU;rw [(k31 h).1,(k31 h).2.2];rfl
theorem Ol{x:ae}(h:(x.kind == 2)=true):isU x=false:=by unfold isU;rw [(k23 h).1,(k23 h).2.2];rfl
def Hd(s:List ae):Prop:=∃ y t,s=y::t∧(y.kind == 3)=false
def Ck:Nat→List ae→Prop
 |d,[]=>d=0
 |0,x::c=>(x.kind == 3)=true∧Ck 0 c
 |d+1,x::c=>Ck (if isU x=true then d else d+1) c
def brk:Nat→List ae→List ae×List ae
 |_,[]=>([],[])
 |0,x::s=>if (x.kind == 3)=true then (x::(brk 0 s).1,(brk 0 s).2) else ([],x::s)
 |d+1,x::s=>(x::(brk (if isU x=true then d else d+1) s).1,(brk (if isU x=true then d else d+1) s).2)
theorem FD:∀ (s:List ae) (d:Nat),d<uN s→Ck d (brk d s).1∧s=(brk d s).1++(brk d s).2∧Hd (brk d s).2
 |[],d,h=>by simp [uN] at h
 |x::s,0,h=>by
  rw [rR] at h;cases k:x.kind == 3 with
  |true=>
   rw [GJ k] at h;obtain ⟨i1,i2,i3⟩:=FD s 0 (by simpa using h);unfold brk;rw [if_pos k];exact ⟨⟨k,i1⟩,by rw [List.cons_append,← i2],i3⟩
  |false=>
   unfold brk;rw [if_neg (by rw [k];simp)];exact ⟨rfl,rfl,x,s,rfl,k⟩
 |x::s,d+1,h=>by
  rw [rR] at h;obtain ⟨i1,i2,i3⟩:=FD s (if isU x=true then d else d+1) (by split at h<;>simp_all<;>omega);unfold brk;exact ⟨i1,by rw [List.cons_append,← i2],i3⟩
theorem uC:∀ {c:List ae}{d:Nat},Ck d c→uN c=d
 |[],d,h=>by unfold Ck at h;subst h;rfl
 |x::c,0,h=>by rw [rR,uC h.2,GJ h.1];rfl
 |x::c,d+1,h=>by
  have:=uC (c:=c) (d:=if isU x=true then d else d+1) h;rw [rR,this];split<;>omega
theorem GK:∀ {O:List ae}{d:Nat}{c:List ae},(∀ x∈O,isU x=false)→0<d→Ck d c→Ck d (O++c)
 |[],d,c,_,_,h=>h
 |x::O,0,c,hO,hd,h=>by omega
 |x::O,d+1,c,hO,hd,h=>by
  show Ck (if isU x=true then d else d+1) (O++c);rw [hO x (by simp)];exact GK (fun y hy=>hO y (by simp [hy])) hd h
def Cks:Nat→List Int→List (List ae)→Prop
 |_,[],cs => ∃ c,cs=[c]
 |_,_::_,[]=>False
 |n,p::P,c::cs=>(n:Int)<p∧Ck (p.toNat-n) c∧Hd cs.flatten∧Cks p.toNat P cs
def zD(N:Nat):Nat→List Int→Prop
 |_,[]=>True
 |n,p::P=>(n:Int)<p∧p<(N:Int)∧zD N p.toNat P
theorem FE(N:Nat):∀ (pos:List Int) (q:Option Int) (n:Nat),(∀ x,q=some x→(n:Int)=x)→(q=none→n=0)→okA (N:Int) q pos=true→zD N n pos
 |[],_,_,_,_,_=>trivial
 |p::P,q,n,hq,hn,h=>by
  rw [uw] at h;simp only [Bool.and_eq_true,Bool.not_eq_true',decide_eq_false_iff_not] at h;obtain ⟨h1,h2,h3,h4⟩:=h;refine ⟨?_,by omega,FE N P (some p) p.toNat (fun x hx=>by cases hx;omega) (fun e=>by cases e) h4⟩;cases q with
  |none=>rw [hn rfl];omega
  |some x=>
   have:=hq x rfl;simp only [decide_eq_false_iff_not,Bool.not_eq_true'] at h3;omega
theorem Ka(N:Nat):∀ (pos:List Int) (n:Nat) (s:List ae),zD N n pos→uN s+n=N→∃ cs,cs.flatten=s∧Cks n pos cs
 |[],n,s,_,_=>⟨[s],by simp,s,rfl⟩
 |p::P,n,s,h,hu=>by
  obtain ⟨h1,h2,h3⟩:=h;obtain ⟨b1,b2,b3⟩:=FD s (p.toNat-n) (by omega);have hc:=uC b1;have hs:=congrArg uN b2;rw [ks] at hs;obtain ⟨cs,c1,c2⟩:=Ka N P p.toNat (brk (p.toNat-n) s).2 h3 (by omega);exact ⟨(brk (p.toNat-n) s).1::cs,by rw [List.flatten_cons,c1,← b2],h1,b1,by rw [c1];exact b3,c2⟩
theorem mr:∀ {pos:List Int}{n:Nat}{cs:List (List ae)},Cks n pos cs→cs.length=pos.length+1
 |[],_,_,⟨c,h⟩=>by rw [h];rfl
 |p::P,n,[],h=>absurd h id
 |p::P,n,c::cs,h=>by rw [List.length_cons,mr h.2.2.2];rfl
def FF(cur:List ae)(o:List Str):List (List ae)→List (List ae)
 |[]=>[]
 |c::cs=>match cs with
  |[]=>[c.foldl bN cur]
  |d::cs=>(c.foldl bN cur++(c.foldl cY o).reverse.map fS)::FF ((c.foldl cY o).map eG) (c.foldl cY o) (d::cs)
theorem Em(cur:List ae)(o:List Str)(c:List ae):FF cur o [c]=[c.foldl bN cur]:=rfl
theorem En(cur:List ae)(o:List Str)(c d:List ae)(cs:List (List ae)):FF cur o (c::d::cs)=(c.foldl bN cur++(c.foldl cY o).reverse.map fS)::FF ((c.foldl cY o).map eG) (c.foldl cY o) (d::cs):=rfl
theorem FG{pos:List Int}:∀ (c:List ae) (d:Nat) (T:CSt),Ck d c→T.done.length<pos.length→pos.getD T.done.length 0=((T.place+d:Nat):Int)→c.foldl (mW pos) T = { T with cur:=c.foldl bN T.cur,opn:=c.foldl cY T.opn,place:=T.place+d }
 |[],d,T,h,_,_=>by unfold Ck at h;subst h;rfl
 |x::c,0,T,h,hm,hp=>by
  have hc:rz pos T x=false:=by unfold rz;rw [h.1,Bool.not_true,Bool.and_false,Bool.and_false]
  have hS:mW pos T x = { T with cur:=bN T.cur x,opn:=cY T.opn x }:=by
   unfold mW;rw [hc,sel_false];unfold AA;rw [show ((x.kind == 1)||(x.kind == 5))=isU x from rfl,GJ h.1,sel_false]
  rw [List.foldl_cons,hS,FG c 0 { T with cur:=bN T.cur x,opn:=cY T.opn x } h.2 hm hp];rfl
 |x::c,d+1,T,h,hm,hp=>by
  have hc:rz pos T x=false:=by
   unfold rz;rw [hp,show ((T.place:Int) == ((T.place+(d+1):Nat):Int))=false from beq_eq_false_iff_ne.2 (by omega),Bool.false_and,Bool.and_false]
  have hS:mW pos T x = { T with cur:=bN T.cur x,opn:=cY T.opn x,place:=if isU x=true then T.place+1 else T.place }:=by
   unfold mW;rw [hc,sel_false];unfold AA;rw [show ((x.kind == 1)||(x.kind == 5))=isU x from rfl];cases isU x<;>rfl
  rw [List.foldl_cons,hS,FG c (if isU x=true then d else d+1) { T with cur:=bN T.cur x,opn:=cY T.opn x,place:=if isU x=true then T.place+1 else T.place } h hm (by
   dsimp only;rw [hp];split<;>omega)]
  dsimp only
  have:(if isU x=true then T.place+1 else T.place)+(if isU x=true then d else d+1)=T.place+(d+1):=by split<;>omega
  rw [this];rfl
theorem GL{pos:List Int}:∀ (c:List ae) (T:CSt),pos.length≤T.done.length→(c.foldl (mW pos) T).done=T.done∧(c.foldl (mW pos) T).cur=c.foldl bN T.cur
 |[],_,_=>⟨rfl,rfl⟩
 |x::c,T,hm=>by
  have hc:rz pos T x=false:=by unfold rz;rw [decide_eq_false (by omega),Bool.false_and]
  have hS:mW pos T x=AA T x:=by unfold mW;rw [hc,sel_false]
  rw [List.foldl_cons,hS,List.foldl_cons];exact GL c (AA T x) hm
theorem GM{pos:List Int}:∀ (cs:List (List ae)) (P:List Int) (T:CSt),pos.drop T.done.length=P→Cks T.place P cs→(cs.flatten.foldl (mW pos) T).done++[(cs.flatten.foldl (mW pos) T).cur]=T.done++FF T.cur T.opn cs
 |cs,[],T,hp,hk=>by
  obtain ⟨c,rfl⟩:=hk
  have hl:pos.length≤T.done.length:=by
   have:=congrArg List.length hp;simp at this;omega
  obtain ⟨h1,h2⟩:=GL (pos:=pos) [c].flatten T hl;rw [h1,h2,Em];simp
 |[],p::P,T,hp,hk=>absurd hk id
 |c::cs,p::P,T,hp,hk=>by
  obtain ⟨k1,k2,k3,k4⟩:=hk
  have hm:T.done.length<pos.length:=by
   have:=congrArg List.length hp;simp at this;omega
  have hpm:pos.getD T.done.length 0=p:=by
   have:=congrArg (fun l:List Int=>l[0]?) hp;simp only [List.getElem?_drop,Nat.add_zero,List.getElem?_cons_zero] at this;simp [List.getD,this]
  have hpP:pos.drop (T.done.length+1)=P:=by rw [← List.drop_drop,hp];rfl
  have h1:=FG c (p.toNat-T.place) T k2 hm (by rw [hpm];omega);rw [List.flatten_cons,List.foldl_append,h1,show T.place+(p.toNat-T.place)=p.toNat by omega];obtain ⟨y,t,hyt,hy⟩:=k3;obtain ⟨T1,hT1⟩:∃ T1:CSt,T1 = { T with cur:=c.foldl bN T.cur,opn:=c.foldl cY T.opn,place:=p.toNat }:=⟨_,rfl⟩
  rw [← hT1];have e1:T1.done=T.done:=by rw [hT1]
  have e2:T1.place=p.toNat:=by rw [hT1]
  have hc1:rz pos T1 y=true:=by
   unfold rz;rw [e1,e2,hpm,hy,decide_eq_true hm];simp;omega
  have hc2:rz pos (mV T1) y=false:=by
   unfold rz;have e3:(mV T1).done.length=T.done.length+1:=by unfold mV;rw [e1];simp
   have e4:(mV T1).place=p.toNat:=by unfold mV;exact e2
   rw [e3,e4];cases P with
   |nil=>
    have:pos.length≤T.done.length+1:=by
     have:=congrArg List.length hpP;simp at this;omega
    rw [decide_eq_false (by omega),Bool.false_and]
   |cons p' P'=>
    have h5:pos.getD (T.done.length+1) 0=p':=by
     have:=congrArg (fun l:List Int=>l[0]?) hpP;simp only [List.getElem?_drop,Nat.add_zero,List.getElem?_cons_zero] at this;simp [List.getD,this]
    cases cs with
    |nil=>exact absurd k4 id
    |cons c' cs'=>
     have:=k4.1;rw [h5,show (((p.toNat:Nat):Int) == p')=false from beq_eq_false_iff_ne.2 (by omega),Bool.false_and,Bool.and_false]
  have hS:mW pos T1 y=mW pos (mV T1) y:=by unfold mW;rw [hc1,hc2];rfl
  rw [hyt,List.foldl_cons,hS,← List.foldl_cons (f:=mW pos) (b:=mV T1),← hyt]
  have ih:=GM cs P (mV T1) (by unfold mV;rw [e1];simpa using hpP) (by
   show Cks T1.place P cs;rw [e2];exact k4)
  rw [ih];cases cs with
  |nil=>simp at hyt
  |cons d cs=>
   rw [En,hT1];simp [mV]
theorem kV:∀ (l:List ae),(unL l).length=uN (il l)
 |[]=>rfl
 |x::l=>by
  show (unP x++unL l).length=uN (mU x++il l);rw [List.length_append,ks,kV l];congr 1;unfold unP mU;cases k5:x.kind == 5 with
  |true=>
   have k1:(x.kind == 1)=false:=by rw [eq_of_beq k5];rfl
   rw [k1,sel_true,sel_false,rR];simp [isU,k5,uN]
  |false=>
   rw [sel_false];cases k1:x.kind == 1 with
   |true=>
    rw [sel_true,sel_true,List.length_map];unfold uN;rw [List.filter_eq_self.2 (fun y hy=>by obtain ⟨r,_,rfl⟩:=List.mem_map.1 hy;rfl),List.length_map]
   |false=>
    rw [sel_false,sel_false,rR];simp [isU,k1,k5,uN]
theorem L3{l:List ae}{pos:List Int}(h:okA ((unL l).length:Int) none pos=true):∃ cs,cs.flatten=il l∧Cks 0 pos cs∧nh l pos=FF [] [] cs:=by
 obtain ⟨cs,c1,c2⟩:=Ka (uN (il l)) pos 0 (il l) (FE _ pos none 0 (fun x hx=>by cases hx) (fun _=>rfl) (by rw [← kV];exact h)) rfl;refine ⟨cs,c1,c2, ?_⟩;rw [JX h];unfold ND LV;have:=GM (pos:=pos) cs pos ⟨[],[],[],0,false,[]⟩ rfl c2;rw [← c1,this];rfl
theorem rD{o:List Str}{y:ae}(h:y∈o.map eG):(y.kind == 1)=false:=by obtain ⟨s,_,rfl⟩:=List.mem_map.1 h;rfl
theorem CA{o:List Str}{y:ae}(h:y∈o.map fS):(y.kind == 1)=false:=by obtain ⟨s,_,rfl⟩:=List.mem_map.1 h;rfl
theorem ME{o:List Str}{y:ae}(h:y∈o.map eG):isU y=false:=by obtain ⟨s,_,rfl⟩:=List.mem_map.1 h;rfl
theorem Om{o:List Str}{y:ae}(h:y∈o.map fS):isU y=false:=by obtain ⟨s,_,rfl⟩:=List.mem_map.1 h;rfl
theorem Kb(o:List Str)(x:ae):(cY o x).reverse=nxt o.reverse x:=by
 unfold cY nxt;cases k2:x.kind == 2 with
 |true=>simp [sel]
 |false=>
  cases k3:x.kind == 3 with
  |true=>simp [sel]
  |false=>simp [sel]
theorem jJ:∀ (c:List ae) (o:List Str),(c.foldl cY o).reverse=sF o.reverse c
 |[],_=>rfl
 |x::c,o=>by rw [List.foldl_cons,jJ c,Kb];rfl
def Kc(st:List Str):Prop:=(∀ s∈st,pK s=true)∧st.length≤16
theorem Kd:∀ {c:List ae}{b e:Bool}{st:List Str},Kc st→Wok c b e st→Kc (sF st c)
 |[],_,_,_,h,_=>h
 |x::c,b,e,st,h,hw=>by
  refine Kd (c:=c) ?_ hw.2;have h1:=hw.1;unfold okW at h1;simp only [Bool.and_eq_true,Bool.not_eq_true'] at h1;unfold nxt;cases k2:x.kind == 2 with
  |true=>
   have h2:=h1.2.2.2.1;have h3:=h1.2.2.2.2.2.2;unfold xf at h2;rw [(k23 k2).1,Bool.not_false,Bool.true_and,Bool.not_eq_false'] at h2;rw [k2,Bool.true_and,decide_eq_false_iff_not] at h3;simp only [if_true];refine ⟨fun s hs => ?_,by simp at h3 ⊢;omega⟩;rcases List.mem_cons.1 hs with rfl | hs
   ·exact h2
   ·exact h.1 s hs
  |false=>
   simp only [Bool.false_eq_true,if_false];split
   ·exact ⟨fun s hs=>h.1 s (List.mem_of_mem_tail hs),by have:=h.2;simp;omega⟩
   ·exact h
theorem GN:∀ {o:List Str}{st:List Str},(∀ s∈o,pK s=true)→st.length+o.length≤16→Wok (o.map eG) false false st∧sF st (o.map eG)=o.reverse++st
 |[],_,_,_=>⟨trivial,rfl⟩
 |s::o,st,h,hl=>by
  obtain ⟨i1,i2⟩:=GN (o:=o) (st:=s::st) (fun x hx=>h x (by simp [hx])) (by simp at hl ⊢;omega);have hn:=h s (by simp);refine ⟨⟨?_, ?_⟩, ?_⟩
  ·unfold okW
   have h16:decide ((16:Int)<(((eG s).text::st).length:Int))=false:=decide_eq_false (by simp at hl ⊢;omega);rw [h16];simp [zk,xd,Cx,xf,fQ,bA,aY,eG,hn]
  ·exact i1
  ·show sF (s::st) (o.map eG)=_
   rw [i2];simp
theorem NF(o:List Str):bF false (o.map eG)=false∧eF false (o.map eG)=false:=by
 induction o with
 |nil=>exact ⟨rfl,rfl⟩
 |cons s o ih=>exact ih
theorem GO:∀ {st:List Str}{b e:Bool},(∀ s∈st,pK s=true)→Wok (st.map fS) b e st∧sF st (st.map fS)=[]
 |[],_,_,_=>⟨trivial,rfl⟩
 |s::st,b,e,h=>by
  obtain ⟨i1,i2⟩:=GO (st:=st) (b:=b||true) (e:=e||true) (fun x hx=>h x (by simp [hx]));have hn:=h s (by simp);refine ⟨⟨?_,i1⟩,i2⟩;unfold okW;simp [zk,xd,Cx,xf,fQ,bA,aY,fS,hn,rr]
theorem Ke:∀ {l:List ae}{p:Bool},(∀ y∈l,(y.kind == 1)=false)→NA p l
 |[],_,_=>trivial
 |x::l,p,h=>⟨by rw [h x (by simp),Bool.and_false],Ke fun y hy=>h y (by simp [hy])⟩
theorem L4{l:List ae}(h:∀ y∈l,(y.kind == 1)=false):l.foldl (fun _ x=>x.kind == 1) false=false:=by
 rcases eV l with rfl | ⟨m,x,rfl⟩
 ·rfl
 ·rw [List.foldl_append];exact h x (by simp)
theorem GP{o st:List Str}{c:List ae}{b e:Bool}(ho:Kc o.reverse)(hc:Wok c b e o.reverse)(hst:sF o.reverse c=st)(hl:(o.map eG++(de c++st.map fS)).length≤512):cS (o.map eG++(de c++st.map fS))=0:=by
 rw [pA];have hs2:=Kd ho hc;rw [hst] at hs2;obtain ⟨w1,w2⟩:=GN (o:=o) (st:=[]) (fun s hs=>ho.1 s (by simp [hs])) (by have:=ho.2;simp at this ⊢;omega);obtain ⟨be1,be2⟩:=NF o;obtain ⟨n1,n2,n3,n4,n5⟩:=L2 (El (b':=false) (e':=false) (fun h=>by cases h) (fun h=>by cases h) hc);rw [List.append_nil] at w2;rw [hst] at n4;obtain ⟨c1,c2⟩:=GO (st:=st) (b:=bF false (de c)) (e:=eF false (de c)) hs2.1;refine ⟨hl, ?_, ?_, ?_⟩
 ·rw [zB,zB]
  refine ⟨Ke fun y hy=>rD hy, ?_,Ke fun y hy=>CA hy⟩;rw [L4 fun y hy=>rD hy];exact n5
 ·rw [gj,gj,w2,be1,be2,n4]
  exact ⟨w1,n1,c1⟩
 ·rw [mY,mY,w2,n4,c2]
theorem zE{o st:List Str}{c:List ae}(hs:∀ y∈c,Sg y):il (o.map eG++(de c++st.map fS))=o.map eG++(c++st.map fS):=by
 rw [rB,rB,J4 hs,GF fun y hy=>rD hy,GF fun y hy=>CA hy]
theorem zF{o st:List Str}{c:List ae}(hs:∀ y∈c,Sg y):(unL (o.map eG++(de c++st.map fS))).length=uN c:=by
 rw [kV,zE hs,ks,ks,GI fun y hy=>ME hy,GI fun y hy=>Om hy];omega
theorem CB:∀ (C:List ae) (l:List ae),(∀ y∈C,(y.kind == 1)=false)→C.foldl bN l=l++C
 |[],l,_=>by simp
 |x::C,l,h=>by rw [List.foldl_cons,rN (h x (by simp)),CB C _ fun y hy=>h y (by simp [hy])];simp
def parts(o:List Str):List (List ae)→List (List ae)
 |[]=>[]
 |c::cs=>match cs with
  |[]=>[o.map eG++(de c++([]:List Str).map fS)]
  |d::cs=>(o.map eG++(de c++(c.foldl cY o).reverse.map fS))::parts (c.foldl cY o) (d::cs)
theorem eJ(o:List Str)(c:List ae):parts o [c]=[o.map eG++(de c++([]:List Str).map fS)]:=rfl
theorem eK(o:List Str)(c d:List ae)(cs:List (List ae)):parts o (c::d::cs)=(o.map eG++(de c++(c.foldl cY o).reverse.map fS))::parts (c.foldl cY o) (d::cs):=rfl
theorem Bq:∀ (cs:List (List ae)) (o:List Str),(∀ y∈cs.flatten,Sg y)→FF (o.map eG) o cs=parts o cs
 |[],_,_=>rfl
 |[c],o,h=>by
  rw [Em,eJ,ti (fun y hy=>rD hy) c fun y hy=>(h y (by simpa using hy)).tx];simp
 |c::d::cs,o,h=>by
  rw [En,eK,Bq (d::cs) _ fun y hy=>h y (by rw [List.flatten_cons];exact List.mem_append_right _ hy),ti (fun y hy=>rD hy) c fun y hy=>(h y (by simp [hy])).tx,List.append_assoc]
theorem vB:∀ (cs:List (List ae)) (o:List Str) (b e:Bool),Kc o.reverse→Wok cs.flatten b e o.reverse→(∀ y∈cs.flatten,Sg y)→sF o.reverse cs.flatten=[] →
  ∀ (i:Nat) (p c:List ae),(parts o cs)[i]?=some p→cs[i]?=some c→(p.length≤512→cS p=0)∧(unL p).length=uN c
 |[],_,_,_,_,_,_,_,i,p,c,h,_=>by simp [parts] at h
 |[c],o,b,e,ho,hw,hs,hf,i,p,c',hp,hc=>by
  cases i with
  |succ i=>simp at hc
  |zero=>
   rw [eJ] at hp;simp only [List.getElem?_cons_zero,Option.some.injEq] at hp hc;subst hp hc;have e1:[c].flatten=c:=by simp
   rw [e1] at hw hs hf;exact ⟨fun hl=>GP ho hw hf hl,zF hs⟩
 |c::d::cs,o,b,e,ho,hw,hs,hf,i,p,c',hp,hc=>by
  rw [List.flatten_cons] at hw hs hf;obtain ⟨w1,w2⟩:=gj.1 hw;rw [mY] at hf;have hrev:=jJ c o;have ho2:=Kd ho w1;rw [← hrev] at ho2 hf w2;rw [eK] at hp;cases i with
  |zero=>
   simp only [List.getElem?_cons_zero,Option.some.injEq] at hp hc;subst hp hc;exact ⟨fun hl=>GP ho w1 hrev.symm hl,zF fun y hy=>hs y (by simp [hy])⟩
  |succ i=>
   simp only [List.getElem?_cons_succ] at hp hc;exact vB (d::cs) _ _ _ ho2 w2 (fun y hy=>hs y (List.mem_append_right _ hy)) hf i p c' hp hc
theorem jK:∀ (cs:List (List ae)) (o:List Str),(parts o cs).length=cs.length
 |[],_=>rfl
 |[c],_=>rfl
 |c::d::cs,o=>by rw [eK,List.length_cons,jK (d::cs)];rfl
theorem ku(n i:Nat):∀ (l cur:List ae),glue1 n i cur l=(l.filter fun x => !kq n i x).foldl bN cur
 |[],_=>rfl
 |x::l,cur=>by
  show glue1 n i (sel (kq n i x) cur (bN cur x)) l=_;rw [ku n i l,List.filter_cons];cases kq n i x<;>rfl
theorem L5{l:List ae}{x y:ae}(h:y∈bN l x):(y.kind == 1)=true∨y∈l∨y=x:=by
 rcases eV l with rfl | ⟨m,z,rfl⟩
 ·rw [D2] at h;simp at h;exact .inr (.inr h)
 ·rw [eI] at h
  cases k:x.kind == 1&&z.kind == 1 with
  |true=>
   rw [k,sel_true] at h;rcases List.mem_append.1 h with h | h
   ·exact .inr (.inl (by simp [h]))
   ·simp at h;subst h
    rw [Bool.and_eq_true] at k;exact .inl k.2
  |false=>
   rw [k,sel_false] at h;rcases List.mem_append.1 h with h | h
   ·exact .inr (.inl h)
   ·simp at h;exact .inr (.inr h)
theorem zG{s:List ae}:∀ {y:ae},y∈de s→(y.kind == 1)=true∨y∈s:=by
 induction s using mX with
 |h0=>intro y hy;cases hy
 |h1 s x ih=>
  intro y hy;rw [kT] at hy;rcases L5 hy with h | h | h
  ·exact .inl h
  ·rcases ih h with h | h
   ·exact .inl h
   ·exact .inr (by simp [h])
  ·exact .inr (by simp [h])
theorem Eo{n i:Nat}(hi:0<i)(s:Str):kq n i (eG s)=true:=by unfold kq;simp [eG,hi]
theorem Ep{n i:Nat}(hi:i+1<n)(s:Str):kq n i (fS s)=true:=by unfold kq;simp [fS,hi]
theorem L6{n i:Nat}{x:ae}(h1:0<i→bA x=false)(h2:i+1<n→aY x=false):kq n i x=false:=by
 unfold kq bA aY at *
 cases c:x.car<;>cases k2:x.kind == 2<;>cases k3:x.kind == 3<;>simp_all
theorem rS{n i:Nat}{c:List ae}(h1:0<i→∀ x∈c,bA x=false)(h2:i+1<n→∀ x∈c,aY x=false):(de c).filter (fun x => !kq n i x)=de c:=
 List.filter_eq_self.2 fun x hx=>by
  rw [Bool.not_eq_true'];rcases zG hx with h | h
  ·unfold kq;rw [(k12 h).1,(k12 h).2.1];simp
  ·exact L6 (fun hi=>h1 hi x h) (fun hi=>h2 hi x h)
def Hds:List (List ae)→Prop
 |[]=>True
 |c::cs=>match cs with
  |[]=>True
  |d::cs=>Hd (d::cs).flatten∧Hds (d::cs)
theorem GQ:∀ {pos:List Int}{n:Nat}{cs:List (List ae)},Cks n pos cs→Hds cs
 |[],n,cs,⟨c,h⟩=>by rw [h];exact True.intro
 |p::P,n,[],h=>absurd h id
 |p::P,n,[c],h=>True.intro
 |p::P,n,c::d::cs,h=>⟨h.2.2.1,GQ h.2.2.2⟩
theorem Br(n:Nat):∀ (cs:List (List ae)) (o:List Str) (e:Bool) (i:Nat) (cur:List ae) (ps:List (Sl ae)),cs≠[]→ps.map (·.l)=parts o cs→(∀ y∈cs.flatten,Sg y)→Wok cs.flatten true e o.reverse→Hds cs→0<i→n=i+cs.length→(∀ y∈cur,Tx y) →
  rA n i cur ps=cs.flatten.foldl bN cur
 |[],_,_,_,_,_,h,_,_,_,_,_,_,_=>absurd rfl h
 |[c],o,e,i,cur,ps,_,hps,hs,hw,_,hi,hn,ht=>by
  rw [eJ] at hps;cases ps with
  |nil=>cases hps
  |cons q ps=>
   cases ps with
   |cons q2 ps=>simp at hps
   |nil=>
    simp only [List.map_cons,List.map_nil,List.cons.injEq,and_true] at hps;have e1:[c].flatten=c:=by simp
    rw [e1] at hs hw ⊢;show glue1 n i cur q.l=_;rw [ku,hps,List.filter_append,List.filter_append,rS (fun _=>pB hw) (fun h=>by rw [hn] at h;simp at h)];rw [List.filter_eq_nil_iff.2 (fun x hx=>by obtain ⟨s,_,rfl⟩:=List.mem_map.1 hx;rw [Eo hi];simp)];simp only [List.map_nil,List.filter_nil,List.append_nil,List.nil_append];exact rP ht c fun y hy=>(hs y hy).tx
 |c::d::cs,o,e,i,cur,ps,_,hps,hs,hw,hh,hi,hn,ht=>by
  rw [eK] at hps;cases ps with
  |nil=>cases hps
  |cons q ps=>
   simp only [List.map_cons,List.cons.injEq] at hps;rw [List.flatten_cons] at hs hw ⊢;obtain ⟨y,t,hyt,hy⟩:=hh.1;obtain ⟨w1,w2⟩:=gj.1 hw;have hcl:∀ x∈c,aY x=false:=rC (by rw [hyt] at hw;exact hw) hy
   have hg:glue1 n i cur q.l=c.foldl bN cur:=by
    rw [ku,hps.1,List.filter_append,List.filter_append,rS (fun _=>pB w1) (fun _=>hcl)];rw [List.filter_eq_nil_iff.2 (fun x hx=>by obtain ⟨s,_,rfl⟩:=List.mem_map.1 hx;rw [Eo hi];simp),List.filter_eq_nil_iff.2 (fun x hx=>by obtain ⟨s,_,rfl⟩:=List.mem_map.1 hx;rw [Ep (by rw [hn];simp)];simp)];simp only [List.append_nil,List.nil_append];exact rP ht c fun y hy=>(hs y (by simp [hy])).tx
   show rA n (i+1) (glue1 n i cur q.l) ps=_;rw [hg,List.foldl_append];rw [← jJ,show bF true c=true from by simp [bF]] at w2;exact Br n (d::cs) _ _ (i+1) _ ps (by simp) hps.2 (fun y hy=>hs y (List.mem_append_right _ hy)) w2 hh.2 (by omega) (by rw [hn];simp;omega) (oF c ht fun y hy=>(hs y (by simp [hy])).tx)
theorem GR{c:List ae}(h:0<uN c):bF false c=true:=by
 unfold uN at h;obtain ⟨x,hx⟩:=List.exists_mem_of_length_pos h;obtain ⟨h1,h2⟩:=List.mem_filter.1 hx;unfold bF;rw [Bool.false_or,List.any_eq_true];refine ⟨x,h1, ?_⟩;unfold bA;cases k:x.kind == 2 with
 |true=>rw [Ol k] at h2;cases h2
 |false=>rfl
theorem Kf{c:List ae}{cs:List (List ae)}{ps:List (Sl ae)}(hps:ps.map (·.l)=parts [] (c::cs))(hs:∀ y∈(c::cs).flatten,Sg y)(hw:Wok (c::cs).flatten false false [])(hh:Hds (c::cs))(hu:cs≠[]→0<uN c) :
  rA ps.length 0 [] ps=de (c::cs).flatten:=by
 have hn:ps.length=(c::cs).length:=by
  have:=congrArg List.length hps;rwa [List.length_map,jK] at this
 cases ps with
 |nil=>simp at hn
 |cons q ps=>
  cases cs with
  |nil=>
   rw [eJ] at hps;cases ps with
   |cons q2 ps=>simp at hps
   |nil=>
    simp only [List.map_cons,List.map_nil,List.cons.injEq,and_true,List.nil_append,List.append_nil] at hps;have e1:[c].flatten=c:=by simp
    rw [e1] at hs ⊢;show glue1 1 0 [] q.l=_;rw [ku,hps,rS (fun h=>by omega) (fun h=>by omega)];exact rP (fun y hy=>by cases hy) c fun y hy=>(hs y hy).tx
  |cons d cs=>
   rw [eK] at hps;simp only [List.map_cons,List.cons.injEq,List.map_nil,List.nil_append] at hps;rw [List.flatten_cons] at hs hw ⊢;obtain ⟨y,t,hyt,hy⟩:=hh.1;obtain ⟨w1,w2⟩:=gj.1 hw;have hcl:∀ x∈c,aY x=false:=rC (by rw [hyt] at hw;exact hw) hy
   have hg:glue1 (q::ps).length 0 [] q.l=c.foldl bN []:=by
    rw [ku,hps.1,List.filter_append,rS (fun h=>by omega) (fun _=>hcl)];rw [List.filter_eq_nil_iff.2 (fun x hx=>by obtain ⟨s,_,rfl⟩:=List.mem_map.1 hx;rw [Ep (by rw [hn];simp)];simp)];simp only [List.append_nil];exact rP (fun y hy=>by cases hy) c fun y hy=>(hs y (by simp [hy])).tx
   show rA _ 1 (glue1 _ 0 [] q.l) ps=_;rw [hg];show _=List.foldl bN [] (c++(d::cs).flatten);rw [List.foldl_append];have hrev:=jJ c [];rw [List.reverse_nil] at hrev;rw [GR (hu (by simp)),← hrev] at w2;exact Br _ (d::cs) _ _ 1 _ ps (by simp) hps.2 (fun y hy=>hs y (List.mem_append_right _ hy)) w2 hh.2 (by omega) (by rw [hn];simp;omega) (oF c (fun y hy=>by cases hy) fun y hy=>(hs y (by simp [hy])).tx)
theorem uD(k:Int)(a b:List ae):iT k (a++b)=iT k a++iT k b:=by simp [iT]
theorem rT{k:Int}{l:List ae}(h:∀ x∈l,(x.car&&(x.kind == k))=false):iT k l=[]:=by
 unfold iT;rw [List.filter_eq_nil_iff.2 fun x hx=>by rw [h x hx];simp];rfl
theorem HW(o:List Str):iT 2 (o.map eG)=o:=by
 induction o with
 |nil=>rfl
 |cons s o ih=>show s::iT 2 (o.map eG)=_;rw [ih]
theorem HX(o:List Str):iT 3 (o.map fS)=o:=by
 induction o with
 |nil=>rfl
 |cons s o ih=>show s::iT 3 (o.map fS)=_;rw [ih]
theorem FH{c:List ae}(h:∀ x∈c,bA x=false):iT 2 (de c)=[]:=rT fun x hx=>by
 rcases zG hx with k | k
 ·rw [show (x.kind == (2:Int))=false from (k12 k).1,Bool.and_false]
 ·rw [Bool.and_comm];exact h x k
theorem FI{c:List ae}(h:∀ x∈c,aY x=false):iT 3 (de c)=[]:=rT fun x hx=>by
 rcases zG hx with k | k
 ·rw [show (x.kind == (3:Int))=false from (k12 k).2.1,Bool.and_false]
 ·rw [Bool.and_comm];exact h x k
theorem CC:∀ (cs:List (List ae)) (o:List Str) (b e:Bool) (ps:List (Sl ae)),ps.map (·.l)=parts o cs→Wok cs.flatten b e o.reverse→Hds cs→(b=true∨∀ c t,cs=c::t→t≠[]→bF b c=true)→zx ps=true
 |[],_,_,_,ps,hps,_,_,_=>by
  have:ps=[]:=by simpa [parts] using hps
  subst this;rfl
 |[c],o,b,e,ps,hps,_,_,_=>by
  rw [eJ] at hps;cases ps with
  |nil=>rfl
  |cons q ps=>
   cases ps with
   |nil=>rfl
   |cons q2 ps=>simp at hps
 |c::d::cs,o,b,e,ps,hps,hw,hh,hb=>by
  rw [eK] at hps;cases ps with
  |nil=>rfl
  |cons q ps=>
   simp only [List.map_cons,List.cons.injEq] at hps;rw [List.flatten_cons] at hw;obtain ⟨y,t,hyt,hy⟩:=hh.1;obtain ⟨w1,w2⟩:=gj.1 hw;have hcl:∀ x∈c,aY x=false:=rC (by rw [hyt] at hw;exact hw) hy
   have hbt:bF b c=true:=by
    rcases hb with rfl | hb
    ·simp [bF]
    ·exact hb c (d::cs) rfl (by simp)
   have hrev:=jJ c o;rw [hbt,← hrev] at w2;have ih:=CC (d::cs) _ true _ ps hps.2 w2 hh.2 (.inl rfl);cases ps with
   |nil=>cases cs<;>simp [parts] at hps
   |cons q2 ps=>
    rw [Ef,ih,Bool.and_true]
    have h1:iT 3 q.l=(c.foldl cY o).reverse:=by
     rw [hps.1,uD,uD,FI hcl,HX,rT (fun x hx=>by obtain ⟨s,_,rfl⟩:=List.mem_map.1 hx;rfl)];rfl
    have hd2:∀ x∈d,bA x=false:=fun x hx=>pB w2 x (by simp [hx])
    have h2:iT 2 q2.l=c.foldl cY o:=by
     have h3:∃ z,q2.l=(c.foldl cY o).map eG++(de d++z)∧∀ x∈z,(x.kind == (2:Int))=false:=by
      cases cs with
      |nil=>
       have:=hps.2;rw [eJ] at this;simp only [List.map_cons,List.cons.injEq] at this;exact ⟨[],this.1,fun x hx=>by cases hx⟩
      |cons f cs=>
       have:=hps.2;rw [eK] at this;simp only [List.map_cons,List.cons.injEq] at this;exact ⟨_,this.1,fun x hx=>by obtain ⟨s,_,rfl⟩:=List.mem_map.1 hx;rfl⟩
     obtain ⟨z,z1,z2⟩:=h3;rw [z1,uD,uD,HW,FH hd2,rT (l:=z) (fun x hx=>by rw [z2 x hx,Bool.and_false])];simp
    rw [h1,h2];simp
theorem CD:∀ {c c' r r':List ae}{d:Nat},Ck d c→Ck d c'→Hd r→Hd r'→c++r=c'++r'→c=c'∧r=r'
 |[],[],_,_,_,_,_,_,_,e=>⟨rfl,e⟩
 |[],x::c',r,r',d,h,h',hr,_,e=>by
  unfold Ck at h;subst h;obtain ⟨y,t,rfl,hy⟩:=hr;simp only [List.nil_append,List.cons_append,List.cons.injEq] at e;have h3:=h'.1;rw [← e.1,hy] at h3;cases h3
 |x::c,[],r,r',d,h,h',_,hr,e=>by
  unfold Ck at h';subst h';obtain ⟨y,t,rfl,hy⟩:=hr;simp only [List.nil_append,List.cons_append,List.cons.injEq] at e;have h3:=h.1;rw [e.1,hy] at h3;cases h3
 |x::c,x'::c',r,r',0,h,h',hr,hr',e=>by
  simp only [List.cons_append,List.cons.injEq] at e;obtain ⟨e1,e2⟩:=e;subst e1;obtain ⟨i1,i2⟩:=CD h.2 h'.2 hr hr' e2;exact ⟨by rw [i1],i2⟩
 |x::c,x'::c',r,r',d+1,h,h',hr,hr',e=>by
  simp only [List.cons_append,List.cons.injEq] at e;obtain ⟨e1,e2⟩:=e;subst e1;obtain ⟨i1,i2⟩:=CD (d:=if isU x=true then d else d+1) h h' hr hr' e2;exact ⟨by rw [i1],i2⟩
theorem uE:∀ {P:List Int}{n:Nat}{cs cs':List (List ae)},Cks n P cs→Cks n P cs'→cs.flatten=cs'.flatten→cs=cs'
 |[],_,_,_,⟨c,h⟩,⟨c',h'⟩,e=>by subst h h';simpa using e
 |p::P,n,[],_,h,_,_=>absurd h id
 |p::P,n,_::_,[],_,h,_=>absurd h id
 |p::P,n,c::cs,c'::cs',h,h',e=>by
  rw [List.flatten_cons,List.flatten_cons] at e;obtain ⟨e1,e2⟩:=CD h.2.1 h'.2.1 h.2.2.1 h'.2.2.1 e;rw [e1,uE h.2.2.2 h'.2.2.2 e2]
theorem FJ:∀ {c c':List ae}{d d':Nat},Ck d c→Ck d' c'→0<d'→Ck (d+d') (c++c')
 |[],c',d,d',h,h',hd=>by unfold Ck at h;subst h;rw [Nat.zero_add];exact h'
 |x::c,c',0,d',h,h',hd=>by
  obtain ⟨m,rfl⟩:∃ m,d'=m+1:=⟨d'-1,by omega⟩
  rw [Nat.zero_add];show Ck (if isU x=true then m else m+1) (c++c');rw [if_neg (by rw [GJ h.1];simp)];have:=FJ h.2 h' hd;rwa [Nat.zero_add] at this
 |x::c,c',d+1,d',h,h',hd=>by
  have:=FJ (c:=c) (d:=if isU x=true then d else d+1) h h' hd;rw [show d+1+d'=(d+d')+1 by omega];show Ck (if isU x=true then d+d' else d+d'+1) (c++c');rw [show (if isU x=true then d+d' else d+d'+1)=(if isU x=true then d else d+1)+d' by split<;>omega];exact this
theorem uF{N:Nat}:∀ {P:List Int}{n:Nat},zD N n P→∀ x∈P,(n:Int)<x∧x<(N:Int)
 |p::P,n,h,x,hx=>by
  rcases List.mem_cons.1 hx with rfl | hx
  ·exact ⟨h.1,h.2.1⟩
  ·have:=uF h.2.2 x hx
   have:=h.1;exact ⟨by omega,by omega⟩
theorem zH(N:Nat):∀ (pos:List Int) (q:Option Int) (n:Nat),(∀ x,q=some x→(n:Int)=x)→zD N n pos→okA (N:Int) q pos=true
 |[],_,_,_,_=>by rw [okA.eq_def]
 |p::P,q,n,hq,h=>by
  obtain ⟨h1,h2,h3⟩:=h;rw [uw,decide_eq_false (by omega),decide_eq_false (by omega),zH N P (some p) p.toNat (fun x hx=>by cases hx;omega) h3];cases q with
  |none=>rfl
  |some x=>
   have:=hq x rfl;simp only [Bool.and_true,Bool.not_false,Bool.true_and];rw [decide_eq_false (by omega)];rfl
theorem CE:∀ {P:List Int}{n:Nat}{cs:List (List ae)},Cks n P cs→(∀ c,cs.getLast? = some c→0<uN c)→zD (n+uN cs.flatten) n P
 |[],_,_,_,_=>trivial
 |p::P,n,[],h,_=>absurd h id
 |p::P,n,[c],h,_=>by
  obtain ⟨y,t,e,_⟩:=h.2.2.1;cases e
 |p::P,n,c::d::cs,h,hl=>by
  have h1:=h.1;have h2:=uC h.2.1;have ih:=CE h.2.2.2 (fun x hx=>hl x (by rw [List.getLast?_cons_cons];exact hx))
  have hpos:0<uN (d::cs).flatten:=by
   have:∀ (l:List (List ae)),l≠[]→(∀ c,l.getLast? = some c→0<uN c)→0<uN l.flatten:=by
    intro l;induction l with
    |nil=>intro h;exact absurd rfl h
    |cons a l ih=>
     intro _ hh;rw [List.flatten_cons,ks];cases l with
     |nil=>have:=hh a rfl;omega
     |cons b l=>have:=ih (by simp) (fun c hc=>hh c (by rw [List.getLast?_cons_cons];exact hc));omega
   exact this _ (by simp) (fun x hx=>hl x (by rw [List.getLast?_cons_cons];exact hx))
  rw [List.flatten_cons,ks];have e:n+(uN c+uN (d::cs).flatten)=p.toNat+uN (d::cs).flatten:=by omega
  rw [e];exact ⟨h1,by omega,ih⟩
theorem Bs:∀ {az:List (List ae)}{P1:List Int}{p:Int}{P2:List Int}{n:Nat}{a:List ae}{cs:List (List ae)}{C:List ae},P1.length=az.length→Cks n (P1++p::P2) (az++a::cs)→(∀ y∈C,(y.kind == 3)=true) →
  Cks n P1 (az++[a++C])∧0<uN a∧Ck (p.toNat-n) (az.flatten++a)∧(n:Int)<p∧Hd cs.flatten∧Cks p.toNat P2 cs
 |[],[],p,P2,n,a,cs,C,_,h,hC=>by
  have h':Cks n (p::P2) (a::cs):=h;have h2:=uC h'.2.1;have h1:=h'.1;exact ⟨⟨_,rfl⟩,by omega,by simpa using h'.2.1,h'.1,h'.2.2.1,h'.2.2.2⟩
 |[],_::_,_,_,_,_,_,_,h,_,_=>by simp at h
 |_::_,[],_,_,_,_,_,_,h,_,_=>by simp at h
 |c::az,p1::P1,p,P2,n,a,cs,C,hl,h,hC=>by
  have h':Cks n (p1::(P1++p::P2)) (c::(az++a::cs)):=h;obtain ⟨i1,i2,i3,i4,i5,i6⟩:=Bs (az:=az) (P1:=P1) (by simpa using hl) h'.2.2.2 hC;have h1:=h'.1;obtain ⟨y,t,e,hy⟩:=h'.2.2.1;refine ⟨⟨h'.1,h'.2.1, ?_,i1⟩,i2, ?_,by omega,i5,i6⟩
  ·have ha:a≠[]:=fun e=>by rw [e] at i2;simp [uN] at i2
   have hne:az.flatten++a≠[]:=by simp [ha]
   obtain ⟨z,u,hz⟩:=List.exists_cons_of_ne_nil hne
   have e2:(az++a::cs).flatten=z::(u++cs.flatten):=by
    rw [List.flatten_append,List.flatten_cons,← List.append_assoc,hz];rfl
   rw [e2] at e;injection e with ez _;have e4:(az++[a++C]).flatten=z::(u++C):=by rw [List.flatten_append,List.flatten_cons,List.flatten_nil,List.append_nil,← List.append_assoc,hz];rfl
   exact ⟨z,u++C,e4,by rw [ez];exact hy⟩
  ·rw [List.flatten_cons,List.append_assoc]
   have e3:p.toNat-n=(p1.toNat-n)+(p.toNat-p1.toNat):=by omega
   rw [e3];exact FJ h'.2.1 i3 (by omega)
theorem Bt:∀ {P:List Int}{n m:Nat}{cs:List (List ae)},Cks n P cs→m≤n→Cks (n-m) (P.map (· - (m:Int))) cs
 |[],_,_,_,h,_=>h
 |p::P,n,m,[],h,_=>absurd h id
 |p::P,n,m,c::cs,h,hm=>by
  have h1:=h.1;have ih:=Bt h.2.2.2 (m:=m) (by omega);refine ⟨by dsimp only;omega, ?_,h.2.2.1, ?_⟩
  ·rw [show (p-(m:Int)).toNat-(n-m)=p.toNat-n by omega];exact h.2.1
  ·rw [show (p-(m:Int)).toNat=p.toNat-m by omega];exact ih
theorem L7{P:List Int}{b:List ae}{bs:List (List ae)}{O:List ae}(h:Cks 0 P (b::bs))(hO:∀ y∈O,isU y=false):Cks 0 P ((O++b)::bs):=by
 cases P with
 |nil=>
  obtain ⟨c,hc⟩:=h;cases hc;exact ⟨_,rfl⟩
 |cons p P=>
  have h1:=h.1;exact ⟨h.1,GK hO (by omega) h.2.1,h.2.2.1,h.2.2.2⟩
theorem Kg(c:List ae)(st:List Str):de (c++st.map fS)=de c++st.map fS:=by
 unfold de;rw [List.foldl_append,CB _ _ fun y hy=>CA hy]
theorem Er{c:List ae}(o:List Str)(h:∀ y∈c,Tx y):de (o.map eG++c)=o.map eG++de c:=by
 unfold de;rw [List.foldl_append,CB _ _ fun y hy=>rD hy,List.nil_append,ti (fun y hy=>rD hy) c h];rfl
theorem Et:∀ (o a:List Str),(o.map eG).foldl cY a=a++o
 |[],a=>by simp
 |s::o,a=>by
  rw [List.map_cons,List.foldl_cons,show cY a (eG s)=a++[s] from rfl,Et o];simp
theorem vZ:∀ (az:List (List ae)) (a d:List ae) (cs:List (List ae)) (o:List Str),
  parts o (az++a::d::cs)=parts o (az++[a++(((az.flatten++a).foldl cY o).reverse.map fS)])++parts ((az.flatten++a).foldl cY o) (d::cs)
 |[],a,d,cs,o=>by
  show parts o (a::d::cs)=parts o [a++((([]++a).foldl cY o).reverse.map fS)]++parts (([]++a).foldl cY o) (d::cs);rw [eK,eJ,List.nil_append,Kg];simp
 |c::az,a,d,cs,o=>by
  have ih:=vZ az a d cs (c.foldl cY o)
  have e1:∀ z:List (List ae),z≠[]→parts o (c::z)=(o.map eG++(de c++(c.foldl cY o).reverse.map fS))::parts (c.foldl cY o) z:=fun z hz=>by
   cases z with
   |nil=>exact absurd rfl hz
   |cons x z=>rfl
  rw [List.cons_append,e1 _ (by simp),ih,List.cons_append,e1 _ (by simp),List.flatten_cons];simp only [List.foldl_append,List.cons_append,List.append_assoc]
theorem HY{o:List Str}{b:List ae}{bs:List (List ae)}(h:∀ y∈b,Tx y):parts [] ((o.map eG++b)::bs)=parts o (b::bs):=by
 have h1:(o.map eG++b).foldl cY []=b.foldl cY o:=by rw [List.foldl_append,Et];rfl
 cases bs with
 |nil=>rw [eJ,eJ,Er o h];simp
 |cons d bs=>rw [eK,eK,h1,Er o h];simp
theorem uG{α:Type}:∀ (l:List α) (k:Nat) (x:α),l[k]?=some x→l=l.take k++x::l.drop (k+1)
 |[],k,x,h=>by simp at h
 |y::l,0,x,h=>by simp at h;simp [h]
 |y::l,k+1,x,h=>by
  simp only [List.getElem?_cons_succ] at h;rw [List.take_succ_cons,List.drop_succ_cons,List.cons_append,← uG l k x h]
structure nT (l:List ae) (pos:List Int) (cs:List (List ae)):Prop where
 chk:cS l=0
 fl:cs.flatten=il l
 ck:Cks 0 pos cs
 cut:nh l pos=parts [] cs
 sg:∀ y∈cs.flatten,Sg y
 ok:Wok cs.flatten false false []
 fin:sF [] cs.flatten=[]
 inc:zD (unL l).length 0 pos
theorem rU{l:List ae}{pos:List Int}(hc:cS l=0)(h:okA ((unL l).length:Int) none pos=true):∃ cs,nT l pos cs:=by
 obtain ⟨cs,c1,c2,c3⟩:=L3 h;obtain ⟨_,_,w,f⟩:=(pA l).1 hc;obtain ⟨s1,s2,s3,s4⟩:=J7 w;have hs:=J8 w;rw [← c1] at s1 s4 hs;refine ⟨cs,hc,c1,c2, ?_,hs,s1,by rw [s4];exact f,FE _ pos none 0 (fun x hx=>by cases hx) (fun _=>rfl) h⟩;rw [c3];exact Bq cs [] hs
theorem pC{l:List ae}(hc:cS l=0):de (il l)=l:=by
 obtain ⟨_,na,w,_⟩:=(pA l).1 hc;have:=Ej l [] false (zC w) na (fun _ m y e=>by simp at e);exact this
theorem nT.glue{l:List ae}{pos:List Int}{cs:List (List ae)}(h:nT l pos cs){ps:List (Sl ae)}(hps:ps.map (·.l)=parts [] cs)(hl:∀ p∈ps,p.l.length≤512) :
  (∀ p∈ps,cS p.l=0)∧zx ps=true∧rA ps.length 0 [] ps=l:=by
 have hlen:ps.length=cs.length:=by
  have:=congrArg List.length hps;rwa [List.length_map,jK] at this
 have hh:=GQ h.ck;have st0:Kc ([]:List Str).reverse:=⟨fun s hs=>(by cases hs),by simp⟩
 refine ⟨fun p hp => ?_, ?_, ?_⟩
 ·obtain ⟨i,hi⟩:=List.getElem?_of_mem hp
  have h1:(parts [] cs)[i]?=some p.l:=by rw [← hps,List.getElem?_map,hi];rfl
  have hlt:=(List.getElem?_eq_some_iff.1 h1).1;rw [jK] at hlt;exact ((vB cs [] false false st0 h.ok h.sg h.fin i p.l cs[i] h1 (List.getElem?_eq_getElem hlt)).1 (hl p hp))
 ·cases pos with
  |nil=>
   obtain ⟨c,hc⟩:=h.ck;refine CC cs [] false false ps hps h.ok hh (.inr fun c' t e ht => ?_);rw [hc] at e;cases e;exact absurd rfl ht
  |cons p P=>
   refine CC cs [] false false ps hps h.ok hh (.inr fun c' t e ht => ?_);have hck:=h.ck;rw [e] at hck;have:=hck.1;exact GR (by have:=uC hck.2.1;omega)
 ·have hne:cs≠[]:=fun e=>by
   have:=mr h.ck;rw [e] at this;simp at this
  obtain ⟨c,t,e⟩:=List.exists_cons_of_ne_nil hne;have hck:=h.ck;have h1:=h.ok;have h2:=h.sg;have h3:=h.fl;rw [e] at hps hh hck h1 h2 h3
  rw [Kf hps h2 h1 hh (fun ht=>by
   cases pos with
   |nil=>obtain ⟨c',hc'⟩:=hck;cases hc';exact absurd rfl ht
   |cons p P=>
    have:=hck.1;have:=uC hck.2.1;omega),h3,pC h.chk]
theorem nT.again{l:List ae}{pos:List Int}{cs:List (List ae)}(h:nT l pos cs){k:Nat}{p:Int}(hp:pos[k]?=some p){ds:List (List ae)}(hd:nT l [p] ds){p0 p1:List ae}(hpd:parts [] ds=[p0,p1])(h0:cS p0=0)(h1:cS p1=0) :
  okA ((unL p0).length:Int) none (pos.take k)=true∧okA ((unL p1).length:Int) none ((pos.drop (k+1)).map (· - p))=true ∧
   nh p0 (pos.take k)++nh p1 ((pos.drop (k+1)).map (· - p))=parts [] cs:=by
 have hpos:=uG pos k p hp;have hlen:=mr h.ck;have hk:k<pos.length:=(List.getElem?_eq_some_iff.1 hp).1;have hkc:cs[k]?=some cs[k]:=List.getElem?_eq_getElem (by omega);have hcs:=uG cs k cs[k] hkc;generalize cs[k]=a at hkc hcs;generalize hP1:pos.take k=P1 at hpos ⊢;generalize hP2:pos.drop (k+1)=P2 at hpos ⊢;have hP1l:P1.length=k:=by rw [← hP1,List.length_take];omega
 have hasl:(cs.take k).length=k:=by rw [List.length_take];omega
 have hbl:0<(cs.drop (k+1)).length:=by rw [List.length_drop];omega
 generalize cs.take k=az at hcs hasl;generalize cs.drop (k+1)=bs at hcs hbl;cases bs with
 |nil=>simp at hbl
 |cons b bs=>
 have hck:=h.ck;rw [hpos,hcs] at hck;have hC:∀ y∈((az.flatten++a).foldl cY []).reverse.map fS,(y.kind == 3)=true:=fun y hy=>by obtain ⟨s,_,rfl⟩:=List.mem_map.1 hy;rfl
 obtain ⟨f1,f2,f3,f4,f5,f6⟩:=Bs (by omega) hck hC;have hfl:cs.flatten=(az.flatten++a)++(b::bs).flatten:=by rw [hcs,List.flatten_append,List.flatten_cons,List.append_assoc]
 have hds:ds=[az.flatten++a,(b::bs).flatten]:=by
  refine uE hd.ck (P:=[p]) (n:=0) ⟨f4,f3,by simpa using f5,⟨_,rfl⟩⟩ ?_;rw [hd.fl,← h.fl,hfl];simp
 rw [hds,eK,eJ] at hpd;simp only [List.cons.injEq,and_true,List.map_nil,List.append_nil,List.nil_append] at hpd;obtain ⟨e0,e1⟩:=hpd;have sgA:∀ y∈az.flatten++a,Sg y:=fun y hy=>h.sg y (by rw [hfl];exact List.mem_append_left _ hy)
 have sgB:∀ y∈(b::bs).flatten,Sg y:=fun y hy=>h.sg y (by rw [hfl];exact List.mem_append_right _ hy)
 have s0:il p0=(az.flatten++a)++((az.flatten++a).foldl cY []).reverse.map fS:=by
  have:=zE (o:=[]) (st:=((az.flatten++a).foldl cY []).reverse) sgA;simp only [List.map_nil,List.nil_append] at this;rw [← e0];exact this
 have s1:il p1=((az.flatten++a).foldl cY []).map eG++(b::bs).flatten:=by
  have:=zE (o:=(az.flatten++a).foldl cY []) (st:=[]) sgB;simp only [List.map_nil,List.append_nil] at this;rw [← e1];exact this
 generalize hCe:((az.flatten++a).foldl cY []).reverse.map fS=C at *
 have ok0:zD (unL p0).length 0 P1:=by
  have:=CE f1 (fun c hc=>by
   rw [List.getLast?_append] at hc;simp at hc;subst hc;rw [ks];omega)
  rw [Nat.zero_add] at this;rw [kV,s0];have e:(az++[a++C]).flatten=az.flatten++a++C:=by simp
  rwa [e] at this
 have ok0':=zH _ P1 none 0 (fun x hx=>by cases hx) ok0;obtain ⟨q,hq⟩:∃ q:Nat,p=(q:Int):=⟨p.toNat,by omega⟩
 have g6:=Bt f6 (Nat.le_refl _);rw [Nat.sub_self,hq,Int.toNat_natCast] at g6;have g7:=L7 g6 (O:=((az.flatten++a).foldl cY []).map eG) fun y hy=>ME hy
 have hlast:∀ c,((((az.flatten++a).foldl cY []).map eG++b)::bs).getLast? = some c→0<uN c:=fun c hc=>by
  have hinc:=h.inc;rw [kV,← h.fl] at hinc
  have hsum:∀ (P:List Int) (n:Nat) (z:List (List ae)),Cks n P z→zD (n+uN z.flatten) n P→0<uN z.flatten→∀ c,z.getLast? = some c→0<uN c:=by
   intro P;induction P with
   |nil=>
    rintro n z ⟨c',rfl⟩ _ h c hc;simp at hc h;subst hc;exact h
   |cons p' P ih=>
    intro n z hz hi _ c hc;cases z with
    |nil=>cases hc
    |cons w z=>
     have hw:=uC hz.2.1;have hz1:=hz.1;have hi2:=hi.2.1;rw [List.flatten_cons,ks] at hi hi2;have e:n+(uN w+uN z.flatten)=p'.toNat+uN z.flatten:=by omega
     have h3:=hi.2.2;rw [e] at h3;refine ih p'.toNat z hz.2.2.2 h3 (by omega) c ?_;cases z with
     |nil=>obtain ⟨y,t,e',_⟩:=hz.2.2.1;cases e'
     |cons v z=>rwa [List.getLast?_cons_cons] at hc
  have hall:=hsum pos 0 cs h.ck (by rw [Nat.zero_add];exact hinc) (by
   rw [hfl,ks,ks];omega)
  cases bs with
  |nil=>
   simp at hc;subst hc;rw [ks];have:=hall b (by rw [hcs];simp);omega
  |cons d bs=>
   rw [List.getLast?_cons_cons] at hc;exact hall c (by rw [hcs,List.getLast?_append,List.getLast?_cons_cons,List.getLast?_cons_cons,hc];rfl)
 have ok1:zD (unL p1).length 0 (P2.map (· - p)):=by
  have:=CE g7 hlast;rw [Nat.zero_add] at this;rw [kV,s1,hq];have e:((((az.flatten++a).foldl cY []).map eG++b)::bs).flatten=((az.flatten++a).foldl cY []).map eG++(b::bs).flatten:=by simp
  rwa [e] at this
 have ok1':=zH _ (P2.map (· - p)) none 0 (fun x hx=>by cases hx) ok1;obtain ⟨c0,k0⟩:=rU h0 ok0';obtain ⟨c1,k1⟩:=rU h1 ok1';have u0:c0=az++[a++C]:=uE k0.ck f1 (by rw [k0.fl,s0];simp);have u1:c1=(((az.flatten++a).foldl cY []).map eG++b)::bs:=uE k1.ck (by rw [hq];exact g7) (by rw [k1.fl,s1];simp);refine ⟨ok0',ok1', ?_⟩;rw [k0.cut,k1.cut,u0,u1,HY (fun y hy=>(sgB y (by simp [hy])).tx),hcs,vZ,hCe]
def wq(k:Nat)(x:ae):Nat:=k*x.text.length+1
def wQ(k:Nat)(l:List ae):Nat:=(l.map (wq k)).sum
def nq(k:Nat)(x:ae):Nat:=if (x.kind == 1)=true then 0 else wq k x
def nQ(k:Nat)(l:List ae):Nat:=(l.map (nq k)).sum
def wS(k:Nat)(st:List Str):Nat:=(st.map fun s=>k*s.length+1).sum
theorem pD(k:Nat)(a b:List ae):wQ k (a++b)=wQ k a+wQ k b:=by simp [wQ]
theorem xp(k:Nat)(x:ae)(b:List ae):wQ k (x::b)=wq k x+wQ k b:=by simp [wQ]
theorem CF(k:Nat)(a b:List ae):nQ k (a++b)=nQ k a+nQ k b:=by simp [nQ]
theorem rV(k:Nat)(x:ae)(b:List ae):nQ k (x::b)=nq k x+nQ k b:=by simp [nQ]
theorem MF(k:Nat)(x:ae):nq k x≤wq k x:=by unfold nq;split<;>omega
theorem Kh(k:Nat):∀ l:List ae,nQ k l≤wQ k l
 |[]=>Nat.le_refl _
 |x::l=>by rw [rV,xp];have:=MF k x;have:=Kh k l;omega
theorem MG(k:Nat)(a b:List Nat):wq k (txP (a++b))+1=wq k (txP a)+wq k (txP b):=by
 have e:∀ z,wq k (txP z)=k*(jS z).length+1:=fun _=>rfl
 rw [e,e,e,kr,List.length_append,Nat.mul_add];omega
theorem On{l:List ae}(hl:∀ y∈l,Tx y){x:ae}(hx:Tx x)(k:Nat):wQ k l+nq k x≤wQ k (bN l x)∧nQ k (bN l x)=nQ k l+nq k x:=by
 rcases kU hl hx with h | ⟨m,a,b,rfl,rfl,h⟩
 ·rw [h,pD,CF]
  have:=MF k x;simp [wQ,nQ];omega
 ·have h1:=MG k a b
  have h2:1≤wq k (txP b):=by unfold wq;omega
  rw [h,pD,pD,CF,CF];have e1:∀ z,nq k (txP z)=0:=fun _=>rfl
  simp only [xp,rV,e1];simp [wQ,nQ];omega
theorem CG(k:Nat):∀ (s l:List ae),(∀ y∈l,Tx y)→(∀ y∈s,Tx y)→wQ k l+nQ k s≤wQ k (s.foldl bN l)∧nQ k (s.foldl bN l)=nQ k l+nQ k s
 |[],l,_,_=>by simp [nQ]
 |x::s,l,hl,hs=>by
  obtain ⟨p1,p2⟩:=On hl (hs x (by simp)) k;obtain ⟨i1,i2⟩:=CG k s (bN l x) (J3 hl (hs x (by simp))) fun y hy=>hs y (by simp [hy])
  rw [List.foldl_cons,rV];exact ⟨by omega,by omega⟩
theorem xq{z l:List ae}(h:l≠[])(x:ae):bN (z++l) x=z++bN l x:=by
 rcases eV l with rfl | ⟨m,y,rfl⟩
 ·exact absurd rfl h
 ·rw [← List.append_assoc,eI,eI]
  cases x.kind == 1&&y.kind == 1<;>simp [sel]
theorem FK{cur:List ae}(hc:∀ y∈cur,Tx y)(c:List ae)(h:∀ y∈c,Tx y):c.foldl bN cur=cur++de c∨∃ m a b t,cur=m++[txP a]∧de c=txP b::t∧c.foldl bN cur=m++txP (a++b)::t:=by
 induction c using mX with
 |h0=>exact .inl (by simp [de])
 |h1 c x ih=>
  have hc1:∀ y∈c,Tx y:=fun y hy=>h y (by simp [hy])
  have hx:=h x (by simp);rw [List.foldl_append,List.foldl_cons,List.foldl_nil,kT];rcases ih hc1 with e | ⟨m,a,b,t,e1,e2,e3⟩
  ·rw [e]
   by_cases hn:de c=[]
   ·rw [hn,List.append_nil,D2]
    rcases kU hc hx with e' | ⟨m,a,b,e1,e2,e3⟩
    ·exact .inl e'
    ·exact .inr ⟨m,a,b,[],e1,by rw [e2],e3⟩
   ·exact .inl (xq hn x)
  ·rw [e3,e2,xq (by simp)]
   by_cases ht:t=[]
   ·subst ht
    rcases hx with hx | ⟨d,_,_,rfl⟩
    ·exact .inr ⟨m,a,b,[x],e1,putF_nt' hx b,by rw [putF_nt' hx (a++b)]⟩
    ·refine .inr ⟨m,a,b++d,[],e1,putF_txP [] b d, ?_⟩
     have:=putF_txP [] (a++b) d;rw [List.nil_append,List.nil_append] at this;rw [this,List.append_assoc]
   ·exact .inr ⟨m,a,b,bN t x,e1,xq (z:=[txP b]) ht x,by rw [show txP (a++b)::t=[txP (a++b)]++t from rfl,xq ht x];rfl⟩
where
 putF_nt' {x:ae} (hx:(x.kind == 1)=false) (b:List Nat):bN [txP b] x=txP b::[x]:=rN hx
theorem Eu{cur:List ae}(hc:∀ y∈cur,Tx y){c:List ae}(h:∀ y∈c,Tx y)(k:Nat):nQ k cur+wQ k (de c)≤wQ k (c.foldl bN cur):=by
 rcases FK hc c h with e | ⟨m,a,b,t,e1,e2,e3⟩
 ·rw [e,pD];have:=Kh k cur;omega
 ·rw [e2,e3,e1,CF,pD,xp,xp,rV,show nq k (txP a)=0 from rfl]
  have:=MG k a b;have h2:1≤wq k (txP a):=by unfold wq;omega
  have:=Kh k m;simp [nQ] at *;omega
theorem NG(k:Nat)(st:List Str)(x:ae):wS k (nxt st x)≤wS k st+nq k x:=by
 unfold nxt;cases k2:x.kind == 2 with
 |true=>
  unfold nq;rw [(k23 k2).1];simp [wS,wq];omega
 |false=>
  simp only [Bool.false_eq_true,if_false];split
  ·cases st with
   |nil=>simp [wS]
   |cons s st=>simp [wS];omega
  ·omega
theorem FL(k:Nat):∀ (c:List ae) (st:List Str),wS k (sF st c)≤wS k st+nQ k c
 |[],st=>by simp [sF,nQ]
 |x::c,st=>by
  have h1:=NG k st x;have h2:=FL k c (nxt st x);rw [rV];show wS k (sF (nxt st x) c)≤_;omega
theorem GS(k:Nat):∀ (c:List ae) (b e:Bool) (st:List Str),Wok c b e st→wS k st≤wS k (sF st c)+nQ k c
 |[],_,_,st,_=>by simp [sF,nQ]
 |x::c,b,e,st,h=>by
  have h2:=GS k c _ _ _ h.2
  have h1:wS k st≤wS k (nxt st x)+nq k x:=by
   have h0:=h.1;unfold okW at h0;simp only [Bool.and_eq_true,Bool.not_eq_true'] at h0;unfold nxt;cases k2:x.kind == 2 with
   |true=>simp [wS];omega
   |false=>
    simp only [Bool.false_eq_true,if_false];cases k3:x.kind == 3 with
    |false=>simp
    |true=>
     have hp:=h0.2.2.2.2.2.1;rw [k3,Bool.true_and,Bool.not_eq_false'] at hp;cases st with
     |nil=>simp [wS]
     |cons s st=>
      have:s=x.text:=by simpa [rr] using hp
      unfold nq;rw [(k31 k3).1];simp [wS,wq,this];omega
  rw [rV];show wS k st≤wS k (sF (nxt st x) c)+_;omega
theorem Ki(k:Nat)(o:List Str):wQ k (o.map eG)=wS k o:=by unfold wQ wS;rw [List.map_map];rfl
theorem NH(k:Nat)(o:List Str):wQ k (o.map fS)=wS k o:=by unfold wQ wS;rw [List.map_map];rfl
theorem CH(k:Nat)(o:List Str):wS k o.reverse=wS k o:=by unfold wS;rw [List.map_reverse,List.sum_reverse]
theorem FM{A c B:List ae}(hw:Wok (A++(c++B)) false false [])(hf:sF [] (A++(c++B))=[])(k:Nat) :
  wQ k ((A.foldl cY []).map eG++(de c++(c.foldl cY (A.foldl cY [])).reverse.map fS))≤wQ k (de (A++(c++B))):=by
 have ht:=zC hw;have tA:∀ y∈A,Tx y:=fun y hy=>ht y (by simp [hy])
 have tc:∀ y∈c,Tx y:=fun y hy=>ht y (by simp [hy])
 have tB:∀ y∈B,Tx y:=fun y hy=>ht y (by simp [hy])
 obtain ⟨_,w2⟩:=gj.1 hw;obtain ⟨_,w3⟩:=gj.1 w2;have b1:=GS k B _ _ _ w3;rw [mY,mY] at hf;rw [hf,show wS k []=0 from rfl,Nat.zero_add] at b1;have r1:=jJ A [];rw [List.reverse_nil] at r1;have r2:=jJ c (A.foldl cY []);rw [r1] at r2;rw [← r2,CH] at b1;have a1:=FL k A [];rw [← r1,CH,show wS k []=0 from rfl,Nat.zero_add] at a1;have e:de (A++(c++B))=B.foldl bN (c.foldl bN (de A)):=by unfold de;rw [List.foldl_append,List.foldl_append]
 have f1:=(CG k B (c.foldl bN (de A)) (oF c (mq tA) tc) tB).1;have f2:=Eu (mq tA) tc k;have f3:=(CG k A [] (fun y hy=>by cases hy) tA).2;have f3':nQ k (de A)=nQ k A:=by unfold de;rw [f3];simp [nQ]
 rw [e,pD,pD,Ki,NH,CH];omega
theorem Ev{A c:List ae}(hw:Wok (A++c) false false [])(k:Nat):wQ k ((A.foldl cY []).map eG++(de c++([]:List Str).map fS))≤wQ k (de (A++c)):=by
 have ht:=zC hw;have tA:∀ y∈A,Tx y:=fun y hy=>ht y (by simp [hy])
 have tc:∀ y∈c,Tx y:=fun y hy=>ht y (by simp [hy])
 have r1:=jJ A [];rw [List.reverse_nil] at r1;have a1:=FL k A [];rw [← r1,CH,show wS k []=0 from rfl,Nat.zero_add] at a1;have e:de (A++c)=c.foldl bN (de A):=by unfold de;rw [List.foldl_append]
 have f2:=Eu (mq tA) tc k;have f3:=(CG k A [] (fun y hy=>by cases hy) tA).2;have f3':nQ k (de A)=nQ k A:=by unfold de;rw [f3];simp [nQ]
 rw [e,pD,pD,Ki,List.map_nil,show wQ k []=0 from rfl];omega
theorem v8:∀ (cs:List (List ae)) (A:List ae),Wok (A++cs.flatten) false false []→sF [] (A++cs.flatten)=[]→∀ p∈parts (A.foldl cY []) cs,∀ k,wQ k p≤wQ k (de (A++cs.flatten))
 |[],_,_,_,p,hp,_=>by simp [parts] at hp
 |[c],A,hw,_,p,hp,k=>by
  rw [eJ] at hp;simp only [List.mem_singleton] at hp;subst hp;have e:[c].flatten=c:=by simp
  rw [e] at hw ⊢;exact Ev hw k
 |c::d::cs,A,hw,hf,p,hp,k=>by
  rw [eK] at hp;rw [List.flatten_cons] at hw hf ⊢;rcases List.mem_cons.1 hp with rfl | hp
  ·exact FM hw hf k
  ·have e:A++(c++(d::cs).flatten)=(A++c)++(d::cs).flatten:=by simp
   rw [e] at hw hf ⊢;have h2:c.foldl cY (A.foldl cY [])=(A++c).foldl cY []:=by rw [List.foldl_append]
   rw [h2] at hp;exact v8 (d::cs) (A++c) hw hf p hp k
theorem Oo(l:List ae):wQ 0 l=l.length:=by
 unfold wQ;induction l with
 |nil=>rfl
 |cons x l ih=>simp only [List.map_cons,List.sum_cons,ih,List.length_cons,wq];omega
theorem Oq(l:List ae):wQ 1 l=l.length+jT l:=by
 unfold wQ jT;induction l with
 |nil=>rfl
 |cons x l ih=>simp only [List.map_cons,List.sum_cons,ih,List.length_cons,wq];omega
theorem nT.small{l:List ae}{pos:List Int}{cs:List (List ae)}(h:nT l pos cs):∀ p∈parts [] cs,p.length≤l.length∧p.length+jT p≤l.length+jT l:=fun p hp=>by
 have h1:=v8 cs [] h.ok h.fin p hp;have e:de ([]++cs.flatten)=l:=by rw [List.nil_append,h.fl,pC h.chk]
 rw [e] at h1;have a:=h1 0;have b:=h1 1;rw [Oo,Oo] at a;rw [Oq,Oq] at b;exact ⟨a,b⟩
theorem nT.len{l:List ae}{pos:List Int}{cs:List (List ae)}(h:nT l pos cs):l.length≤512:=((pA l).1 h.chk).1
theorem nT.nobig{l:List ae}{pos:List Int}{cs:List (List ae)}(h:nT l pos cs):(nh l pos).any p8=false:=by
 rw [h.cut,List.any_eq_false];intro p hp;have:=(h.small p hp).1;have:=h.len;unfold p8;rw [decide_eq_false (by omega)];simp
theorem nT.val{l:List ae}{pos:List Int}{cs:List (List ae)}(h:nT l pos cs):ux l pos = .tuple [.slice .any 1 ((parts [] cs).map plR),.int .u8 0]:=by
 unfold ux;rw [h.chk,zH _ pos none 0 (fun x hx=>by cases hx) h.inc,h.nobig,h.cut];rfl
theorem HZ{l:List ae}(hl:∀ y∈l,Tx y){x:ae}(hx:Tx x):b7 (bN l x)=b7 l++b7 [x]:=by
 rcases kU hl hx with h | ⟨m,a,b,rfl,rfl,h⟩
 ·rw [h,plainF_app2]
 ·rw [h,plainF_app2,plainF_app2]
  show b7 m++(jS (a++b)++[])=b7 m++(jS a++[])++(jS b++[])
  rw [kr];simp
where
 plainF_app2:∀ (a b:List ae),b7 (a++b)=b7 a++b7 b:=fun a b=>by
  induction a with
  |nil=>rfl
  |cons x a ih=>simp only [List.cons_append,b7,ih,List.append_assoc]
theorem rW(a b:List ae):b7 (a++b)=b7 a++b7 b:=by
 induction a with
 |nil=>rfl
 |cons x a ih=>simp only [List.cons_append,b7,ih,List.append_assoc]
theorem zI{s:List ae}(hs:∀ y∈s,Tx y):b7 (de s)=b7 s:=by
 induction s using mX with
 |h0=>rfl
 |h1 s x ih=>
  have hs1:∀ y∈s,Tx y:=fun y hy=>hs y (by simp [hy])
  rw [kT,HZ (mq hs1) (hs x (by simp)),ih hs1,rW]
theorem Ew{l:List ae}(h:∀ y∈l,(y.kind == 1)=false):b7 l=[]:=by
 induction l with
 |nil=>rfl
 |cons x l ih=>rw [b7,h x (by simp),sel_false,ih fun y hy=>h y (by simp [hy])];rfl
theorem zJ{o st:List Str}{c:List ae}(hs:∀ y∈c,Tx y):b7 (o.map eG++(de c++st.map fS))=b7 c:=by
 rw [rW,rW,Ew fun y hy=>rD hy,Ew fun y hy=>CA hy,zI hs];simp
theorem wa:∀ (cs:List (List ae)) (o:List Str),(∀ y∈cs.flatten,Tx y)→((parts o cs).map b7).flatten=b7 cs.flatten
 |[],_,_=>rfl
 |[c],o,h=>by
  rw [eJ,List.map_cons,zJ fun y hy=>h y (by simpa using hy)];simp
 |c::d::cs,o,h=>by
  rw [eK,List.map_cons,List.flatten_cons,zJ fun y hy=>h y (by simp [hy]),wa (d::cs) _ fun y hy=>h y (by rw [List.flatten_cons];exact List.mem_append_right _ hy),List.flatten_cons (l:=c),rW]
theorem nT.plain{l:List ae}{pos:List Int}{cs:List (List ae)}(h:nT l pos cs):((parts [] cs).map b7).flatten=b7 l:=by
 rw [wa cs [] fun y hy=>(h.sg y hy).tx]
 conv=>rhs;rw [← pC h.chk]
 rw [← h.fl,zI fun y hy=>(h.sg y hy).tx]
section
attribute [local congr] aD bH aS aE aR aL aF au aw aM aN
variable{E:a8}(M:bY cC E)
theorem L8(hB:zd E)(hX:Cn M)(H L:List AObj){w s:Str}{a:AV}(ha:a = .nilp∨a = .ptr (H.length+1) 0)(h:w.length+s.length≤140737488355328) :
  M.run b5 [.ptr (H.length+1) 0,.str s] (H++(bTok w::gi a H.length w aP::L))=some (.ret (.tuple [.int .i64 s.length,.nilif]),H++(bTok (w++s)::gi (.ptr (H.length+1) 0) H.length (w++s) aP::L)):=by
 rcases ha with rfl | rfl
 ·exact vq M (T:=0) hB hX H L h
 ·exact vr M hB hX H L h
theorem L9{α:Type}(H:List α)(x y z:α):(H++[x,y])++[z]=H++[x,y,z]:=by simp
theorem dpl(hBl:zd E)(hX:Cn M){l:List ae}{tg:Tag}(hl:l.length≤ca)(hw:∀ n,Wk n (.slice tg 3 (l.map ae.row)) (.slice tg 3 (l.map ae.row))){H H0:List AObj}:∀ (n i:Nat) (w:Str) (a:AV),(a = .nilp∨a = .ptr (H.length+1) 0)→i+n=l.length→w.length+(b7 (l.drop i)).length≤1000000 →
  ∃ a',∀ (k:List Fra),M.go ki H0 (.c fM :: .lp ⟨(some [3,6,7,8]),[],true⟩ fM (H++[bTok w,gi a H.length w aP]) :: .blk 0 :: .c (.lv [3])::k) (kv [(3,.ptr (H.length+1) 0),(6,.slice tg 3 (l.map ae.row)),(7,.int .i64 l.length),(8,.int .i64 i)]) (H++[bTok w,gi a H.length w aP]) =
   M.go ki H0 k (kv [(3,.ptr (H.length+1) 0)]) (H++[bTok (w++b7 (l.drop i)),gi a' H.length (w++b7 (l.drop i)) aP])
 |0,i,w,a,ha,h,hw0=>by
  have e:i=l.length:=by omega
  subst e;refine ⟨a,fun k => ?_⟩;rw [List.drop_length,show b7 []=[] from rfl,List.append_nil];rw [al M fM.eq_1];simp (maxSteps:=3000000) (maxDischargeDepth:=6) +contextual -implicitDefEqProofs only [amC M,↓amD,Nat.reduceBEq,Nat.reduceAdd,env,ak,kj,Nat.lt_irrefl]
 |n+1,i,w,a,ha,h,hw0=>by
  have hi:i<l.length:=by omega
  have hx:l[i]?=some l[i]:=List.getElem?_eq_getElem hi;have hd:(l.drop i)=l[i]::l.drop (i+1):=List.drop_eq_getElem_cons hi;have hwi:=dO (n:=l.length) hi hl;have hir:=aU (row:=ae.row) (tag:=tg) (sz:=3) (k:=.i64) hi;rw [hd,b7] at hw0 ⊢;generalize hxx:l[i]=x at *
  have g2:∀ y z:AObj,(H++[y,z,AObj.cells x.row ag])[H.length+2]?=some (.cells x.row ag):=fun y z=>by rw [hp_getk];rfl
  have s2:∀ (y z u v:AObj),(H++[y,z,u]).set (H.length+2) v=H++[y,z,v]:=fun y z u v=>by rw [hp_setk];rfl
  have w3:Wk (H.length+2) (.ptr (H.length+1) 0) (.ptr (H.length+1) 0):=wk_ptr (by omega);have w6:=hw (H.length+2);cases kx:x.kind == 1 with
  |false=>
   rw [kx,sel_false,List.nil_append] at hw0;rw [sel_false,List.nil_append];obtain ⟨a',ih⟩:=dpl hBl hX hl hw (H0:=H0) n (i+1) w a ha (by omega) hw0;refine ⟨a',fun k => ?_⟩;have hc:=cut_app (H++[bTok w,gi a H.length w aP]) [AObj.cells x.row ag];have ht:=hp_take (H++[bTok w,gi a H.length w aP]) [AObj.cells x.row ag];simp only [List.append_assoc,List.cons_append,List.nil_append,List.length_append,List.length_cons,List.length_nil,Nat.zero_add,Nat.reduceAdd] at hc ht
   have i2:=ih k;simp only [kv_cons,kv_nil] at i2;rw [al M fM.eq_1];simp (maxSteps:=3000000) (maxDischargeDepth:=6) +contextual -implicitDefEqProofs only [amC M,↓amD,Nat.reduceBEq,Nat.reduceAdd,env,ak,kj,amG,AV.cell,Nat.reduceMul,Nat.reduceLeDiff,hi,hx,hxx,hir,hwi,bh,g2,s2,kx,hc,ht,w3,w6]
   all_goals exact i2
  |true=>
   rw [kx,sel_true,List.length_append] at hw0;rw [sel_true,← List.append_assoc];obtain ⟨a',ih⟩:=dpl hBl hX hl hw (H0:=H0) n (i+1) (w++x.text) (.ptr (H.length+1) 0) (.inr rfl) (by omega) (by rw [List.length_append];omega);refine ⟨a',fun k => ?_⟩;have w1:=L8 M hBl hX H [AObj.cells x.row ag] (w:=w) (s:=x.text) ha (by omega);have hc:=yx (xn (H:=H) (L:=[]) (n:=w.length) (n':=(w++x.text).length) (T:=kh) (T':=kh) (cs:=[a,.slice (.own H.length) 1 (ey w)]) (T1:=aP) (T2:=aP) (Ly H [] (w++x.text))) [AObj.cells x.row ag]
   have ht:(H++[bTok (w++x.text),gi (.ptr (H.length+1) 0) H.length (w++x.text) aP,AObj.cells x.row ag]).take (H.length+2)=H++[bTok (w++x.text),gi (.ptr (H.length+1) 0) H.length (w++x.text) aP]:=by
    rw [← L9,List.take_left' (by simp)]
   simp only [List.append_assoc,List.cons_append,List.nil_append] at hc;have i2:=ih k;simp only [kv_cons,kv_nil] at i2;rw [al M fM.eq_1];simp (maxSteps:=3000000) (maxDischargeDepth:=6) +contextual -implicitDefEqProofs only [amC M,↓amD,Nat.reduceBEq,Nat.reduceAdd,env,ak,kj,amG,AV.cell,Nat.reduceMul,Nat.reduceLeDiff,hi,hx,hxx,hir,hwi,bh,g2,s2,kx,w1,hc,ht,w3,w6]
   all_goals exact i2
theorem zK(hC:lB E)(hBl:zd E)(hX:Cn M){l:List ae}{tg:Tag}(hl:l.length≤ca)(hw:∀ n,Wk n (.slice tg 3 (l.map ae.row)) (.slice tg 3 (l.map ae.row)))(hp:(b7 l).length≤1000000)(H:List AObj) :
  M.run l6 [.slice tg 3 (l.map ae.row)] H=some (.ret (.str (b7 l)),H):=by
 obtain ⟨a',h1⟩:=dpl M hBl hX hl hw (H:=H) (H0:=H) l.length 0 [] .nilp (.inl rfl) (by omega) (by simpa using hp);simp only [kv_cons,kv_nil,Int.ofNat_zero,List.drop_zero,List.nil_append,List.length_nil,List.map_nil] at h1;have h2:=DS M hBl H [] (w:=b7 l) (a:=a') (T:=aP) (by omega);rw [b9 M hC.docs_Plain rfl (c:=oZ) rfl,oZ];simp (maxSteps:=3000000) (maxDischargeDepth:=6) +contextual -implicitDefEqProofs only [amC M,↓amD,Nat.reduceBEq,Nat.reduceAdd,env,ak,kj,amG,AV.cell,Nat.reduceMul,Nat.reduceLeDiff,qU,List.length_map]
 refine (h1 _).trans ?_;simp (maxSteps:=3000000) (maxDischargeDepth:=6) +contextual -implicitDefEqProofs only [amC M,↓amD,Nat.reduceBEq,Nat.reduceAdd,env,ak,kj,amG,AV.cell,Nat.reduceMul,Nat.reduceLeDiff,h2,hp_take,cut_app]
end
section
attribute [local congr] aD bH aS aE aR aL aF au aw aM aN
variable{E:a8}(M:bY cC E)
theorem nT.each{l:List ae}{pos:List Int}{cs:List (List ae)}(h:nT l pos cs){i:Nat}{p c:List ae}(hp:(parts [] cs)[i]?=some p)(hc:cs[i]?=some c):cS p=0∧(unL p).length=uN c:=by
 have h1:=vB cs [] false false ⟨fun s hs=>(by cases hs),by simp⟩ h.ok h.sg h.fin i p c hp hc;have h2:=(h.small p (List.mem_of_getElem? hp)).1;have h3:=h.len;exact ⟨h1.1 (by omega),h1.2⟩
theorem Kj:∀ {P:List Int}{n:Nat}{cs:List (List ae)},Cks n P cs→∀ (i:Nat) (p:Int),P[i]?=some p→p=((n+uN (cs.take (i+1)).flatten:Nat):Int)
 |[],_,_,_,i,p,hp=>by simp at hp
 |q::P,n,[],h,_,_,_=>absurd h id
 |q::P,n,c::cs,h,i,p,hp=>by
  have h1:=h.1;have h2:=uC h.2.1;cases i with
  |zero=>
   simp only [List.getElem?_cons_zero,Option.some.injEq] at hp;subst hp;simp only [List.take_succ_cons,List.take_zero,List.flatten_cons,List.flatten_nil,List.append_nil,h2];omega
  |succ i=>
   simp only [List.getElem?_cons_succ] at hp;have:=Kj h.2.2.2 i p hp;rw [List.take_succ_cons,List.flatten_cons,ks,h2,this];omega
def uTo(cs:List (List ae))(i:Nat):Nat:=uN (cs.take i).flatten
theorem Kk{cs:List (List ae)}{i:Nat}{c:List ae}(h:cs[i]?=some c):uTo cs (i+1)=uTo cs i+uN c:=by
 unfold uTo;rw [List.take_add_one,h];simp [ks]
theorem NI(cs:List (List ae))(i:Nat):uTo cs i≤uN cs.flatten:=by
 unfold uTo;have:=congrArg uN (congrArg List.flatten (List.take_append_drop i cs));rw [List.flatten_append,ks] at this;omega
theorem Ma(n:Nat)(l:List ae):Wk n (.slice (ng l) 3 (l.map ae.row)) (.slice (ng l) 3 (l.map ae.row)):=wk_slice (by cases l<;>trivial) (JM n l)
theorem Bu:(∀ p:List ae,bT none (plR p) 0=some (.slice (ng p) 3 (p.map ae.row))):=fun _=>rfl
theorem dg0(hB:lP E)(hU:Aw E)(hC:lB E)(hBl:zd E)(hX:Cn M){l:List ae}{pos:List Int}{cs:List (List ae)}(h:nT l pos cs)(hsz:l.length+jT l≤2500){v0 v2:AV}{ta:Tag}{H H0:List AObj}(k:List Fra):∀ (n i:Nat) (w:Str) (He:List AObj),i+n=(parts [] cs).length→w.length+(((parts [] cs).drop i).map b7).flatten.length≤1000000 →
  M.go bk H0 (.c bQ :: .lp ⟨(some [0,1,2,7,9,10,11]),[],false⟩ bQ He :: .blk 0 :: .c (.lv [0,1,2,7,9])::k) (kv [(0,v0),(1,.slice ta 1 (pos.map bt)),(2,v2),(7,.slice .any 1 ((parts [] cs).map plR)),(9,.str w),(10,.int .i64 (uTo cs i)),(11,.int .i64 i)]) H =
   M.go bk H0 k (kv [(0,v0),(1,.slice ta 1 (pos.map bt)),(2,v2),(7,.slice .any 1 ((parts [] cs).map plR)),(9,.str (w++(((parts [] cs).drop i).map b7).flatten))]) H
 |0,i,w,He,hn,hw=>by
  have e:i=(parts [] cs).length:=by omega
  subst e;rw [List.drop_length,List.map_nil,List.flatten_nil,List.append_nil];rw [al M bQ.eq_1];simp (maxSteps:=3000000) (maxDischargeDepth:=6) +contextual -implicitDefEqProofs only [amC M,↓amD,Nat.reduceBEq,Nat.reduceAdd,env,ak,aO,Nat.lt_irrefl,List.length_map]
 |n+1,i,w,He,hn,hw=>by
  have hi:i<(parts [] cs).length:=by omega
  have hx:(parts [] cs)[i]?=some (parts [] cs)[i]:=List.getElem?_eq_getElem hi;have hd:(parts [] cs).drop i=(parts [] cs)[i]::(parts [] cs).drop (i+1):=List.drop_eq_getElem_cons hi;have hlen:=jK cs [];have hlen2:=mr h.ck;have hcx:cs[i]?=some cs[i]:=List.getElem?_eq_getElem (by omega);obtain ⟨e1,e2⟩:=h.each hx hcx;have sm:=h.small _ (List.mem_of_getElem? hx);have hl5:=h.len;have huu:=Kk hcx;have hul:=NI cs (i+1)
  have hN:uN cs.flatten≤100000:=by
   rw [h.fl,← kV];have:=ur l;omega
  have hpl:(parts [] cs).length≤1000000:=by
   have hinc:=uF h.inc
   have:pos.length≤100000:=by
    have key:∀ (P:List Int) (n:Nat),zD (unL l).length n P→P.length+n≤(unL l).length∨P=[]:=by
     intro P;induction P with
     |nil=>intro n _;exact .inr rfl
     |cons p P ih=>
      intro n hp;have a1:=hp.1;have a2:=hp.2.1;rcases ih p.toNat hp.2.2 with h | h
      ·exact .inl (by simp only [List.length_cons];omega)
      ·subst h;exact .inl (by simp;omega)
    have hu:=ur l;rcases key pos 0 h.inc with h | h
    ·omega
    ·rw [h];simp
   omega
  have hwi:=dO (n:=(parts [] cs).length) hi (by simp only [ca];omega);have hir:=aU (row:=plR) (tag:=.any) (sz:=1) (k:=.i64) hi;rw [hd,List.map_cons,List.flatten_cons] at hw ⊢;rw [List.length_append] at hw;generalize hxx:(parts [] cs)[i]=x at *
  have u1:=fun H=>Ft M hB hU (l:=⟨ng x,x⟩) (by dsimp only;omega) (fun y hy=>by have h9:y.text.length≤jT x:=zn hy;omega) (by dsimp only;rw [e2];omega) H
  have uf:lR x=((uN cs[i]:Int),0):=by unfold lR;rw [if_pos e1,e2]
  dsimp only at u1;rw [uf] at u1;have p1:=fun H=>zK M hC hBl hX (l:=x) (tg:=ng x) (by simp only [ca];omega) (fun n=>Ma n x) (by omega) H
  have sa:=Gm (s:=w) (t:=b7 x) (by omega);have hw2:IntKind.i64.wrap ((uTo cs i:Int)+(uN cs[i]:Int))=(uTo cs (i+1):Int):=by rw [b4 (by omega) (by omega),huu];omega
  have ih:=fun He=>dg0 hB hU hC hBl hX h hsz (v0:=v0) (v2:=v2) (ta:=ta) (H:=H) (H0:=H0) k n (i+1) (w++b7 x) He (by omega) (by rw [List.length_append];omega)
  simp only [kv_cons,kv_nil] at ih;rw [← List.append_assoc]
  by_cases hip:i<pos.length
  ·have hp:pos[i]?=some pos[i]:=List.getElem?_eq_getElem hip
   have hpe:=Kj h.ck i _ hp;rw [Nat.zero_add] at hpe;have hirp:=aU (row:=bt) (tag:=ta) (sz:=1) (k:=.i64) hip;have q0:((uTo cs (i+1):Int) == pos[i])=true:=by rw [beq_iff_eq,hpe];rfl
   rw [al M bQ.eq_1];simp (maxSteps:=3000000) (maxDischargeDepth:=6) +contextual -implicitDefEqProofs only [amC M,↓amD,Nat.reduceBEq,Nat.reduceAdd,env,ak,aO,List.length_map,hi,hx,hxx,hir,hwi,Bu,u1,p1,sa,hw2,cZ,List.getElem?_cons_zero,List.getElem?_cons_succ,hip,hp,hirp,ry,q0,ih,beq_self_eq_true,Bool.not_true,Bool.not_false]
  ·rw [al M bQ.eq_1]
   simp (maxSteps:=3000000) (maxDischargeDepth:=6) +contextual -implicitDefEqProofs only [amC M,↓amD,Nat.reduceBEq,Nat.reduceAdd,env,ak,aO,List.length_map,hi,hx,hxx,hir,hwi,Bu,u1,p1,sa,hw2,cZ,List.getElem?_cons_zero,List.getElem?_cons_succ,hip,ih,beq_self_eq_true,Bool.not_true,Bool.not_false]
theorem dg1{pos:List Int}{ta:Tag}(hpl:pos.length≤1000000){N:Int}(hN:N≤1000000)(hps:∀ x∈pos,0≤x∧x≤N){kk:Nat}{p:Int}(hk:pos[kk]?=some p){H0 H X:List AObj}{v7 v18:AV}(k:List Fra):∀ (n i:Nat) (o:List Int) (He:List AObj),i+n=pos.length→o.length≤i →
  M.go bk H0 (.c cE :: .lp ⟨(some [1,7,17,18,19,20]),[(19,1,ow)],false⟩ cE He :: .blk 2 :: .c (.lv [1,7,17,18,19])::k) (kv [(1,.slice ta 1 (pos.map bt)),(7,v7),(17,.int .i64 kk),(18,v18),(19,.slice (.own H.length) 1 (o.map bt)),(20,.int .i64 i)]) (H++(.tok (o.length*1) ow::X)) =
   M.go bk H0 k (kv [(1,.slice ta 1 (pos.map bt)),(7,v7),(17,.int .i64 kk),(18,v18),(19,.slice (.own H.length) 1 ((o++(pos.drop i).map (· - p)).map bt))]) (H++(.tok ((o++(pos.drop i).map (· - p)).length*1) ow::X))
 |0,i,o,He,h,ho=>by
  have e:i=pos.length:=by omega
  subst e;rw [List.drop_length,List.map_nil,List.append_nil];rw [al M cE.eq_1];simp (maxSteps:=3000000) (maxDischargeDepth:=6) +contextual -implicitDefEqProofs only [amC M,↓amD,Nat.reduceBEq,Nat.reduceAdd,env,ak,aO,Nat.lt_irrefl,List.length_map]
 |n+1,i,o,He,h,ho=>by
  have hi:i<pos.length:=by omega
  have hx:pos[i]?=some pos[i]:=List.getElem?_eq_getElem hi;have hd:pos.drop i=pos[i]::pos.drop (i+1):=List.drop_eq_getElem_cons hi;have hwi:=dO (n:=pos.length) hi (by simp only [ca];omega);have hir:=aU (row:=bt) (tag:=ta) (sz:=1) (k:=.i64) hi;have hkl:kk<pos.length:=(List.getElem?_eq_some_iff.1 hk).1;have hirk:=aU (row:=bt) (tag:=ta) (sz:=1) (k:=.i64) hkl;have b1:=hps _ (List.getElem_mem hi);have b2:=hps _ (List.mem_of_getElem? hk)
  rw [hd,List.map_cons,show o++(pos[i]-p)::(pos.drop (i+1)).map (· - p)=o++[pos[i]-p]++(pos.drop (i+1)).map (· - p) by simp];generalize hxx:pos[i]=x at *
  have hws:IntKind.i64.wrap (x-p)=x-p:=b4 (by omega) (by omega);have ap:=fun L=>Cq (row:=bt) (l:=o) (x:=x-p) (r:=[.int .i64 (x-p)]) (sz:=1) (bytes:=8) (e:=ow) H L rfl rfl rfl (by omega) (by omega)
  have ih:=fun He=>dg1 hpl hN hps hk (ta:=ta) (H0:=H0) (H:=H) (X:=X) (v7:=v7) (v18:=v18) k n (i+1) (o++[x-p]) He (by omega) (by simp;omega)
  simp only [kv_cons,kv_nil] at ih;rw [al M cE.eq_1];simp (maxSteps:=3000000) (maxDischargeDepth:=6) +contextual -implicitDefEqProofs only [amC M,↓amD,Nat.reduceBEq,Nat.reduceAdd,env,ak,aO,amG,AV.cell,Nat.reduceMul,Nat.reduceLeDiff,List.length_map,hi,hx,hxx,hir,hwi,hk,hkl,hirk,ry,hws,ap,ih]
theorem dg2(hB:lP E){ps X Y:List (List ae)}(hxy:X++Y=ps)(hpl:ps.length≤1000000)(hps:∀ p∈ps,p.length≤512){H H0:List AObj}(k:List Fra):∀ (n i:Nat) (He:List AObj),i+n=ps.length →
  M.go bk H0 (.c bR :: .lp ⟨(some [7,21,22,23]),[],false⟩ bR He :: .blk 4 :: .c (.lv [])::k) (kv [(7,.slice .any 1 (ps.map plR)),(21,.slice .any 1 (X.map plR)),(22,.slice .any 1 (Y.map plR)),(23,.int .i64 i)]) H =
   M.go bk H0 k (kv []) H
 |0,i,He,h=>by
  have e:i=ps.length:=by omega
  subst e;rw [al M bR.eq_1];simp (maxSteps:=3000000) (maxDischargeDepth:=6) +contextual -implicitDefEqProofs only [amC M,↓amD,Nat.reduceBEq,Nat.reduceAdd,env,ak,aO,Nat.lt_irrefl,List.length_map]
 |n+1,i,He,h=>by
  have hi:i<ps.length:=by omega
  have hx:ps[i]?=some ps[i]:=List.getElem?_eq_getElem hi;have hwi:=dO (n:=ps.length) hi (by simp only [ca];omega);have hir:=aU (row:=plR) (tag:=.any) (sz:=1) (k:=.i64) hi;have hl:=hps _ (List.getElem_mem hi);have hlen:X.length+Y.length=ps.length:=by rw [← hxy,List.length_append]
  generalize hxx:ps[i]=x at *
  have sp:=fun H=>mR M hB (l:=x) (ta:=ng x) (tb:=ng x) (by simp only [ca];omega) H
  have ih:=fun He=>dg2 hB hxy hpl hps (H:=H) (H0:=H0) k n (i+1) He (by omega)
  simp only [kv_cons,kv_nil] at ih
  by_cases hiX:i<X.length
  ·have hxX:X[i]?=some x:=by rw [← hx,← hxy,List.getElem?_append_left hiX]
   have hirX:=aU (row:=plR) (tag:=.any) (sz:=1) (k:=.i64) hiX;have d1:decide (X.length≤i)=false:=decide_eq_false (by omega);rw [al M bR.eq_1];simp (maxSteps:=3000000) (maxDischargeDepth:=6) +contextual -implicitDefEqProofs only [amC M,↓amD,Nat.reduceBEq,Nat.reduceAdd,env,ak,aO,List.length_map,hi,hx,hir,hwi,Bu,hiX,hxX,hirX,d1,sp,ih,Bool.not_true]
  ·have hiY:i-X.length<Y.length:=by omega
   have hxY:Y[i-X.length]?=some x:=by rw [← hx,← hxy,List.getElem?_append_right (by omega)]
   have hirY:=aU (row:=plR) (tag:=.any) (sz:=1) (k:=.i64) hiY;have d1:decide (X.length≤i)=true:=decide_eq_true (by omega);have hws:IntKind.i64.wrap ((i:Int)-(X.length:Int))=((i-X.length:Nat):Int):=by rw [b4 (by omega) (by omega)];omega
   rw [al M bR.eq_1];simp (maxSteps:=3000000) (maxDischargeDepth:=6) +contextual -implicitDefEqProofs only [amC M,↓amD,Nat.reduceBEq,Nat.reduceAdd,env,ak,aO,List.length_map,hi,hx,hir,hwi,Bu,hiX,hxY,hirY,d1,hws,sp,ih,Bool.not_true]
end
section
attribute [local congr] aD bH aS aE aR aL aF au aw aM aN
variable{E:a8}(M:bY cC E)
theorem Ex{tg:Tag}{pos:List Int}(hne:pos≠[]){a b:Nat}(hab:a≤b)(hb:b≤pos.length):uQ 1 (.slice tg 1 (pos.map bt)) (some (.int .i64 (a:Int))) (some (.int .i64 (b:Int))) none=some (.slice .any 1 (((pos.drop a).take (b-a)).map bt)) ∧
  uQ 1 (.slice tg 1 (pos.map bt)) none (some (.int .i64 (b:Int))) none=some (.slice .any 1 ((pos.take b).map bt)):=by
 have he:((pos.map bt).isEmpty=true)=False:=by cases pos<;>simp at hne ⊢
 constructor
 ·simp [uQ,cJ,he,hab,hb,hne]
 ·simp [uQ,cJ,he,hb,hne]
theorem MH{a b:Int}(h:b≠0):jv .rem .i64 a b=some (.int .i64 (a.tmod b)):=if_neg h
theorem Kl(w:Int){n:Nat}(h0:0<n)(hn:n≤1000000):∃ k:Nat,k<n∧(w.tmod (n:Int)+(n:Int)).tmod (n:Int)=(k:Int)∧IntKind.i64.wrap (w.tmod (n:Int)+(n:Int))=w.tmod (n:Int)+(n:Int):=by
 have h1:w.tmod (n:Int)<(n:Int):=Int.tmod_lt_of_pos w (by omega);have h2 : -(n:Int)<w.tmod (n:Int):=Int.lt_tmod_of_pos w (by omega);have h3:0≤w.tmod (n:Int)+(n:Int):=by omega
 have h4:=Int.tmod_nonneg (n:Int) h3;have h5:(w.tmod (n:Int)+(n:Int)).tmod (n:Int)<(n:Int):=Int.tmod_lt_of_pos _ (by omega);exact ⟨((w.tmod (n:Int)+(n:Int)).tmod (n:Int)).toNat,by omega,by omega,b4 (by omega) (by omega)⟩
theorem H6{l:List ae}{pos:List Int}{cs:List (List ae)}(h:nT l pos cs):Eh ((parts [] cs).map fun p=>⟨ng p,p⟩) = .tuple [.slice (ng l) 3 (l.map ae.row),.int .u8 0]:=by
 have hm:((parts [] cs).map fun p=>(⟨ng p,p⟩:Sl ae)).map (·.l)=parts [] cs:=by rw [List.map_map];exact List.map_id _
 have hl5:=h.len
 obtain ⟨g1,g2,g3⟩:=h.glue hm (fun p hp=>by
  obtain ⟨q,hq,rfl⟩:=List.mem_map.1 hp;have:=(h.small q hq).1;show q.length≤512;omega)
 have hn:((parts [] cs).map fun p=>(⟨ng p,p⟩:Sl ae)).length≠0:=by
  rw [List.length_map,jK,mr h.ck];omega
 have hc:∀ ps:List (Sl ae),(∀ p∈ps,cS p.l=0)→chkPs ps=0:=by
  intro ps;induction ps with
  |nil=>intro _;rfl
  |cons p ps ih=>intro h;rw [chkPs,h p (by simp)];exact ih fun q hq=>h q (by simp [hq])
 unfold Eh;have hb:p8 l=false:=decide_eq_false (by omega);rw [decide_eq_false hn,sel_false,hc _ g1,show ((0:Int) == 0)=true from rfl,sel_true,g2,sel_true,g3,hb,sel_false]
theorem Mb(ps:List (List ae)):ps.map plR=(ps.map fun p=>(⟨ng p,p⟩:Sl ae)).map gz:=by rw [List.map_map];rfl
theorem Ey(l:List ae)(pos:List Int):(∃ e:Int,(e == 0)=false∧ux l pos = .tuple [.slice .any 1 [],.int .u8 e])∨∃ cs,nT l pos cs:=by
 unfold ux;cases c0:cS l == 0 with
 |false=>exact .inl ⟨_,c0,by rw [sel_false]⟩
 |true=>
  cases c1:okA ((unL l).length:Int) none pos with
  |false=>exact .inl ⟨1,rfl,by rw [sel_true,sel_false]⟩
  |true=>exact .inr (rU (by simpa using c0) c1)
theorem AB(hB:lP E)(hX:Av M)(hE:Cn M)(hU:Aw E)(hN:HO E)(hC:lB E)(hBl:zd E){l:Sl ae}(hl:l.ok 0 (ae.ok 0)){pos:Sl Int}(hpos:pos.ok 0 I64∧(pos.tag = .nil∧pos.l=[]∨pos.tag = .some)){w:Int}(hw:I64 w){H:List AObj}
  (hL:∀ H,M.run bu [] H=some (.ret (.bool true),H)):M.run fc [.slice l.tag 3 (l.l.map ae.row),.slice pos.tag 1 (pos.l.map bt),.int .i64 w] H=some (.ret (.bool true),H):=by
 have s2:=fun H=>HQ M hB hl H
 rw [b9 M hC.truchmanlaw01_DocsGlued rfl (c:=fe) rfl,fe];cases c1:DZ [l] with
 |true=>simp (maxSteps:=3000000) (maxDischargeDepth:=6) +contextual -implicitDefEqProofs only [amC M,↓amD,Nat.reduceBEq,Nat.reduceAdd,env,ak,aO,amG,AV.cell,Nat.reduceMul,Nat.reduceLeDiff,s2,jH,c1,hL]
 |false=>
 cases c2:decide ((30:Int)<(pos.l.length:Int)) with
 |true=>simp (maxSteps:=3000000) (maxDischargeDepth:=6) +contextual -implicitDefEqProofs only [amC M,↓amD,Nat.reduceBEq,Nat.reduceAdd,env,ak,aO,amG,AV.cell,Nat.reduceMul,Nat.reduceLeDiff,s2,jH,c1,List.length_map,c2,hL]
 |false=>
 have n2:pos.l.length≤30:=by have:=of_decide_eq_false c2;omega
 have hlong:=HP c1
 have hta:pos.tag = .any∨pos.tag = .some∨pos.l=[]∨∃ t,pos.tag = .own t:=by
  rcases hpos.2 with h | h
  ·exact .inr (.inr (.inl h.2))
  ·exact .inr (.inl h)
 have k1:=fun H=>uy M hB hX hU hN hC (l:=l) (pos:=pos.l) (ta:=pos.tag) (by omega) (by omega) hta H
 rcases Ey l.l pos.l with ⟨e,e1,e2⟩ | ⟨cs,h⟩
 ·rw [e2] at k1
  simp (maxSteps:=3000000) (maxDischargeDepth:=6) +contextual -implicitDefEqProofs only [amC M,↓amD,Nat.reduceBEq,Nat.reduceAdd,env,ak,aO,amG,AV.cell,Nat.reduceMul,Nat.reduceLeDiff,s2,jH,c1,List.length_map,c2,k1,cZ,List.getElem?_cons_zero,List.getElem?_cons_succ,e1,List.length_nil,hL,Bool.not_false,(show (((0:Nat):Int) == 0)=true from rfl)]
 have hlen:=jK cs [];have hlen2:=mr h.ck;have hwl:∀ n,Wk n (.slice l.tag 3 (l.l.map ae.row)) (.slice l.tag 3 (l.l.map ae.row)):=fun n=>(hl.mono (Nat.zero_le n) (fun _ h=>h.mono (Nat.zero_le n))).wk (fun _ h=>h.wk)
 have q1:((parts [] cs).length == pos.l.length+1)=true:=by rw [beq_iff_eq];omega
 have hw1:IntKind.i64.wrap ((pos.l.length:Int)+1)=((pos.l.length+1:Nat):Int):=by rw [b4 (by omega) (by omega)];rfl
 have hpl:=zo l.l;have hplain:=h.plain;have l0:=fun k He=>dg0 M hB hU hC hBl hE h (by omega) (v0:=.slice l.tag 3 (l.l.map ae.row)) (v2:=.int .i64 w) (ta:=pos.tag) (H:=H) (H0:=H) k (parts [] cs).length 0 [] He (by omega) (by rw [List.drop_zero,hplain];simp;omega)
 simp only [kv_cons,kv_nil,Int.ofNat_zero,List.drop_zero,List.nil_append,hplain,show uTo cs 0=0 from rfl] at l0;rw [h.val] at k1
 have g1:=fun H=>HV M hB hX hC (ps:=(parts [] cs).map fun p=>⟨ng p,p⟩) (tg:=.any) (by rw [List.length_map];omega) (fun p hp=>by
  obtain ⟨q,hq,rfl⟩:=List.mem_map.1 hp;have:=(h.small q hq).2;exact ⟨by dsimp only;omega,fun x hx=>by have h9:x.text.length≤jT q:=zn hx;omega⟩) (by
  rw [J1]
  have key:∀ z:List (List ae),(∀ q∈z,q.length+jT q≤2500)→Ay (z.map fun p=>(⟨ng p,p⟩:Sl ae))≤z.length*2500:=by
   intro z;induction z with
   |nil=>intro _;exact Nat.zero_le _
   |cons q z ih=>
    intro hz;have a1:=ih fun x hx=>hz x (by simp [hx])
    have a2:=hz q (by simp);unfold Ay at a1 ⊢;rw [List.map_cons,List.map_cons,List.sum_cons,List.length_cons];dsimp only at a1 ⊢;omega
  have:=key (parts [] cs) (fun q hq=>by have:=(h.small q hq).2;omega);omega) H
 rw [← Mb,H6 h] at g1;have sp:=fun H=>mR M hB (l:=l.l) (ta:=ng l.l) (tb:=l.tag) hl.len H
 have pd:=fun H=>zK M hC hBl hE (l:=l.l) (tg:=l.tag) hl.len hwl (by omega) H
 have qs:∀ s:Str,jU .neq s s=some (.bool false):=fun s=>by simp [jU]
 by_cases hp0:pos.l=[]
 ·have hz:((pos.l.length:Int) == 0)=true:=by rw [hp0];rfl
  have hcs:∃ c,cs=[c]:=by have:=h.ck;rw [hp0] at this;exact this
  obtain ⟨c,hc⟩:=hcs
  have hpc:parts [] cs=[l.l]:=by
   have h1:=h.cut;have h2:=pC h.chk;rw [← h.fl,hc] at h2;rw [hc,eJ];simp only [List.map_nil,List.nil_append,List.append_nil];rw [← h2];simp
  rw [hpc] at k1 l0 g1 q1;have sp2:=fun H=>mR M hB (l:=l.l) (ta:=ng l.l) (tb:=l.tag) hl.len H
  have hir0:=aU (row:=plR) (l:=[l.l]) (tag:=.any) (sz:=1) (k:=.i64) (i:=0) (by simp);rw [Int.ofNat_zero] at hir0;have hx0:([l.l]:List (List ae))[0]?=some l.l:=rfl;generalize hPP:[l.l]=PP at k1 l0 g1 q1 hir0 hx0;simp (maxSteps:=3000000) (maxDischargeDepth:=6) +contextual -implicitDefEqProofs only [amC M,↓amD,Nat.reduceBEq,Nat.reduceAdd,env,ak,aO,amG,AV.cell,Nat.reduceMul,Nat.reduceLeDiff,s2,jH,c1,List.length_map,c2,k1,cZ,List.getElem?_cons_zero,List.getElem?_cons_succ,q1,hw1,l0,g1,sp,pd,qs,hz,hir0,hx0,Bu,hL,Bool.not_true,Bool.not_false,beq_self_eq_true,(show ((0:Int) == 0)=true from rfl)]
 have hz:((pos.l.length:Int) == 0)=false:=beq_eq_false_iff_ne.2 fun e=>hp0 (List.length_eq_zero_iff.1 (by omega))
 have hn0:0<pos.l.length:=List.length_pos_iff.2 hp0;obtain ⟨kk,kl,kv1,kv2⟩:=Kl w hn0 (by omega);have r1:=MH (a:=w) (b:=(pos.l.length:Int)) (by omega);have r2:=MH (a:=w.tmod (pos.l.length:Int)+(pos.l.length:Int)) (b:=(pos.l.length:Int)) (by omega);rw [kv1] at r2;obtain ⟨p,hp⟩:∃ p,pos.l[kk]?=some p:=⟨_,List.getElem?_eq_getElem kl⟩
 have hws:IntKind.i64.wrap ((kk:Int)+1)=((kk+1:Nat):Int):=by rw [b4 (by omega) (by omega)];rfl
 obtain ⟨sl1,_⟩:=Ex (tg:=pos.tag) hp0 (a:=kk) (b:=kk+1) (by omega) (by omega);obtain ⟨_,sl2⟩:=Ex (tg:=pos.tag) hp0 (a:=kk) (b:=kk) (by omega) (by omega)
 have ht1:(pos.l.drop kk).take (kk+1-kk)=[p]:=by
  rw [show kk+1-kk=1 by omega,uG pos.l kk p hp,List.drop_left' (by rw [List.length_take];omega)];rfl
 rw [ht1] at sl1;have hin:=uF h.inc p (List.mem_of_getElem? hp);obtain ⟨ds,hd⟩:=rU (l:=l.l) (pos:=[p]) h.chk (zH _ [p] none 0 (fun x hx=>by cases hx) ⟨by omega,by omega,trivial⟩);have k2:=fun H=>uy M hB hX hU hN hC (l:=l) (pos:=[p]) (ta:=.any) (by omega) (by simp) (.inl rfl) H
 rw [hd.val] at k2
 obtain ⟨p0,p1,hpd⟩:∃ p0 p1,parts [] ds=[p0,p1]:=by
  have h1:=jK ds [];rw [mr hd.ck] at h1
  match parts [] ds,h1 with
  |[a,b],_=>exact ⟨a,b,rfl⟩
 have hda:∃ a,ds[0]?=some a:=⟨_,List.getElem?_eq_getElem (by rw [mr hd.ck];simp)⟩
 have hdb:∃ a,ds[1]?=some a:=⟨_,List.getElem?_eq_getElem (by rw [mr hd.ck];simp)⟩
 obtain ⟨da,hda⟩:=hda;obtain ⟨db,hdb⟩:=hdb;have v0:=(hd.each (i:=0) (p:=p0) (by rw [hpd];rfl) hda).1;have v1:=(hd.each (i:=1) (p:=p1) (by rw [hpd];rfl) hdb).1;have m0:=hd.small p0 (by rw [hpd];simp);have m1:=hd.small p1 (by rw [hpd];simp);obtain ⟨o0,o1,oc⟩:=h.again hp hd hpd v0 v1;obtain ⟨z0,hz0⟩:=rU v0 o0;obtain ⟨z1,hz1⟩:=rU v1 o1;have k3:=fun H=>uy M hB hX hU hN hC (l:=⟨ng p0,p0⟩) (pos:=pos.l.take kk) (ta:=.any) (by dsimp only;omega) (by rw [List.length_take];omega) (.inl rfl) H
 have k4:=fun t H=>uy M hB hX hU hN hC (l:=⟨ng p1,p1⟩) (pos:=(pos.l.drop (kk+1)).map (· - p)) (ta:=.own t) (by dsimp only;omega) (by rw [List.length_map,List.length_drop];omega) (.inr (.inr (.inr ⟨t,rfl⟩))) H
 dsimp only at k3 k4;rw [hz0.val] at k3;simp only [hz1.val] at k4;rw [hz0.cut,hz1.cut] at oc;rw [hpd] at k2;have hirA:=aU (row:=plR) (l:=[p0,p1]) (tag:=.any) (sz:=1) (k:=.i64) (i:=0) (by simp);have hirB:=aU (row:=plR) (l:=[p0,p1]) (tag:=.any) (sz:=1) (k:=.i64) (i:=1) (by simp);rw [Int.ofNat_zero] at hirA;rw [show ((1:Nat):Int)=1 from rfl] at hirB;have hxA:([p0,p1]:List (List ae))[0]?=some p0:=rfl;have hxB:([p0,p1]:List (List ae))[1]?=some p1:=rfl
 generalize hPP:[p0,p1]=PP at k2 hirA hirB hxA hxB
 have l1:=fun k He=>dg1 M (pos:=pos.l) (ta:=pos.tag) (by omega) (N:=100000) (by omega) (fun x hx=>by
  have:=uF h.inc x hx;have:=ur l.l;omega) hp (H0:=H) (H:=H) (X:=[]) (v7:=.slice .any 1 ((parts [] cs).map plR)) (v18:=.slice .any 1 (PP.map plR)) k (pos.l.length-(kk+1)) (kk+1) [] He (by omega) (Nat.zero_le _)
 simp only [kv_cons,kv_nil,List.nil_append,List.length_nil,Nat.zero_mul,List.map_nil] at l1;have hsum:(parts [] z0).length+(parts [] z1).length=(parts [] cs).length:=by rw [← oc,List.length_append]
 have hws2:IntKind.i64.wrap (((parts [] z0).length:Int)+((parts [] z1).length:Int))=((parts [] cs).length:Int):=by rw [b4 (by omega) (by omega)];omega
 have l2:=fun H0 H k He=>dg2 M hB oc (by omega) (fun q hq=>by have:=(h.small q hq).1;have:=h.len;omega) (H:=H) (H0:=H0) k (parts [] cs).length 0 He (by omega)
 simp only [kv_cons,kv_nil,Int.ofNat_zero] at l2;simp (maxSteps:=3000000) (maxDischargeDepth:=6) +contextual -implicitDefEqProofs only [amC M,↓amD,Nat.reduceBEq,Nat.reduceAdd,env,ak,aO,amG,AV.cell,Nat.reduceMul,Nat.reduceLeDiff,s2,jH,c1,List.length_map,c2,k1,cZ,List.getElem?_cons_zero,List.getElem?_cons_succ,q1,hw1,l0,g1,sp,pd,qs,hz,r1,r2,kv2,hws,sl1,sl2,k2,l1,hirA,hirB,hxA,hxB,Bu,k3,k4,hws2,l2,hL,Bool.not_true,Bool.not_false,beq_self_eq_true,(show ((0:Int) == 0)=true from rfl),hp_take,cut_app]
end
section
open Go.ChangeShapes Go.WideShapes
structure CI (P:Program):Prop where
 u_api_PieceKind:P.underlying lH=some (.int .u8)
 c_api_PieceKind:P.cellsOf lH=1
 u_string:P.underlying aI=some .string
 c_string:P.cellsOf aI=1
 u_bool:P.underlying Cc=some .bool
 c_bool:P.cellsOf Cc=1
 f_Piece:fieldsOf P ag=some [(0,lH),(1,aI),(2,Cc)]
 c_Piece:P.cellsOf ag=3
 u_sl_Piece:P.underlying ah=some (.slice ag)
 c_sl_Piece:P.cellsOf ah=1
 y_Piece:Nat.blt 0 (P.bytesOf ag)=true
 u_int:P.underlying ow=some (.int .i64)
 c_int:P.cellsOf ow=1
 u_sl_int:P.underlying tY=some (.slice ow)
 c_sl_int:P.cellsOf tY=1
 y_int:Nat.blt 0 (P.bytesOf ow)=true
section
variable{P:Program}{W:World}{G:Nat→Option (List AV)}
theorem FN(h:CI P):mK P W G ag ae.row (ae.ok 0):=
 B7 h.f_Piece h.c_Piece (qH (Lo h.u_api_PieceKind) h.c_api_PieceKind (qH (HA h.u_string) h.c_string (qH (Fh h.u_bool) h.c_bool (Fi _)))) (fun a=>⟨a.1,a.2.1,a.2.2.1⟩) (fun a=>rfl) (fun a ha=>⟨ha.2.1⟩)
theorem AD(h:CI P):mK P W G ah (fun s:Sl ae=>[.slice s.tag 3 (s.l.map ae.row)]) (fun s=>s.ok 0 (ae.ok 0)):=
 DC h.u_sl_Piece h.c_Piece (by decide) (Ga h.y_Piece) (fun _=>by simp only [bh]) (FN h)
end
end
section
open Go.Shelf Go.RowKit Go.Lib Go.Proofs
def zL:Go.Shelf.Ren:=⟨fun | 197=>94 | 260=>134 | n=>n,fun | 9=>9 | 21=>21 | 3=>3 | 4=>4 | 5=>5 | 105=>155 | 119=>220 | 0=>0 | 46=>221 | 139=>224 | 138=>223 | n=>n,fun | 3=>0 | 4=>1 | n=>n⟩
theorem Km:Go.Proofs.Lays.n197 Tryz.prog zL where
 mixed:=by kernel_rfl
 f197:=Tryz.func94.trans (congrArg some (by kernel_rfl))
 f260:=Tryz.func134.trans (congrArg some (by kernel_rfl))
 t0:=Tryz.underlying0
 a0:=Tryz.isAgg0
 z0:=Tryz.sizeOf0
 v0:=Tryz.zeroValue0
 t3:=Tryz.underlying3
 a3:=Tryz.isAgg3
 z3:=Tryz.sizeOf3
 v3:=Tryz.zeroValue3
 t4:=Tryz.underlying4
 a4:=Tryz.isAgg4
 z4:=Tryz.sizeOf4
 v4:=Tryz.zeroValue4
 t5:=Tryz.underlying5
 a5:=Tryz.isAgg5
 z5:=Tryz.sizeOf5
 v5:=Tryz.zeroValue5
 t9:=Tryz.underlying9
 a9:=Tryz.isAgg9
 z9:=Tryz.sizeOf9
 v9:=Tryz.zeroValue9
 t21:=Tryz.underlying21
 a21:=Tryz.isAgg21
 z21:=Tryz.sizeOf21
 v21:=Tryz.zeroValue21
 t46:=Tryz.underlying221
 a46:=Tryz.isAgg221
 z46:=Tryz.sizeOf221
 v46:=Tryz.zeroValue221
 t105:=Tryz.underlying155
 a105:=Tryz.isAgg155
 z105:=Tryz.sizeOf155
 v105:=Tryz.zeroValue155
 t119:=Tryz.underlying220
 a119:=Tryz.isAgg220
 z119:=Tryz.sizeOf220
 t138:=Tryz.underlying223
 a138:=Tryz.isAgg223
 z138:=Tryz.sizeOf223
 v138:=Tryz.zeroValue223
 t139:=Tryz.underlying224
 a139:=Tryz.isAgg224
 z139:=Tryz.sizeOf224
 v139:=Tryz.zeroValue224
 g3:=by kernel_rfl
 g4:=by kernel_rfl
theorem FO:∀ args w,(callFunc 94 args).run Tryz.prog w = .ok (.enter 94 args) w:=enters_of Tryz.func94 (by kernel_rfl) rfl
theorem H7:∀ (s:ByteArray) (w:World),Lib.Utf8Tabs 0 1 w→Calls Tryz.prog 94 #[.string s] w fun e w'=>e = .returned (.tuple #[.int .i32 (Lib.decodeGo s).1,.int .i64 (Lib.decodeGo s).2])∧Below w.heap.size w w':=fun s w hT=>Any.utf8_DecodeRuneInString Km s w hT
theorem H8 {W:World} (h3:VarReads Tryz.prog W "unicode/utf8.first" firstData) (h4:VarReads Tryz.prog W "unicode/utf8.acceptRanges" acceptData):Lib.Utf8Tabs 0 1 W:=
 utf8Tabs_of_readsT (ρ:=zL) { Km with } ⟨by kernel_rfl,by kernel_rfl,by kernel_rfl,by kernel_rfl,by kernel_rfl,by kernel_rfl,by kernel_rfl⟩ h3 h4
end
section
open Go.Proofs
def Kn:List (Nat×AFn):=[(3,bk),(6,cO),(8,kO),(9,gV),(10,ki),(11,cP),(12,bV),(30,ma),(31,gb),(32,cF),(33,cA),(34,eb)]
theorem NJ:lV (dK Tryz.prog G0) Kn:=by repeat' first | (unfold dK;kernel_rfl) | exact trivial | refine ⟨?_, ?_⟩
def Ko:List (Nat×AFn):=[(35,dX),(36,dS),(37,iH),(38,aT),(39,cg),(40,ir),(55,gI),(60,mb),(69,fo),(71,dF),(72,gd),(73,kn)]
theorem NK:lV (dK Tryz.prog G0) Ko:=by repeat' first | (unfold dK;kernel_rfl) | exact trivial | refine ⟨?_, ?_⟩
def Kq:List (Nat×AFn):=[(74,bC),(75,mg),(76,gY),(77,du),(78,dw),(79,gJ),(80,en),(81,fD),(87,ed),(101,qP),(116,aC),(117,cR)]
theorem NL:lV (dK Tryz.prog G0) Kq:=by repeat' first | (unfold dK;kernel_rfl) | exact trivial | refine ⟨?_, ?_⟩
def Kr:List (Nat×AFn):=[(118,aH),(119,ej)]
theorem NM:lV (dK Tryz.prog G0) Kr:=by repeat' first | (unfold dK;kernel_rfl) | exact trivial | refine ⟨?_, ?_⟩
def Ks:List (Nat×List (Nat×AFn)):=[(34,Kn),(73,Ko),(117,Kq),(119,Kr)]
def Ot(f:FuncId):Option AFn:=Dy Ks f
theorem Mc:∀ f af,Ot f=some af→dK Tryz.prog G0 f af:=fun f af h=>yt (show B5 _ Ks from ⟨NJ,NK,NL,NM,trivial⟩) h
def NN(f:FuncId)(args:List AV)(H:List AObj):Option Out:=
 match args with
 |[]=>bif Nat.beq f bu then some (.ret (.bool true),H) else none
 |[.str s]=>bif Nat.beq f bI then some (.ret (.tuple [.int .i32 ((wm s).1:Nat),.int .i64 ((wm s).2:Nat)]),H) else none
 |_=>Lt f args H
theorem Md{f:FuncId}{args:List AV}{H H':List AObj}{r:lZ}(h:NN f args H=some (r,H')):cI Tryz.prog G0 f args H fun r2 H2=>r2=r∧H2=H':=by
 unfold NN at h;split at h
 ·cases h1:Nat.beq f bu with
  |true=>rw [h1] at h;cases h;rw [Nat.eq_of_beq_eq_true h1];exact Jw H
  |false=>rw [h1] at h;cases h
 ·rename_i s
  cases h1:Nat.beq f bI with
  |true=>rw [h1] at h;cases h;rw [Nat.eq_of_beq_eq_true h1];exact Lj rfl FO H7 s H
  |false=>rw [h1] at h;cases h
 ·exact Ge h
noncomputable def EN:a8 := { P:=Tryz.prog,G:=G0,fn:=Ot,orc:=NN,dfn:=fun _=>none,seq:=Lv,sar:=fun _=>1 }
theorem Ou:EN.Ok:=⟨Gf,fun f af h=>Mc f af h,(fun _ _ _ h=>by cases h),(fun _ _ _ _ _ h=>by cases h),fun _ _ _ _ _ h=>Md h,(fun _ _ _ h=>by cases h),Gg⟩
end
end Go.Am
