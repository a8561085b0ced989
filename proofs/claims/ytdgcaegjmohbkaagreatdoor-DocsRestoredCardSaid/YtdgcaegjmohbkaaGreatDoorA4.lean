import Derived.Test.YtdgcaegjmohbkaaGreatDoorA3
import Derived.Laws.Externs
import Derived.Lib.Bytealg
import Derived.Lib.MakeNoZero
import Derived.Lib.Builder
import Derived.Carry
import Derived.Shelf.Unicode.DecodeSlow
import Derived.Lib.SpaceU
import Derived.Deep.Slices
import Derived.DataReads
import Derived.SizedLaws
/-
  Part 4 of the tool: an abstract machine over the model, proved sound, and what it says of the functions that the law reaches. Condition: none but those that each theorem names.
-/
set_option linter.unusedVariables false
set_option linter.unusedSimpArgs false
section
namespace Go.Am
open Go.RowKit
theorem qS{α β:Type}{f g:α→Option β}(h:∀ x y,f x=some y→g x=some y):∀ {l:List α}{l':List β},eh f l=some l'→eh g l=some l'
 |[],l',e=>e
 |x::l,l',e=>by
  simp only [eh] at e ⊢;split at e
  ·rename_i a' l2 e1 e2
   cases e;rw [h _ _ e1,qS h e2]
  ·cases e
theorem iM{α β:Type}{x y:Option α}{f:α→β}{r:β}(h:∀ a,x=some a→y=some a)(e:x.map f=some r):y.map f=some r:=by
 cases x with
 |none=>cases e
 |some a=>rw [h a rfl];exact e
theorem AX{f g:AV→Option AV}(h:∀ x y,f x=some y→g x=some y)(e:AV×AV)(r:AV×AV)(he:((f e.1).bind fun x=>(f e.2).map fun y=>(x,y))=some r):((g e.1).bind fun x=>(g e.2).map fun y=>(x,y))=some r:=by
 cases h1:f e.1 with
 |none=>rw [h1] at he;cases he
 |some x=>
  cases h2:f e.2 with
  |none=>rw [h1,h2] at he;cases he
  |some y=>rw [h1,h2] at he;rw [h _ _ h1,h _ _ h2];exact he
theorem Mv:∀ (k n:Nat) (H:List AObj) (v v':AV),fzF k n H v=some v'→fzF (k+1) n H v=some v':=by
 intro k;induction k with
 |zero=>intro n H v v' h;cases h
 |succ k ih=>
  intro n H v v' h;have h1:=fun x y=>ih n H x y
  have h2:∀ x y,eh (fzF k n H) x=some y→eh (fzF (k+1) n H) x=some y:=fun x y e=>qS h1 e
  have h3:∀ x y,eh (eh (fzF k n H)) x=some y→eh (eh (fzF (k+1) n H)) x=some y:=fun x y e=>qS h2 e
  rw [fzF.eq_def] at h ⊢;cases v<;>dsimp only at h ⊢
  case rslice id off len esz room=>
   cases hb:Nat.blt id n with
   |true=>rw [hb] at h;exact h
   |false=>
    rw [hb,cond_false] at h;rw [cond_false];split at h
    ·cases hc:Nat.ble _ _ with
     |false=>rw [hc] at h;cases h
     |true=>rw [hc,cond_true] at h;rw [cond_true];exact iM (fun a=>h3 _ a) h
    ·cases h
  case ptr id off=>
   cases hb:Nat.blt id n with
   |true=>rw [hb] at h;exact h
   |false=>
    rw [hb,cond_false] at h;rw [cond_false];split at h
    ·exact iM (fun a=>h2 _ a) h
    ·cases h
  case map id=>
   cases hb:Nat.blt id n with
   |true=>rw [hb] at h;exact h
   |false=>
    rw [hb,cond_false] at h;rw [cond_false];split at h
    ·exact iM (fun a=>qS (AX h1)) h
    ·cases h
  case slice=>exact iM (fun a=>h3 _ a) h
  case vptr=>exact iM (fun a=>h3 _ a) h
  case vmap=>exact iM (fun a=>qS (AX h1)) h
  case agg=>exact iM (fun a=>h2 _ a) h
  case tuple=>exact iM (fun a=>h2 _ a) h
  case iface=>exact iM (fun a=>h1 _ a) h
  case fn f a b=>
   cases e1:eh (fzF k n H) a with
   |none=>rw [e1] at h;cases h
   |some x=>rw [e1] at h;rw [h2 _ _ e1];exact iM (fun a=>h2 _ a) h
  all_goals exact h
theorem Mw{k m n:Nat}{H:List AObj}{v v':AV}(hk:k≤m)(h:fzF k n H v=some v'):fzF m n H v=some v':=by
 induction hk with
 |refl=>exact h
 |step _ ih=>exact Mv _ _ _ _ _ ih
theorem Fz.uniq{n:Nat}{H:List AObj}{v a b:AV}(h1:Fz n H v a)(h2:Fz n H v b):a=b:=by
 obtain ⟨k,h1⟩:=h1;obtain ⟨m,h2⟩:=h2;have e1:=Mw (Nat.le_max_left k m) h1;have e2:=Mw (Nat.le_max_right k m) h2;rw [e1] at e2;cases e2;rfl
theorem KK{H0 H:List AObj}{v v':AV}(h1:Fz H0.length H v v')(h2:Az H0 H v v'):bU.deep H0 H v=some ⟨v',h2⟩:=by
 have h:∃ v',Fz H0.length H v v'∧Az H0 H v v':=⟨v',h1,h2⟩
 have e:Classical.choose h=v':=Fz.uniq (Classical.choose_spec h).1 h1;have d:bU.deep H0 H v=some ⟨Classical.choose h,(Classical.choose_spec h).2⟩:=dif_pos h;rw [d];congr 1;exact Subtype.ext e
theorem iN{α β:Type}{x:Option α}{f:α→β}{r:β}(e:x.map f=some r):∃ a,x=some a∧f a=r:=by
 cases x with
 |none=>cases e
 |some a=>exact ⟨a,rfl,by injection e⟩
theorem rK{f:AV→Option AV}{e r:AV×AV}(he:((f e.1).bind fun x=>(f e.2).map fun y=>(x,y))=some r):f e.1=some r.1∧f e.2=some r.2:=by
 cases h1:f e.1 with
 |none=>rw [h1] at he;cases he
 |some x=>
  cases h2:f e.2 with
  |none=>rw [h1,h2] at he;cases he
  |some y=>rw [h1,h2] at he;cases he;exact ⟨rfl,rfl⟩
theorem R6{H0 H:List AObj}{v v':AV}(hcut:db H0 H)(hz:Fz H0.length H v v'):Az H0 H v v':=by
 classical
 intro K K' w w' x hi hi' hk hv;obtain ⟨fu,hz⟩:=hz;obtain ⟨hc1,hc2⟩:=hi.cut hi' hk hcut;generalize hn:H0.length=n at *
 have hnl:n≤K'.loc.length:=by rw [hi'.len];exact hn ▸ hcut.1
 let NB:Nat→Prop:=fun b => ∃ (id:Nat) (x:AObj),n≤id∧H[id]?=some x∧x.live=true∧K'.loc[id]?=some b
 have hNM:∀ b,NB b→K'.base b:=fun b ⟨id,x,h1,h2,h3,h4⟩=>by
  obtain ⟨b',h5,h6,_⟩:=hi'.live_block h2 h3;rw [h4] at h5;cases h5;exact h6
 have hNO:∀ b,NB b→K'.own b=none:=fun b ⟨id,x,h1,h2,h3,h4⟩=>hi'.live_own h2 h3 h4
 have hNI:∀ {i b:Nat}{x:AObj},i<n→H[i]?=some x→x.live=true→K'.loc[i]?=some b→¬ NB b:=fun {i b x} h1 h2 h3 h4 ⟨id,y,g1,g2,g3,g4⟩=>
  hi'.inj i id x y h2 g2 h3 g3 (by omega) (h4.trans g4.symm)
 let K2:ao := { K'.trunc n with imm:=fun b o=>if NB b then w'.cell? ⟨b,o,none⟩ else K'.imm b o,shape:=fun b=>if NB b then qR w' b else K'.shape b }
 have hle:(K'.trunc n).le K2:=by
  refine ⟨fun b o x hx => ?_,fun _ _ h=>h,fun _ _ h=>h,rfl,rfl,rfl,fun b s hs => ?_,fun b hb => ?_⟩
  ·have hx':K'.imm b o=some x:=hx
   show (if NB b then _ else _)=_;split
   ·exact hi'.imm b o x hx'
   ·exact hx'
  ·have hs':K'.shape b=some s:=hs
   show (if NB b then _ else _)=_;split
   ·exact Gh (hi'.shape b s hs')
   ·exact hs'
  ·have hnb:¬ NB b:=fun e=>hb (hNM b e)
   exact ⟨fun o=>if_neg hnb,if_neg hnb⟩
 refine ⟨K2,hc2.trans hle, ?_, ?_⟩
 ·
  have main:∀ (k:Nat) {a a':AV}{x:Value},V K' a x→fzF k n H a=some a'→V K2 a' x:=by
   intro k;induction k with
   |zero=>intro a a' x _ he;cases he
   |succ k ih=>
   intro a a' x hx he;have one:∀ {l l':List AV},eh (fzF k n H) l=some l'→l'.length=l.length∧(∀ (j:Nat) (av:AV),l'[j]?=some av→∃ a0,l[j]?=some a0∧fzF k n H a0=some av):=fun h=>gm h
   have two:∀ {rows rows':List (List AV)},eh (eh (fzF k n H)) rows=some rows'→rows'.length=rows.length∧(∀ (i:Nat) (r:List AV),rows'[i]?=some r→∃ r0,rows[i]?=some r0∧r.length=r0.length∧∀ (j:Nat) (av:AV),r[j]?=some av→∃ a0,r0[j]?=some a0∧fzF k n H a0=some av):=fun h=>by
    obtain ⟨g1,g2⟩:=gm h;refine ⟨g1,fun i r hr => ?_⟩;obtain ⟨r0,e1,e2⟩:=g2 i r hr;obtain ⟨e3,e4⟩:=gm e2;exact ⟨r0,e1,e3,e4⟩
   rw [fzF.eq_def] at he;cases hx with
   |rslice id off len esz room b cap hb hcap hro=>
    dsimp only at he;cases hlt:Nat.blt id n with
    |true=>
     rw [hlt] at he;cases he;rw [Nat.blt_eq] at hlt;refine .rslice id off len esz room b cap (fB hb hlt) hcap fun hr => ?_
     obtain ⟨m,h1,h2⟩:=hro hr;exact ⟨m,hle.shape _ _ h1,h2⟩
    |false=>
     rw [hlt,cond_false] at he
     have hge:n≤id:=by
      refine Nat.le_of_not_lt fun e => ?_
      rw [← Nat.blt_eq,hlt] at e;cases e
     split at he
     ·rename_i cs T0 hc
      cases hcnd:Nat.ble (off+len*esz) cs.length with
      |false=>rw [hcnd] at he;cases he
      |true=>
       rw [hcnd,cond_true] at he;have hsz:=Nat.le_of_ble_eq_true hcnd;obtain ⟨rows',hrows,rfl⟩:=iN he;obtain ⟨t1,t2⟩:=two hrows;rw [km] at t1;obtain ⟨b2,vs,T2,h1,h2,h3,h4,h5,h6,h7,h8,h9⟩:=hi'.obj _ _ hc;rw [hb] at h1;cases h1;have hnb:NB b:=⟨id,_,hge,hc,rfl,hb⟩
       have row:∀ (i j:Nat) (r:List AV) (av:AV),(gG esz len (cs.drop off))[i]?=some r→r[j]?=some av→i<len∧j<esz∧cs[off+i*esz+j]?=some av:=fun i j r av hr hj=>by
        obtain ⟨g1,rfl⟩:=kA esz len (cs.drop off) i r hr;rw [List.getElem?_take] at hj;split at hj
        ·rename_i hlt
         rw [List.getElem?_drop,List.getElem?_drop] at hj;exact ⟨g1,hlt,by rw [← hj];congr 1;omega⟩
        ·cases hj
       have:=V.slice (K:=K2) .any esz rows' b off cap (fun i j=>vs.getD (off+i*esz+j) undef) (fun r hr => ?_) (fun i j r av hr hj => ?_) (fun i j r av hr hj => ?_) (by rw [t1];exact hcap) trivial
       ·rwa [t1] at this
       ·obtain ⟨i,hi1⟩:=List.mem_iff_getElem?.1 hr
        obtain ⟨r0,e1,e2,_⟩:=t2 i r hi1;obtain ⟨g1,rfl⟩:=kA esz len (cs.drop off) i r0 e1
        have:i*esz+esz≤len*esz:=by rw [← Nat.succ_mul];exact Nat.mul_le_mul_right _ g1
        rw [e2];simp;omega
       ·obtain ⟨r0,e1,_,e3⟩:=t2 i r hr
        obtain ⟨a0,e4,e5⟩:=e3 j av hj;obtain ⟨g1,g2,g3⟩:=row i j r0 a0 e1 e4;have hlt:off+i*esz+j<vs.size:=Nat.lt_of_lt_of_le (List.getElem?_eq_some_iff.1 g3).1 h4;show (if NB b then _ else _)=_;rw [if_pos hnb,cg h3,Array.getElem?_eq_getElem hlt];simp [Array.getD,hlt]
       ·obtain ⟨r0,e1,_,e3⟩:=t2 i r hr
        obtain ⟨a0,e4,e5⟩:=e3 j av hj;obtain ⟨g1,g2,g3⟩:=row i j r0 a0 e1 e4;exact ih (h5 _ _ g3) e5
     ·cases he
   |ptr id off b hb=>
    dsimp only at he;cases hlt:Nat.blt id n with
    |true=>
     rw [hlt] at he;cases he;rw [Nat.blt_eq] at hlt;exact .ptr id off b (fB hb hlt)
    |false=>
     rw [hlt,cond_false] at he
     have hge:n≤id:=by
      refine Nat.le_of_not_lt fun e => ?_
      rw [← Nat.blt_eq,hlt] at e;cases e
     split at he
     ·rename_i cs T0 hc
      obtain ⟨cs',hcs,rfl⟩:=iN he;obtain ⟨t1,t2⟩:=one hcs;obtain ⟨b2,vs,T2,h1,h2,h3,h4,h5,h6,h7,h8,h9⟩:=hi'.obj _ _ hc;rw [hb] at h1;cases h1;have hnb:NB b:=⟨id,_,hge,hc,rfl,hb⟩
      have:=V.vptr (K:=K2) cs.length [cs'] 0 off b 0 (fun i j=>vs.getD j undef) (fun r hr => ?_) (fun i j r av hr hj => ?_) (fun i j r av hr hj => ?_)
      ·simpa using this
      ·rw [List.mem_singleton] at hr;rw [hr,t1]
      ·have:i=0:=by
        have:=(List.getElem?_eq_some_iff.1 hr).1;simp at this;exact this
       subst this;simp at hr;subst hr;obtain ⟨a0,e4,e5⟩:=t2 j av hj;have hlt:j<vs.size:=Nat.lt_of_lt_of_le (List.getElem?_eq_some_iff.1 e4).1 h4;show (if NB b then _ else _)=_;rw [if_pos hnb,cg h3,Nat.zero_mul,Nat.zero_add,Array.getElem?_eq_getElem hlt];simp [Array.getD,hlt]
      ·have:i=0:=by
        have:=(List.getElem?_eq_some_iff.1 hr).1;simp at this;exact this
       subst this;simp at hr;subst hr;obtain ⟨a0,e4,e5⟩:=t2 j av hj;exact ih (h5 _ _ e4) e5
     ·cases he
   |map id b hb=>
    dsimp only at he;cases hlt:Nat.blt id n with
    |true=>
     rw [hlt] at he;cases he;rw [Nat.blt_eq] at hlt;exact .map id b (fB hb hlt)
    |false=>
     rw [hlt,cond_false] at he
     have hge:n≤id:=by
      refine Nat.le_of_not_lt fun e => ?_
      rw [← Nat.blt_eq,hlt] at e;cases e
     split at he
     ·rename_i es hc
      obtain ⟨es',hes,rfl⟩:=iN he;obtain ⟨t1,t2⟩:=gm hes;obtain ⟨b2,mes,clock,h1,h2,h3,h4,h5,h6⟩:=hi'.obj _ _ hc;rw [hb] at h1;cases h1;have hnb:NB b:=⟨id,_,hge,hc,rfl,hb⟩
      refine .vmap es' b mes ((if_pos hnb).trans (by simp [qR,h3])) (t1.trans h4) (fun i k v he => ?_) (fun i k v he => ?_)
      ·obtain ⟨e0,g0,g0'⟩:=t2 i _ he
       obtain ⟨f1,f2⟩:=rK g0';obtain ⟨e,g1,g2,g3⟩:=h5 i e0.1 e0.2 g0;rw [show mes.getD i ⟨undef,undef,0⟩=e by simp [Array.getD_eq_getD_getElem?,g1]];exact ih g2 f1
      ·obtain ⟨e0,g0,g0'⟩:=t2 i _ he
       obtain ⟨f1,f2⟩:=rK g0';obtain ⟨e,g1,g2,g3⟩:=h5 i e0.1 e0.2 g0;rw [show mes.getD i ⟨undef,undef,0⟩=e by simp [Array.getD_eq_getD_getElem?,g1]];exact ih g3 f2
     ·cases he
   |vmap es b mes hb hl hk1 hv1=>
    dsimp only at he;obtain ⟨es',hes,rfl⟩:=iN he;obtain ⟨t1,t2⟩:=gm hes;refine .vmap es' b mes (hle.shape _ _ hb) (t1.trans hl) (fun i k v he => ?_) (fun i k v he => ?_)
    ·obtain ⟨e0,g0,g0'⟩:=t2 i _ he
     obtain ⟨f1,f2⟩:=rK g0';exact ih (hk1 i e0.1 e0.2 g0) f1
    ·obtain ⟨e0,g0,g0'⟩:=t2 i _ he
     obtain ⟨f1,f2⟩:=rK g0';exact ih (hv1 i e0.1 e0.2 g0) f2
   |slice0 tag esz a h=>
    cases he;cases tag with
    |nil=>rw [h.2.1 rfl];exact .slice0 .nil esz none ⟨fun _ e=>(by cases e),fun _=>rfl,fun e=>(by cases e)⟩
    |some=>exact absurd rfl h.2.2
    |any=>exact .slice0 .any esz a ⟨fun _ e=>(by cases e),fun e=>(by cases e),fun e=>(by cases e)⟩
    |full=>exact .slice0 .any esz a ⟨fun _ e=>(by cases e),fun e=>(by cases e),fun e=>(by cases e)⟩
    |own t=>exact .slice0 .any esz a ⟨fun _ e=>(by cases e),fun e=>(by cases e),fun e=>(by cases e)⟩
   |sliceAny tag esz a cap h=>
    cases he;rcases h with rfl | ⟨rfl,h⟩
    ·exact .sliceAny .any esz a cap (.inl rfl)
    ·exact .sliceAny .some esz a cap (.inr ⟨rfl,h⟩)
   |slice tag esz rows b o cap vs hl him hvv hc ht=>
    dsimp only at he;obtain ⟨rows',hrows,rfl⟩:=iN he;obtain ⟨t1,t2⟩:=two hrows;have htag:u9 K2 tag.fzd b o esz rows' cap:=by cases tag<;>first | trivial | exact (ht:False).elim
    have:=V.slice (K:=K2) tag.fzd esz rows' b o cap vs (fun r hr => ?_) (fun i j r av hr hj => ?_) (fun i j r av hr hj => ?_) (by rw [t1];exact hc) htag
    ·rwa [t1] at this
    ·obtain ⟨i,hi1⟩:=List.mem_iff_getElem?.1 hr
     obtain ⟨r0,e1,e2,_⟩:=t2 i r hi1;rw [e2];exact hl r0 (List.mem_of_getElem? e1)
    ·obtain ⟨r0,e1,_,e3⟩:=t2 i r hr
     obtain ⟨a0,e4,e5⟩:=e3 j av hj;exact hle.imm _ _ _ (him i j r0 a0 e1 e4)
    ·obtain ⟨r0,e1,_,e3⟩:=t2 i r hr
     obtain ⟨a0,e4,e5⟩:=e3 j av hj;exact ih (hvv i j r0 a0 e1 e4) e5
   |vptr esz rows i off b o vs hl him hvv=>
    dsimp only at he;obtain ⟨rows',hrows,rfl⟩:=iN he;obtain ⟨t1,t2⟩:=two hrows;refine V.vptr (K:=K2) esz rows' i off b o vs (fun r hr => ?_) (fun i j r av hr hj => ?_) (fun i j r av hr hj => ?_)
    ·obtain ⟨i,hi1⟩:=List.mem_iff_getElem?.1 hr
     obtain ⟨r0,e1,e2,_⟩:=t2 i r hi1;rw [e2];exact hl r0 (List.mem_of_getElem? e1)
    ·obtain ⟨r0,e1,_,e3⟩:=t2 i r hr
     obtain ⟨a0,e4,e5⟩:=e3 j av hj;exact hle.imm _ _ _ (him i j r0 a0 e1 e4)
    ·obtain ⟨r0,e1,_,e3⟩:=t2 i r hr
     obtain ⟨a0,e4,e5⟩:=e3 j av hj;exact ih (hvv i j r0 a0 e1 e4) e5
   |unk=>cases he;exact .unk _
   |bool b=>cases he;exact .bool b
   |int k n=>cases he;exact .int k n
   |str s=>cases he;exact .str s
   |nilp=>cases he;exact .nilp
   |nilmap=>cases he;exact .nilmap
   |sdp0 t p=>cases he
   |sdp t rows b cap vs htl ho hl hi hv hc=>cases he
   |fn f first captured vs us h1 h2 hv hu=>
    dsimp only at he;cases e1:eh (fzF k n H) first with
    |none=>rw [e1] at he;cases he
    |some a'=>
     rw [e1] at he;obtain ⟨b',e2,rfl⟩:=iN he;obtain ⟨t1,t2⟩:=gm e1;obtain ⟨t3,t4⟩:=gm e2;refine .fn f a' b' vs us (t1.trans h1) (t3.trans h2) (fun i av h => ?_) (fun i av h => ?_)
     ·obtain ⟨a0,e4,e5⟩:=t2 i av h
      exact ih (hv i a0 e4) e5
     ·obtain ⟨a0,e4,e5⟩:=t4 i av h
      exact ih (hu i a0 e4) e5
   |nilfn=>cases he;exact .nilfn
   |iface t v x hx=>
    dsimp only at he;obtain ⟨y,e1,rfl⟩:=iN he;exact .iface t y x (ih hx e1)
   |nilif=>cases he;exact .nilif
   |agg cs vs h1 hv=>
    dsimp only at he;obtain ⟨cs',e1,rfl⟩:=iN he;obtain ⟨g1,g2⟩:=gm e1
    exact .agg _ _ (g1.trans h1) fun i av h=>by
     obtain ⟨a0,e1,e2⟩:=g2 i av h;exact ih (hv i a0 e1) e2
   |tuple cs vs h1 hv=>
    dsimp only at he;obtain ⟨cs',e1,rfl⟩:=iN he;obtain ⟨g1,g2⟩:=gm e1
    exact .tuple _ _ (g1.trans h1) fun i av h=>by
     obtain ⟨a0,e1,e2⟩:=g2 i av h;exact ih (hv i a0 e1) e2
  exact main fu hv hz
 ·
  have hloc:∀ {i b:Nat},i<n→(K'.trunc n).loc[i]?=some b→K'.loc[i]?=some b:=fun {i b} hlt hb=>by
   have h':(K'.loc.take n)[i]?=some b:=hb;rwa [List.getElem?_take_of_lt hlt] at h'
  refine ⟨hc1.below,hc1.base,fun b o v h => ?_,hc1.len,fun i y hy => ?_,hc1.inj,fun b t m h => ?_,fun g cs hg=>(hc1.glob g cs hg).mono hle,fun b s h => ?_⟩
  ·have h':(if NB b then w'.cell? ⟨b,o,none⟩ else K'.imm b o)=some v:=h
   split at h'
   ·exact h'
   ·exact hi'.imm b o v h'
  ·have hlt:i<n:=by
    have:=(List.getElem?_eq_some_iff.1 hy).1;simp at this;omega
   have hy':H[i]?=some y:=by rwa [List.getElem?_take_of_lt hlt] at hy
   by_cases ly:y.live=true
   ·refine (hc1.obj i y hy).mono hle (fun _ _ _ _=>rfl) (fun b hb _ => ?_)
    have hnb:=hNI hlt hy' ly (hloc hlt hb);exact ⟨fun o h=>(if_neg hnb).trans h,fun h=>h,fun h=>(if_neg hnb).trans h⟩
   ·cases y<;>first | exact absurd rfl ly | trivial
  ·obtain ⟨g1,fr,us,T',lo,hh,g2,g3,g4,g5,g6⟩:=hc1.own b t m h
   obtain ⟨g7,_⟩:=ao.trunc_own h;have hnb:¬ NB b:=fun e=>by rw [hNO b e] at g7;cases g7
   exact ⟨g1,fr,us,T',lo,hh,g2,g3,g4,g5,fun o v hv=>g6 o v (by
    have h':(if NB b then w'.cell? ⟨b,o,none⟩ else K'.imm b o)=some v:=hv;rwa [if_neg hnb] at h')⟩
  ·have hs':(if NB b then qR w' b else K'.shape b)=some s:=h
   split at hs'
   ·exact AW hs'
   ·exact hi'.shape b s hs'
theorem AY{α β γ:Type}{f:β→Option γ}{g:α→β}{h:α→γ}:∀ {l:List α},(∀ x∈l,f (g x)=some (h x))→eh f (l.map g)=some (l.map h)
 |[],_=>rfl
 |x::l,hx=>by
  simp only [List.map_cons,eh,hx x (List.mem_cons_self),AY (l:=l) fun y hy=>hx y (List.mem_cons_of_mem _ hy)]
theorem AZ{α β:Type}{f:α→Option β}:∀ {l:List α}{l':List β},l.length=l'.length→(∀ (i:Nat) (x:α) (y:β),l[i]?=some x→l'[i]?=some y→f x=some y)→eh f l=some l'
 |[],[],_,_=>rfl
 |x::l,y::l',hl,h=>by
  simp only [eh,h 0 x y rfl rfl,AZ (l:=l) (l':=l') (by simpa using hl) fun i a b ha hb=>h (i+1) a b (by simpa using ha) (by simpa using hb)]
theorem dE{α β:Type}(f:α→Option β):eh f []=some []:=rfl
theorem b9{α β:Type}{f:α→Option β}{x:α}{y:β}{l:List α}{l':List β}(h1:f x=some y)(h2:eh f l=some l'):eh f (x::l)=some (y::l'):=by
 simp only [eh,h1,h2]
theorem pX{k n:Nat}{H:List AObj}{t:Tag}{sz:Nat}{r r':List (List AV)}(h:eh (eh (fzF k n H)) r=some r'):fzF (k+1) n H (.slice t sz r)=some (.slice t.fzd sz r'):=by
 rw [fzF.eq_def];simp only [h,Option.map_some]
theorem oU{k n:Nat}{H:List AObj}{r r':List AV}(h:eh (fzF k n H) r=some r'):fzF (k+1) n H (.tuple r)=some (.tuple r'):=by
 rw [fzF.eq_def];simp only [h,Option.map_some]
theorem Mx{k n:Nat}{H:List AObj}{r r':List AV}(h:eh (fzF k n H) r=some r'):fzF (k+1) n H (.agg r)=some (.agg r'):=by
 rw [fzF.eq_def];simp only [h,Option.map_some]
theorem R7{k n:Nat}{H:List AObj}{f:Fn}{a b a' b':List AV}(h:eh (fzF k n H) a=some a')(h2:eh (fzF k n H) b=some b'):fzF (k+1) n H (.fn f a b)=some (.fn f a' b'):=by
 rw [fzF.eq_def];simp only [h,h2,Option.bind_some,Option.map_some]
theorem Q3{k n id off:Nat}{H:List AObj}{cs cs':List AV}{T:TypeId}(hid:n≤id)(hx:H[id]?=some (.cells cs T))(h:eh (fzF k n H) cs=some cs'):fzF (k+1) n H (.ptr id off)=some (.vptr cs.length [cs'] 0 off):=by
 have:Nat.blt id n=false:=by
  cases e:Nat.blt id n with
  |false=>rfl
  |true=>rw [Nat.blt_eq] at e;omega
 rw [fzF.eq_def];simp only [this,cond_false,hx,h,Option.map_some]
theorem Dt{k n id off len esz:Nat}{room:Bool}{H:List AObj}{cs:List AV}{rows:List (List AV)}{T:TypeId}(hid:n≤id)(hx:H[id]?=some (.cells cs T))(hs:off+len*esz≤cs.length)(h:eh (eh (fzF k n H)) (gG esz len (cs.drop off))=some rows):fzF (k+1) n H (.rslice id off len esz room)=some (.slice .any esz rows):=by
 have:Nat.blt id n=false:=by
  cases e:Nat.blt id n with
  |false=>rfl
  |true=>rw [Nat.blt_eq] at e;omega
 have h2:Nat.ble (off+len*esz) cs.length=true:=by rw [Nat.ble_eq];exact hs
 rw [fzF.eq_def];simp only [this,cond_false,hx,h2,cond_true,h,Option.map_some]
theorem zN(k n:Nat)(H:List AObj)(b:Bool):fzF (k+1) n H (.bool b)=some (.bool b):=rfl
theorem vw(k n:Nat)(H:List AObj)(t:IntKind)(b:Int):fzF (k+1) n H (.int t b)=some (.int t b):=rfl
theorem Q4(k n:Nat)(H:List AObj)(b:List UInt8):fzF (k+1) n H (.str b)=some (.str b):=rfl
theorem kB{H0 H:List AObj}{v v':AV}(h1:db H0 H)(h2:Fz H0.length H v v'):mb bU .deep H0 H v=some (v',H.take H0.length):=by
 unfold mb;simp only [KK h2 (R6 h1 h2)]
end Go.Am
end
section
namespace Go.Am
open Go.RowKit
theorem Gi:∀ (P:List AObj) {X Y:List AObj},vt X Y=true→vt (P++X) (P++Y)=true
 |[],_,_,h=>h
 |x::P,_,_,h=>by
  show ((!AA x||AA x)&&vt (P++_) (P++_))=true;rw [Gi P h];cases AA x<;>rfl
theorem My{f:Rec}{rf:AFn}{ps:List Nat}{y:List (List RO)}{z:AC}{a:Env}{L:List Nat}{H0 H H':List AObj}{x:List AV}{xs:List (List AV)}{q:Option AC×List AObj}(h:f rf H (y.map (fun l=>.c (.ops l))++[.c z,.dr .nilp]) (vk a ps x) H=some (.ret .nilp,H'))
  (hn:vt H0 H'=true) (hi:∀ id∈L,id<H0.length→H'[id]?=H0[id]?) (hr:iq bU f rf ps y z a L H0 xs H'=some q):iq bU f rf ps y z a L H0 (x::xs) H=some q:=by
 rw [iq];simp only [h,hn,Mg hi,hr]
end Go.Am
end
section
namespace Go.Am
open Go.RowKit
structure yL (P:Program) (f:FuncId) (e:Array Value→Sem Value):Prop where
 run:∀ (args:Array Value) (w:World),(callFunc f args).run P w=((e args).run P w).andThen fun v w'=>.ok (.value v) w'
theorem yL.of {P:Program}{f:FuncId}{fn:Func}{e:Array Value→Sem Value} (hf:P.funcs[f]?=some fn) (hname:(fn.name == "runtime.NumGoroutine")=false)
  (hb:fn.body.isNone=true) (hn:Extern.findNext fn=none) (he:Extern.find fn=some e):yL P f e:=⟨fun args w=>run_callFunc_extern hf hname hb hn he args w⟩
section
variable{P:Program}{G:Nat→Option (List AV)}{f:FuncId}{e:Array Value→Sem Value}
theorem yL.calls(h:yL P f e){args:List AV}{H:List AObj}{R:oK→List AObj→Prop}
  (hr:∀ (K:ao) (w:World) (cargs:Array Value),Inv K H w→Vs K args cargs→∃ cv w',(e cargs).run P w = .ok cv w'∧vZ K R (.returned cv) w'):de P G f args H R:=fun K w cargs _ hi hv=>by
 obtain ⟨cv,w',h1,h2⟩:=hr K w cargs hi hv;exact .inr ⟨cv,w',by rw [h.run,h1];rfl,h2⟩
theorem KL(h:yL P f Extern.BytealgIndexByte.indexByte)(s:List UInt8)(c:Int)(H:List AObj) :
  de P G f [.str s,.int .u8 c] H fun r H'=>r = .ret (.int .i64 (Lib.indexByte s c.toNat.toUInt8))∧H'=H:=h.calls fun K w cargs hi hv=>by
 obtain ⟨x,y,rfl,hx,hy⟩:=tm hv;cases hx;cases hy;exact ⟨_,_,Lib.run_indexByteString _ _ _,K,.ret (.int .i64 (Lib.indexByte s c.toNat.toUInt8)),H,.refl K,V.int _ _,hi,rfl,rfl⟩
theorem Mz(h:yL P f Extern.AbiNoEscape.same)(v:AV)(H:List AObj):de P G f [v] H fun r H'=>r = .ret v∧H'=H:=h.calls fun K w cargs hi hv=>by
 obtain ⟨x,rfl,hx⟩:=wu hv;exact ⟨_,_,Lib.run_noEscape _ x,K,.ret v,H,.refl K,hx,hi,rfl,rfl⟩
end
def woK(E0:bb)(n:Nat)(f:FuncId)(args:List AV)(H:List AObj):Option (AV×List Nat):=
 bif wkbL 0 args then (match tz Ox E0 n f args [] with
  |some (.ret v0,H1)=>match fzV 0 H1 v0 with
   |some v=>some (v,[])
   |none=>none
  |_=>none)
 else bif wkbL H.length args&&H.all (Mu H.length) then (match tz Ox E0 n f args H with
  |some (.ret v0,H1)=>bif rI H H1 then (match fzV H.length H1 v0 with
   |some v=>some (v,List.range H.length)
   |none=>none) else none
  |_=>none)
 else none
theorem A1{n:Nat}{l:List AV}(h:wkbL n l=true):∀ a∈l,wkb n a=true:=fun a ha=>by
 obtain ⟨i,hi⟩:=List.mem_iff_getElem?.1 ha;exact js h hi
theorem KM{α:Type}{H H2:List α}(h:∀ i,i<H.length→H2[i]?=H[i]?):H.length≤H2.length:=by
 refine Nat.le_of_not_lt fun e => ?_
 have h1:=h H2.length e;rw [List.getElem?_eq_none (Nat.le_refl _),List.getElem?_eq_getElem e] at h1;cases h1
theorem MA{E0:bb}(h0:E0.Ok)(hG:∀ n g cs,E0.G g=some cs→wkbL n cs=true){n:Nat}{f:FuncId}{args:List AV}{H:List AObj}{v:AV}{L:List Nat}(h:woK E0 n f args H=some (v,L)) :
  ∀ H2:List AObj,(∀ id∈L,id<H.length→H2[id]?=H[id]?)→de E0.P E0.G f args H2 fun r H'=>r = .ret v∧H'=H2:=by
 intro H2 hag;unfold woK at h;cases hw:wkbL 0 args with
 |true=>
  rw [hw,cond_true] at h;split at h
  ·rename_i v0 H1 hc
   split at h
   ·rename_i v' hf
    cases h;exact de.frame (He:=[]) ((qO h0 n).2 _ _ _ _ _ hc |>.mono fun r H' e=>e) (by simp) hG (A1 hw) (fun x hx=>by simp at hx) hf H2 (by simp) (fun i x hx=>by simp at hx) (fun t fr T ht=>by simp at ht)
   ·cases h
  ·cases h
 |false=>
  rw [hw,cond_false] at h;cases hw2:wkbL H.length args&&H.all (Mu H.length) with
  |false=>rw [hw2] at h;cases h
  |true=>
   rw [hw2,cond_true] at h;simp only [Bool.and_eq_true] at hw2;split at h
   ·rename_i v0 H1 hc
    cases hb:rI H H1 with
    |false=>rw [hb] at h;cases h
    |true=>
     rw [hb,cond_true] at h;split at h
     ·rename_i v' hf
      cases h;exact de.frame ((qO h0 n).2 _ _ _ _ _ hc |>.mono fun r H' e=>e) (qP hb) hG (A1 hw2.1) (fun x hx=>List.all_eq_true.1 hw2.2 x hx) hf H2 (KM fun i hi=>hag i (by simpa using hi) hi) (fun i x hx=>.inr ((hag i (by simpa using (List.getElem?_eq_some_iff.1 hx).1) (List.getElem?_eq_some_iff.1 hx).1).trans hx)) (fun t fr T hlt ht=>(hag t (by simpa using hlt) hlt).symm.trans ht)
     ·cases h
   ·cases h
def A2:List AObj→List AObj→Bool
 |[],_=>true
 |.dead::_,.tok _ _::_=>false
 |.dead::l,_::m=>A2 l m
 |x::l,y::m=>AObj.eqb x y&&A2 l m
 |_,_=>false
theorem Ji:∀ {H H2:List AObj},A2 H H2=true→H.length≤H2.length∧(∀ (i:Nat) (x:AObj),H[i]?=some x→x = .dead∨H2[i]?=some x) ∧
  (∀ (t fr:Nat) (T:TypeId),t<H.length→H2[t]?=some (.tok fr T)→H[t]?=some (.tok fr T))
 |[],_,_=>⟨by simp,fun i x h=>by simp at h,fun t fr T h=>by simp at h⟩
 |x::l,[],h=>by cases x<;>simp [A2] at h
 |x::l,y::m,h=>by
  have key:(x = .dead∧∀ fr T,y≠.tok fr T)∨x=y:=by
   cases x<;>cases y<;>simp only [A2,Bool.and_eq_true] at h<;>first | (cases h;done) | exact .inr (AObj.eqb_eq h.1) | exact .inl ⟨rfl,fun _ _ e=>by cases e⟩
  have hr:A2 l m=true:=by
   cases x<;>cases y<;>simp only [A2,Bool.and_eq_true] at h<;>first | (cases h;done) | exact h.2 | exact h
  obtain ⟨h1,h2,h3⟩:=Ji hr;refine ⟨by simpa using h1,fun i z hz => ?_,fun t fr T ht hz => ?_⟩
  ·cases i with
   |zero=>simp at hz;subst hz;rcases key with ⟨h,_⟩ | h
          ·exact .inl h
          ·exact .inr (by simp [h])
   |succ i=>simp at hz;simpa using h2 i z hz
  ·cases t with
   |zero=>simp at hz;subst hz;rcases key with ⟨_,h⟩ | h
          ·exact absurd rfl (h fr T)
          ·simp [h]
   |succ t=>simp at hz ht;simpa using h3 t fr T ht hz
def Jj(E0:bb)(n:Nat)(f:FuncId)(args:List AV)(H:List AObj):Option AV:=
 bif wkbL H.length args&&H.all (Mu H.length) then (match tz Ox E0 n f args H with
  |some (.ret v0,H1)=>bif rI H H1 then fzV H.length H1 v0 else none
  |_=>none)
 else none
theorem Gj{E0:bb}(h0:E0.Ok)(hG:∀ n g cs,E0.G g=some cs→wkbL n cs=true){n:Nat}{f:FuncId}{args:List AV}{He:List AObj}{v:AV}
  (h:Jj E0 n f args He=some v) {H2:List AObj} (hb:A2 He H2=true):de E0.P E0.G f args H2 fun r H'=>r = .ret v∧H'=H2:=by
 unfold Jj at h;cases hw2:wkbL He.length args&&He.all (Mu He.length) with
 |false=>rw [hw2] at h;cases h
 |true=>
  rw [hw2,cond_true] at h;simp only [Bool.and_eq_true] at hw2;split at h
  ·rename_i v0 H1 hc
   cases hb2:rI He H1 with
   |false=>rw [hb2] at h;cases h
   |true=>
    rw [hb2,cond_true] at h;obtain ⟨h1,h2,h3⟩:=Ji hb;exact de.frame ((qO h0 n).2 _ _ _ _ _ hc |>.mono fun r H' e=>e) (qP hb2) hG (A1 hw2.1) (fun x hx=>List.all_eq_true.1 hw2.2 x hx) h H2 h1 h2 h3
  ·cases h
end Go.Am
end
section
namespace Go.Am
def eb(P:Program)(G:Nat→Option (List AV))(f:FuncId)(af:AFn):Prop:=LV P G af.muts f=some (af.c.strip,af.n,af.res,af.dfr.map fun x=>(x.1,x.2.1,x.2.2.strip))
def AFn.k(a:AFn):AFn:=⟨a.c.strip,a.n,a.res,.keep,a.muts,none⟩
def OI(P:Program)(G:Nat→Option (List AV))(f:FuncId)(x:Nat×AFn):Prop:=F1 P G f=some (x.1,x.2.c.strip,x.2.n,x.2.res)∧x.2.dfr=none
def OJ{α:Type}:List (Nat×α)→Nat→Option α
 |[],_=>none
 |p::l,f=>bif Nat.beq f p.1 then some p.2 else OJ l f
def Gk{α:Type}:List (Nat×List (Nat×α))→Nat→Option α
 |[],_=>none
 |p::l,f=>bif Nat.ble f p.1 then OJ p.2 f else Gk l f
def m9{α:Type}(C:Nat→α→Prop):List (Nat×α)→Prop
 |[]=>True
 |p::l=>C p.1 p.2∧m9 C l
def EC{α:Type}(C:Nat→α→Prop):List (Nat×List (Nat×α))→Prop
 |[]=>True
 |p::l=>m9 C p.2∧EC C l
theorem Jk{α:Type}{C:Nat→α→Prop}{f:Nat}{a:α}:∀ {l:List (Nat×α)},m9 C l→OJ l f=some a→C f a
 |[],_,h=>by cases h
 |p::l,h,e=>by
  unfold OJ at e;cases hb:Nat.beq f p.1 with
  |true=>rw [hb] at e;cases e;rw [Nat.eq_of_beq_eq_true hb];exact h.1
  |false=>rw [hb] at e;exact Jk h.2 e
theorem A3{α:Type}{C:Nat→α→Prop}{f:Nat}{a:α}:∀ {l:List (Nat×List (Nat×α))},EC C l→Gk l f=some a→C f a
 |[],_,h=>by cases h
 |p::l,h,e=>by
  unfold Gk at e;cases hb:Nat.ble f p.1 with
  |true=>rw [hb] at e;exact Jk h.1 e
  |false=>rw [hb] at e;exact A3 h.2 e
end Go.Am
end
section
namespace Go.Am
structure RPc where
 f:FuncId
 args:List AV
 heap:List AObj
 v:AV
def dd(n:Nat)(l:List AObj):List AObj:=List.replicate n .dead++l
def Jl(f:FuncId)(args:List AV)(H:List AObj):List RPc→Option AV
 |[]=>none
 |p::ps=>bif Nat.beq f p.f&&AV.eqbL args p.args&&A2 p.heap H then some p.v else Jl f args H ps
def pin(f:FuncId):List RPc→Bool
 |[]=>false
 |p::ps=>bif Nat.beq f p.f then true else pin f ps
def RPc.Ok(P:Program)(G:Nat→Option (List AV))(p:RPc):Prop:=∀ H2,A2 p.heap H2=true→de P G p.f p.args H2 fun r H'=>r = .ret p.v∧H'=H2
def R8(E0:bb):bb := { E0 with wo:=woK E0 100000 }
def Q5(E0:bb)(ps:List RPc)(f:FuncId)(args:List AV)(H:List AObj):Option Out:=
 match Jl f args H ps with
 |some v=>some (.ret v,H)
 |none=>bif pin f ps then tz Ox (R8 E0) 100000 f args H else E0.orc f args H
def EPo(E0:bb)(ps:List RPc):bb := { E0 with fn:=fun f=>bif pin f ps then none else E0.fn f,orc:=Q5 E0 ps }
def EP(E0:bb)(ps:List RPc):bb := { EPo E0 ps with wo:=woK (EPo E0 ps) 100000 }
theorem Gl{P:Program}{G:Nat→Option (List AV)}{f:FuncId}{args:List AV}{H:List AObj}{v:AV}:∀ {ps:List RPc},(∀ p∈ps,p.Ok P G)→Jl f args H ps=some v→de P G f args H fun r H'=>r = .ret v∧H'=H
 |[],_,h=>by cases h
 |p::ps,hp,h=>by
  unfold Jl at h;cases hb:(Nat.beq f p.f&&AV.eqbL args p.args&&A2 p.heap H) with
  |true=>
   rw [hb] at h;cases h;simp only [Bool.and_eq_true] at hb;rw [Nat.eq_of_beq_eq_true hb.1.1,AV.eqbL_eq hb.1.2];exact hp p (by simp) H hb.2
  |false=>rw [hb] at h;exact Gl (fun q hq=>hp q (by simp [hq])) h
section
variable{E0:bb}(h0:E0.Ok)(hG:∀ n g cs,E0.G g=some cs→wkbL n cs=true)
include h0 hG in
theorem OK:(R8 E0).Ok:=⟨h0.mixed,h0.fn,h0.dfn,fun _ _ _ _ _ h=>MA h0 hG h,h0.orc,h0.meth,h0.seq⟩
include h0 hG in
theorem Q6{ps:List RPc}(hp:∀ p∈ps,p.Ok E0.P E0.G)(hw:∀ f args H,E0.wo f args H=none):(EPo E0 ps).Ok:=⟨h0.mixed,fun f af h=>by
  have h':(bif pin f ps then none else E0.fn f)=some af:=h;cases hb:pin f ps with
  |true=>rw [hb] at h';cases h'
  |false=>rw [hb] at h';exact h0.fn f af h',h0.dfn,(fun f args H v L h=>by
  have h':E0.wo f args H=some (v,L):=h;rw [hw] at h';cases h'),fun f args H r H' h=>by
  have h':Q5 E0 ps f args H=some (r,H'):=h;unfold Q5 at h';split at h'
  ·rename_i v hv
   cases h';exact Gl hp hv
  ·cases hb:pin f ps with
   |true=>
    rw [hb] at h';exact ((qO (OK h0 hG) 100000).2 _ _ _ _ _ h').mono fun r H' e=>e
   |false=>rw [hb] at h';exact h0.orc _ _ _ _ _ h',h0.meth,h0.seq⟩
include h0 hG in
theorem Qr{ps:List RPc}(hp:∀ p∈ps,p.Ok E0.P E0.G)(hw:∀ f args H,E0.wo f args H=none):(EP E0 ps).Ok:=
 have h:=Q6 h0 hG hp hw
 ⟨h.mixed,h.fn,h.dfn,fun _ _ _ _ _ e=>MA h hG e,h.orc,h.meth,h.seq⟩
include h0 hG in
theorem tH{ps:List RPc}(hp:∀ p∈ps,p.Ok E0.P E0.G)(hw:∀ f args H,E0.wo f args H=none){p:RPc}(h:Jj (EP E0 ps) 100000 p.f p.args p.heap=some p.v):∀ q∈p::ps,q.Ok E0.P E0.G:=fun q hq=>by
 rcases List.mem_cons.1 hq with rfl | hq
 ·exact fun H2 hs=>Gj (Qr h0 hG hp hw) hG h hs
 ·exact hp q hq
end
end Go.Am
end
section
namespace Go.Am
open Go.RowKit Go.ChangeShapes
def ao.start(W:World)(G:Nat→Option (List AV)):ao:=
 {imm:=fun b o=>W.cell? ⟨b,o,none⟩,own:=fun _=>none,loc:=[],base:=fun b=>W.heap.size≤b,w0:=W,glob:=G,shape:=qR W }
theorem Inv.start(W:World)(G:Nat→Option (List AV))(hG:∀ (g:Nat) (cs:List AV),G g=some cs→V (ao.start W G) (.vptr cs.length [cs] 0 0) (.pointer (some ⟨g,0,none⟩))):Inv (ao.start W G) [] W:=
 ⟨mW.refl _ _,fun _ h=>h,fun _ _ _ h=>h,rfl,(fun id x h=>by simp at h),(fun i j x y h=>by simp at h),(fun b t n h=>by cases h),hG,fun b s h=>AW h⟩
section
variable{P:Program}
theorem KN{G:Nat→Option (List AV)}{f:FuncId}{args:List AV}{W:World}{cargs:Array Value}(h:de P G f args [] fun r H'=>r = .ret (.bool true)∧H'=[])
  (hG:∀ (g:Nat) (cs:List AV),G g=some cs→V (ao.start W G) (.vptr cs.length [cs] 0 0) (.pointer (some ⟨g,0,none⟩)))
  (hb:(callFunc f cargs).run P W = .ok (.enter f cargs) W) (hv:Vs (ao.start W G) args cargs):Calls P f cargs W fun e w'=>e = .returned (.bool true)∧Below W.heap.size W w':=by
 rcases h (ao.start W G) W cargs rfl (Inv.start W G hG) hv with ⟨_,h2⟩ | ⟨cv,w',h1,_⟩
 ·refine h2.mono ?_
  rintro e w' ⟨K',r,H',hk,he,hi,rfl,rfl⟩;have hkept:=hi.below;rw [hk.base,hk.w0] at hkept;refine ⟨?_,hkept.below fun b hb=>hb⟩;cases e with
  |panicked c=>exact he.elim
  |outgrown=>exact he.elim
  |returned x=>
   have hx:V K' (.bool true) x:=he;cases hx;rfl
 ·rw [hb] at h1;cases h1
theorem vl{H:Type}{enc:TypeId×Value→H}(hl:laidOutB P=true){W W':World}(hb:Below W.heap.size W W'):∀ (ts:List TypeId) (vs:List Value) (ds:List (DataW H)) (ps:List MemPlace),
  (∀ t∈ts,P.readableRec t=true∧t<P.types.size)→DataW.TrodAll enc P W 0 (fun _=>true) true ts vs ds ps→(∀ x∈ps,x.block<W.heap.size) →
  DataW.TrodAll enc P W' 0 (fun b=>decide (b<W.heap.size)) true ts vs ds ps
 |[],_,_,_,_,h,_=>by
  obtain ⟨rfl,rfl,rfl⟩:=trodAll_nil h;rfl
 |t::ts,_,_,_,hr,h,hlt=>by
  obtain ⟨v,vs1,d,ds1,a,b,rfl,rfl,rfl,h1,h2⟩:=trodAll_cons h;exact ⟨a,b,Below.trod hl (hr t (by simp)).1 (hr t (by simp)).2 h1 hb (fun x hx=>hlt x (by simp [hx])),vl hl hb ts vs1 ds1 b (fun u hu=>hr u (by simp [hu])) h2 (fun x hx=>hlt x (by simp [hx])),rfl⟩
end
end Go.Am
end
section
namespace Go.Am.Sh
open Go.RowKit
abbrev t(n:Nat):RX:=.t n
abbrev i(n:Int):RX:=.c (.int .i64 n)
abbrev u(n:Int):RX:=.c (.int .u8 n)
abbrev T:RX:=.c (.bool true)
abbrev F:RX:=.c (.bool false)
abbrev s(x:List UInt8):RX:=.c (.str x)
abbrev f(n:Nat):RX:=.c (.fn (.func n) [] [])
abbrev o(d:Nat)(x:ROp):RO:=⟨some d,none,.op x⟩
abbrev n(x:ROp):RO:=⟨none,none,.op x⟩
abbrev g(d q:Nat)(x:ROp):RO:=⟨some d,some (q,true),.op x⟩
abbrev h(d q:Nat)(x:ROp):RO:=⟨some d,some (q,false),.op x⟩
abbrev k(d:Nat)(x:RX)(l:List RX):RO:=⟨some d,none,.call x l⟩
abbrev m(d x:Nat):RO:=⟨some d,none,.op (.mv (.t x))⟩
abbrev mc(d:Nat)(x:RX):RO:=⟨some d,none,.op (.mv x)⟩
abbrev ld(d x:Nat):RO:=⟨some d,none,.op (.ld none (.t x))⟩
abbrev la(d j x:Nat):RO:=⟨some d,none,.op (.ld (some j) (.t x))⟩
abbrev fa(d j x:Nat):RO:=⟨some d,none,.op (.fa j (.t x))⟩
abbrev ia(d j x y:Nat):RO:=⟨some d,none,.op (.ias j (.t x) (.t y))⟩
abbrev ls(d x:Nat):RO:=⟨some d,none,.op (.len .sl (.t x))⟩
abbrev lt(d x:Nat):RO:=⟨some d,none,.op (.len .str (.t x))⟩
abbrev ad(d x:Nat):RO:=⟨some d,none,.op (.ar .add (.t x) (.c (.int .i64 1)))⟩
abbrev bl(d x y:Nat):RO:=⟨some d,none,.op (.ar .lss (.t x) (.t y))⟩
abbrev no(d x:Nat):RO:=⟨some d,none,.op (.un .not (.t x))⟩
abbrev ex(d x j:Nat):RO:=⟨some d,none,.op (.ex (.t x) j)⟩
abbrev P(x:RO):RO×Cl:=(x,.pure)
abbrev W(x:RO):RO×Cl:=(x,.wide)
abbrev E(x:RO):RO×Cl:=(x,.eff)
abbrev K(x:RO):RO×Cl:=(x,.keep)
abbrev Q(x y:AC):AC:=.seq x y
abbrev C(c:Nat)(x y:AC):AC:=.cond (.t c) x y
abbrev O(l:List RO):AC:=.ops l
abbrev D(l:List (RO×Cl)):AC:=.dops false [] [] l
abbrev Y(l:List Nat):AC:=.lv l
abbrev R:AC:=.ret
abbrev X:AC:=.skip
abbrev ar(d:Nat)(op:BinOp)(x y:Nat):RO:=⟨some d,none,.op (.ar op (.t x) (.t y))⟩
abbrev ac(d:Nat)(op:BinOp)(x:Nat)(y:RX):RO:=⟨some d,none,.op (.ar op (.t x) y)⟩
abbrev pf(d c x:Nat):RO:=⟨some d,none,.op (.pk (.t c) (.t x) (.c (.bool false)))⟩
abbrev pt(d c x:Nat):RO:=⟨some d,none,.op (.pk (.t c) (.c (.bool true)) (.t x))⟩
abbrev k1(d f x:Nat):RO:=⟨some d,none,.call (.c (.fn (.func f) [] [])) [.t x]⟩
abbrev k2(d f x y:Nat):RO:=⟨some d,none,.call (.c (.fn (.func f) [] [])) [.t x,.t y]⟩
abbrev rt(d:Nat)(x:RX):AC:=.seq (.ops [⟨some d,none,.op (.mv x)⟩]) .ret
abbrev lo(l:List Nat)(x:AC):AC:=.loop ⟨some l,[],false⟩ x
abbrev lc(l:List Nat)(x:AC):AC:=.loop ⟨some l,[],true⟩ x
abbrev ic(b a c:Nat):AC:=.ops [⟨some b,none,.op (.mv (.t a))⟩,⟨some c,none,.op (.ar .add (.t b) (.c (.int .i64 1)))⟩,⟨some a,none,.op (.mv (.t c))⟩]
abbrev Pm(d x:Nat):RO×Cl:=(⟨some d,none,.op (.mv (.t x))⟩,.pure)
abbrev Pf(d j x:Nat):RO×Cl:=(⟨some d,none,.op (.fa j (.t x))⟩,.pure)
abbrev Wl(d x:Nat):RO×Cl:=(⟨some d,none,.op (.ld none (.t x))⟩,.wide)
abbrev qf(a:AFn)(r:List pI)(m:RM):Prop:=a.res=r∧a.mode=m∧a.dfr=none
end Go.Am.Sh
end
section
namespace Go.Am
def qT:List (List AV)→Option (List (List AV))
 |[]=>some []
 |[.int .u8 k,.str s,.bool _]::l=>match qT l with
  |some r=>if k=5 then some ([.agg [.int .i32 0,.bool true]]::r)
   else if k=1 then some ((eE s).map (fun n=>[.agg [.int .i32 n,.bool false]])++r)
   else some r
  |none=>none
 |_=>none
def wP(cap:List AV)(H:List AObj):Option (List (List AV)×List Nat):=
 match cap with
 |[.ptr id 0]=>match H[id]? with
  |some (.cells (.slice _ 3 rows::_) _)=>match qT rows with
   |some r=>bif Nat.ble rows.length 9223372036854775807 then some (r,[]) else none
   |none=>none
  |_=>none
 |_=>none
end Go.Am
end
section
namespace Go.Am
end Go.Am
end
section
namespace Go.Am
open Go.RowKit
theorem Inv.kept{K:ao}{H:List AObj}{w w':World}(hi:Inv K H w)(h:Below w.heap.size w w'):Inv K H w':=by
 have hheap:∀ b,b<w.heap.size→w'.heap[b]?=w.heap[b]? := h.block;refine ⟨⟨h.os.trans hi.below.os,h.tape.trans hi.below.tape,h.output.trans hi.below.output,Nat.le_trans hi.below.size h.size,fun k hk => ?_⟩,fun b hb=>hi.base b (Nat.le_trans h.size hb),fun b off v hv => ?_,hi.len,fun id y hy => ?_,hi.inj,fun b t n ho => ?_,hi.glob,fun b s hs=>(mX.of_lt hheap).shp (hi.shape b s hs)⟩
 ·by_cases hk2:k<w.heap.size
  ·rw [hheap k hk2];exact hi.below.block k hk
  ·exact absurd (hi.base k (by omega)) hk
 ·rw [fH (hheap b (hi.imm_lt hv))];exact hi.imm _ _ _ hv
 ·exact (hi.obj id y hy).mono (.refl K) (fun b _ _ hb=>hheap b hb) (fun _ _ _=>⟨fun _ h=>h,fun h=>h,fun h=>h⟩)
 ·obtain ⟨hb,fr,us,T',lo,hh,h1,h2,h3,h4,h5⟩:=hi.own b t n ho
  exact ⟨hb,fr,us,T',lo,hh,h1,by rw [hheap b (Array.getElem?_eq_some_iff.1 h2).1];exact h2,h3,h4,h5⟩
end Go.Am
end
section
namespace Go.Am
open Go.RowKit
def xN:List AV:=(List.range 256).map fun b=>.int .u8 (Lib.firstT b:Nat)
def Ij:List AV:=(List.range 32).map fun i=>.int .u8 ((if i % 2=0 then Lib.accLo (i / 2) else Lib.accHi (i / 2):Nat):Int)
def sx(a b:Nat):Nat→Option (List AV):=fun g=>bif Nat.beq g a then some xN else bif Nat.beq g b then some Ij else none
theorem Ik:xN.length=256:=by simp [xN]
theorem MB:Ij.length=32:=by simp [Ij]
theorem xO{K:ao}{H:List AObj}{w:World}(hi:Inv K H w){g:Nat}{cs:List AV}(hg:K.glob g=some cs){j:Nat}{n:Int}(hj:cs[j]?=some (.int .u8 n)):w.cell? ⟨g,j,none⟩=some (.int .u8 n):=by
 have hv:=hi.glob g cs hg;generalize hp:Value.pointer (some ⟨g,0,none⟩)=v at hv;cases hv with
 |vptr _ _ _ _ b o vs hl hi2 hv2=>
  injection hp with hp;injection hp with hp;injection hp with h1 h2;subst h1;have h0:o=0:=by omega
  subst h0;have h3:=hi.imm _ _ _ (hi2 0 j cs (.int .u8 n) rfl hj);have h4:=hv2 0 j cs (.int .u8 n) rfl hj;generalize vs 0 j=u at h3 h4;cases h4;simpa using h3
theorem OL{a b:Nat}(hab:Nat.beq b a=false){K:ao}{H:List AObj}{w:World}(hi:Inv K H w)(hg:K.glob=sx a b):Lib.Utf8Tabs a b w:=by
 have ha:K.glob a=some xN:=by rw [hg];simp [sx]
 have hb:K.glob b=some Ij:=by rw [hg];simp [sx,hab]
 refine ⟨fun c hc=>xO hi ha ?_,fun i hi2=>⟨xO hi hb ?_,xO hi hb ?_⟩⟩
 ·simp [xN,hc]
 ·have h1:2*i<32:=by omega
  have h2:2*i % 2=0:=by omega
  have h3:2*i / 2=i:=by omega
  simp [Ij,h1,h2,h3]
 ·have h1:2*i+1<32:=by omega
  have h2:¬ (2*i+1) % 2=0:=by omega
  have h3:(2*i+1) / 2=i:=by omega
  simp [Ij,h1,h2,h3]
theorem Il{a b:Nat}{W:World}(hT:Lib.Utf8Tabs a b W)(g:Nat)(cs:List AV)(h:sx a b g=some cs):V (ao.start W (sx a b)) (.vptr cs.length [cs] 0 0) (.pointer (some ⟨g,0,none⟩)):=by
 have mk:∀ f:Nat→Nat,(∀ j,j<cs.length→W.cell? ⟨g,j,none⟩=some (.int .u8 (f j:Nat))∧cs[j]?=some (.int .u8 (f j:Nat)))→V (ao.start W (sx a b)) (.vptr cs.length [cs] 0 0) (.pointer (some ⟨g,0,none⟩)):=fun f hf=>by
  have key:=V.vptr (K:=ao.start W (sx a b)) cs.length [cs] 0 0 g 0 (fun _ j=>.int .u8 (f j:Nat)) (fun r hr=>by simp at hr;rw [hr])
   (fun i j r av h1 h2=>by
    cases i with
    |zero=>
     obtain rfl:r=cs:=by simpa using h1.symm
     have hlt:=(List.getElem?_eq_some_iff.1 h2).1;simpa [ao.start] using (hf j hlt).1
    |succ i=>simp at h1)
   (fun i j r av h1 h2=>by
    cases i with
    |zero=>
     obtain rfl:r=cs:=by simpa using h1.symm
     have hlt:=(List.getElem?_eq_some_iff.1 h2).1;have h3:=(hf j hlt).2;rw [h2] at h3;cases h3;exact .int _ _
    |succ i=>simp at h1)
  simpa using key
 unfold sx at h;cases h1:Nat.beq g a with
 |true=>
  rw [h1] at h;cases h;rw [Nat.eq_of_beq_eq_true h1] at mk ⊢;refine mk (fun j=>Lib.firstT j) fun j hj => ?_
  rw [Ik] at hj;exact ⟨hT.1 j hj,by simp [xN,hj]⟩
 |false=>
  rw [h1] at h;cases h2:Nat.beq g b with
  |false=>rw [h2] at h;cases h
  |true=>
   rw [h2] at h;cases h;rw [Nat.eq_of_beq_eq_true h2] at mk ⊢;refine mk (fun j=>if j % 2=0 then Lib.accLo (j / 2) else Lib.accHi (j / 2)) fun j hj => ?_
   rw [MB] at hj;refine ⟨?_,by simp [Ij,hj]⟩;obtain ⟨h3,h4⟩:=hT.2 (j / 2) (by omega)
   by_cases hm:j % 2=0
   ·rw [if_pos hm,← h3];congr 2;omega
   ·rw [if_neg hm,← h4];congr 2;omega
theorem A4(n:Nat)(f:Nat→Int):∀ l:List Nat,wkbL n (l.map fun x=>.int .u8 (f x))=true
 |[]=>rfl
 |x::l=>by rw [List.map_cons];simp [wkbL,wkb,A4 n f l]
theorem MC{a b:Nat}(n g:Nat)(cs:List AV)(h:sx a b g=some cs):wkbL n cs=true:=by
 unfold sx at h;cases h1:Nat.beq g a with
 |true=>rw [h1] at h;cases h;exact A4 n _ _
 |false=>
  rw [h1] at h;cases h2:Nat.beq g b with
  |false=>rw [h2] at h;cases h
  |true=>rw [h2] at h;cases h;exact A4 n _ _
def y7(s:List UInt8):Nat×Nat:=if s=[] then (65533,0) else Lib.decodeL s
theorem OM(s:List UInt8):Lib.decodeGo ⟨s.toArray⟩=y7 s:=by
 unfold Lib.decodeGo y7 Lib.decodeL;cases s with
 |nil=>rfl
 |cons c t=>simp [ByteArray.size]
theorem ON{P:Program}{f:FuncId}{a b:Nat}(hab:Nat.beq b a=false)(ef:∀ args w,(callFunc f args).run P w = .ok (.enter f args) w)
  (hf:∀ (s:ByteArray) (w:World),Lib.Utf8Tabs a b w→Calls P f #[.string s] w fun e w'=>e = .returned (.tuple #[.int .i32 (Lib.decodeGo s).1,.int .i64 (Lib.decodeGo s).2])∧Below w.heap.size w w') (s:List UInt8) (H:List AObj) :
  de P (sx a b) f [.str s] H fun r H'=>r = .ret (.tuple [.int .i32 ((y7 s).1:Nat),.int .i64 ((y7 s).2:Nat)])∧H'=H:=by
 intro K w cargs hg hi hv;obtain ⟨d,rfl,hd⟩:=wu hv;cases hd;refine .inl ⟨ef _ _,(hf _ w (OL hab hi hg)).mono ?_⟩;rintro e w' ⟨rfl,hb⟩;refine ⟨K,.ret (.tuple [.int .i32 ((y7 s).1:Nat),.int .i64 ((y7 s).2:Nat)]),_,.refl K, ?_,hi.kept hb,rfl,rfl⟩;rw [OM];refine (.tuple [.int .i32 ((y7 s).1:Nat),.int .i64 ((y7 s).2:Nat)] #[.int .i32 ((y7 s).1:Nat),.int .i64 ((y7 s).2:Nat)] rfl fun i av h => ?_:V K _ _)
 match i,h with
 |0,h=>cases h;exact .int _ _
 |1,h=>cases h;exact .int _ _
end Go.Am
end
section
set_option linter.defProp false
namespace Go.Am
open Go.RowKit
abbrev Str:=List UInt8
abbrev bH:Nat:=140737488351232
def I64(n:Int):Prop := -9223372036854775808≤n∧n≤9223372036854775807
structure Sl (α:Type) where
 tag:Tag
 l:List α
def Tag.strip:Tag→Tag
 |.own _=>.any
 |t=>t
def Sl.strip{α:Type}(s:Sl α):Sl α:=⟨s.tag.strip,s.l⟩
theorem eS(t:Tag)(n:Nat)(r:List (List AV)):AV.strip (.slice t n r) = .slice t.strip n r:=by cases t<;>rfl
theorem oF:(∀ (t:Tag) (n:Nat) (r:List (List AV)),AV.strip (.slice t n r) = .slice t.strip n r)∧(∀ (x:AV) (l:List AV),List.map AV.strip (x::l)=AV.strip x::List.map AV.strip l)∧List.map AV.strip []=[]∧(∀ a b:List AV,List.map AV.strip (a++b)=List.map AV.strip a++List.map AV.strip b):=
 ⟨eS,fun _ _=>rfl,rfl,fun _ _=>List.map_append⟩
structure Sl.ok {α:Type} (s:Sl α) (n:Nat) (p:α→Prop):Prop where
 tag:wN n s.tag
 len:s.l.length≤bH
 all:∀ x∈s.l,p x
theorem wN.mono{n m:Nat}{t:Tag}(h:wN n t)(hn:n≤m):wN m t:=by
 cases t<;>first | trivial | exact Nat.lt_of_lt_of_le h hn
theorem Sl.ok.mono{α:Type}{s:Sl α}{n m:Nat}{p q:α→Prop}(h:s.ok n p)(hn:n≤m)(hp:∀ x,p x→q x):s.ok m q:=
 ⟨h.tag.mono hn,h.len,fun x hx=>hp x (h.all x hx)⟩
theorem Sl.ok.wk{α:Type}{s:Sl α}{n esz:Nat}{p:α→Prop}{row:α→List AV}(h:s.ok n p)(hr:∀ x,p x→WkL n (row x) (row x)):Wk n (.slice s.tag esz (s.l.map row)) (.slice s.tag esz (s.l.map row)):=
 wk_slice h.tag (by rw [rowsWk_map];exact fun x hx=>hr x (h.all x hx))
def Im(s:Str):List AV:=[.str s]
def cK(n:Int):List AV:=[.int .i64 n]
structure ae where
 kind:Int
 text:Str
 car:Bool
def ae.row(x:ae):List AV:=[.int .u8 x.kind,.str x.text,.bool x.car]
theorem bP:(∀ x:ae,mg 3 (ae.row x)=some (ae.row x))∧(∀ x:ae,bh none (ae.row x) 0=some (.int .u8 x.kind))∧(∀ x:ae,bh none (ae.row x) 1=some (.str x.text))∧(∀ x:ae,bh none (ae.row x) 2=some (.bool x.car))∧(∀ x:ae,(ae.row x).length=3)∧(∀ x:ae,(ae.row x).all AV.cell=true)∧(∀ x:ae,∀ c0 c1 c2:AV,aX [c0,c1,c2] 0 (ae.row x)=ae.row x)∧(∀ x:ae,∀ y:ae,aX (ae.row y) 0 (ae.row x)=ae.row x)∧(∀ x:ae,∀ (y:Int),aX (ae.row x) 0 [.int .u8 y]=ae.row { x with kind:=y })∧(∀ x:ae,∀ (y:Str),aX (ae.row x) 1 [.str y]=ae.row { x with text:=y })∧(∀ x:ae,∀ (y:Bool),aX (ae.row x) 2 [.bool y]=ae.row { x with car:=y })∧(∀ x:ae,(ae.row x).map AV.strip=ae.row x)∧(∀ x:ae,(ae.row x).take 3=ae.row x)∧(∀ x:ae,(ae.row x).drop 3=[]):=
 by refine ⟨?_, ?_, ?_, ?_, ?_, ?_, ?_, ?_, ?_, ?_, ?_, ?_, ?_, ?_⟩<;>(intros;first | rfl | (simp only [ae.row];rfl) | (simp only [ae.row,oF];rfl))
structure ae.ok (n:Nat) (x:ae):Prop where
 text:x.text.length≤bH
theorem ae.ok.mono{n m:Nat}{x:ae}(h:x.ok n)(hn:n≤m):x.ok m:=⟨h.text⟩
theorem ae.ok.wk{n:Nat}{x:ae}(h:x.ok n):WkL n x.row x.row:=⟨wk_int _ _ _,wk_str _ _,wk_bool _ _,trivial⟩
structure aw where
 kind:Int
 pieces:Sl ae
def aw.row(x:aw):List AV:=[.int .u8 x.kind,.slice x.pieces.tag 3 (x.pieces.l.map ae.row)]
def aw.strip(x:aw):aw := { x with pieces:=x.pieces.strip }
theorem dD:(∀ x:aw,mg 2 (aw.row x)=some (aw.row x))∧(∀ x:aw,bh none (aw.row x) 0=some (.int .u8 x.kind))∧(∀ x:aw,bh none (aw.row x) 1=some (.slice x.pieces.tag 3 (x.pieces.l.map ae.row)))∧(∀ x:aw,(aw.row x).length=2)∧(∀ x:aw,(aw.row x).all AV.cell=true)∧(∀ x:aw,∀ c0 c1:AV,aX [c0,c1] 0 (aw.row x)=aw.row x)∧(∀ x:aw,∀ y:aw,aX (aw.row y) 0 (aw.row x)=aw.row x)∧(∀ x:aw,∀ (y:Int),aX (aw.row x) 0 [.int .u8 y]=aw.row { x with kind:=y })∧(∀ x:aw,∀ (t:Tag) (l:List ae),aX (aw.row x) 1 [.slice t 3 (l.map ae.row)]=aw.row { x with pieces:=⟨t,l⟩ })∧(∀ x:aw,(aw.row x).map AV.strip=aw.row x.strip)∧(∀ x:aw,(aw.row x).take 2=aw.row x)∧(∀ x:aw,(aw.row x).drop 2=[]):=
 by refine ⟨?_, ?_, ?_, ?_, ?_, ?_, ?_, ?_, ?_, ?_, ?_, ?_⟩<;>(intros;first | rfl | (simp only [aw.row];rfl) | (simp only [aw.row,oF];rfl))
structure aw.ok (n:Nat) (x:aw):Prop where
 pieces:x.pieces.ok n (ae.ok n)
theorem aw.ok.mono{n m:Nat}{x:aw}(h:x.ok n)(hn:n≤m):x.ok m:=⟨h.pieces.mono hn (fun _ h=>h.mono hn)⟩
theorem aw.ok.wk{n:Nat}{x:aw}(h:x.ok n):WkL n x.row x.row:=⟨wk_int _ _ _,h.pieces.wk (fun _ h=>h.wk),trivial⟩
structure Docu where
 blocks:Sl aw
def Docu.row(x:Docu):List AV:=[.slice x.blocks.tag 2 (x.blocks.l.map aw.row)]
def Docu.strip(x:Docu):Docu := { x with blocks:=x.blocks.strip }
theorem kp:(∀ x:Docu,mg 1 (Docu.row x)=some (Docu.row x))∧(∀ x:Docu,bh none (Docu.row x) 0=some (.slice x.blocks.tag 2 (x.blocks.l.map aw.row)))∧(∀ x:Docu,(Docu.row x).length=1)∧(∀ x:Docu,(Docu.row x).all AV.cell=true)∧(∀ x:Docu,∀ c0:AV,aX [c0] 0 (Docu.row x)=Docu.row x)∧(∀ x:Docu,∀ y:Docu,aX (Docu.row y) 0 (Docu.row x)=Docu.row x)∧(∀ x:Docu,∀ (t:Tag) (l:List aw),aX (Docu.row x) 0 [.slice t 2 (l.map aw.row)]=Docu.row { x with blocks:=⟨t,l⟩ })∧(∀ x:Docu,(Docu.row x).map AV.strip=Docu.row x.strip)∧(∀ x:Docu,(Docu.row x).take 1=Docu.row x)∧(∀ x:Docu,(Docu.row x).drop 1=[]):=
 by refine ⟨?_, ?_, ?_, ?_, ?_, ?_, ?_, ?_, ?_, ?_⟩<;>(intros;first | rfl | (simp only [Docu.row];rfl) | (simp only [Docu.row,oF];rfl))
structure Docu.ok (n:Nat) (x:Docu):Prop where
 blocks:x.blocks.ok n (aw.ok n)
theorem Docu.ok.mono{n m:Nat}{x:Docu}(h:x.ok n)(hn:n≤m):x.ok m:=⟨h.blocks.mono hn (fun _ h=>h.mono hn)⟩
theorem Docu.ok.wk{n:Nat}{x:Docu}(h:x.ok n):WkL n x.row x.row:=⟨h.blocks.wk (fun _ h=>h.wk),trivial⟩
structure Brk where
 bef:Str
 aft:Str
 brk:Bool
def Brk.row(x:Brk):List AV:=[.str x.bef,.str x.aft,.bool x.brk]
theorem Q7:(∀ x:Brk,mg 3 (Brk.row x)=some (Brk.row x))∧(∀ x:Brk,bh none (Brk.row x) 0=some (.str x.bef))∧(∀ x:Brk,bh none (Brk.row x) 1=some (.str x.aft))∧(∀ x:Brk,bh none (Brk.row x) 2=some (.bool x.brk))∧(∀ x:Brk,(Brk.row x).length=3)∧(∀ x:Brk,(Brk.row x).all AV.cell=true)∧(∀ x:Brk,∀ c0 c1 c2:AV,aX [c0,c1,c2] 0 (Brk.row x)=Brk.row x)∧(∀ x:Brk,∀ y:Brk,aX (Brk.row y) 0 (Brk.row x)=Brk.row x)∧(∀ x:Brk,∀ (y:Str),aX (Brk.row x) 0 [.str y]=Brk.row { x with bef:=y })∧(∀ x:Brk,∀ (y:Str),aX (Brk.row x) 1 [.str y]=Brk.row { x with aft:=y })∧(∀ x:Brk,∀ (y:Bool),aX (Brk.row x) 2 [.bool y]=Brk.row { x with brk:=y })∧(∀ x:Brk,(Brk.row x).map AV.strip=Brk.row x)∧(∀ x:Brk,(Brk.row x).take 3=Brk.row x)∧(∀ x:Brk,(Brk.row x).drop 3=[]):=
 by refine ⟨?_, ?_, ?_, ?_, ?_, ?_, ?_, ?_, ?_, ?_, ?_, ?_, ?_, ?_⟩<;>(intros;first | rfl | (simp only [Brk.row];rfl) | (simp only [Brk.row,oF];rfl))
structure Brk.ok (n:Nat) (x:Brk):Prop where
 bef:x.bef.length≤bH
 aft:x.aft.length≤bH
theorem Brk.ok.mono{n m:Nat}{x:Brk}(h:x.ok n)(hn:n≤m):x.ok m:=⟨h.bef,h.aft⟩
theorem Brk.ok.wk{n:Nat}{x:Brk}(h:x.ok n):WkL n x.row x.row:=⟨wk_str _ _,wk_str _ _,wk_bool _ _,trivial⟩
structure bk where
 block:Int
 pieces:Sl ae
def bk.row(x:bk):List AV:=[.int .i64 x.block,.slice x.pieces.tag 3 (x.pieces.l.map ae.row)]
def bk.strip(x:bk):bk := { x with pieces:=x.pieces.strip }
theorem oV:(∀ x:bk,mg 2 (bk.row x)=some (bk.row x))∧(∀ x:bk,bh none (bk.row x) 0=some (.int .i64 x.block))∧(∀ x:bk,bh none (bk.row x) 1=some (.slice x.pieces.tag 3 (x.pieces.l.map ae.row)))∧(∀ x:bk,(bk.row x).length=2)∧(∀ x:bk,(bk.row x).all AV.cell=true)∧(∀ x:bk,∀ c0 c1:AV,aX [c0,c1] 0 (bk.row x)=bk.row x)∧(∀ x:bk,∀ y:bk,aX (bk.row y) 0 (bk.row x)=bk.row x)∧(∀ x:bk,∀ (y:Int),aX (bk.row x) 0 [.int .i64 y]=bk.row { x with block:=y })∧(∀ x:bk,∀ (t:Tag) (l:List ae),aX (bk.row x) 1 [.slice t 3 (l.map ae.row)]=bk.row { x with pieces:=⟨t,l⟩ })∧(∀ x:bk,(bk.row x).map AV.strip=bk.row x.strip)∧(∀ x:bk,(bk.row x).take 2=bk.row x)∧(∀ x:bk,(bk.row x).drop 2=[]):=
 by refine ⟨?_, ?_, ?_, ?_, ?_, ?_, ?_, ?_, ?_, ?_, ?_, ?_⟩<;>(intros;first | rfl | (simp only [bk.row];rfl) | (simp only [bk.row,oF];rfl))
structure bk.ok (n:Nat) (x:bk):Prop where
 block:I64 x.block
 pieces:x.pieces.ok n (ae.ok n)
theorem bk.ok.mono{n m:Nat}{x:bk}(h:x.ok n)(hn:n≤m):x.ok m:=⟨h.block,h.pieces.mono hn (fun _ h=>h.mono hn)⟩
theorem bk.ok.wk{n:Nat}{x:bk}(h:x.ok n):WkL n x.row x.row:=⟨wk_int _ _ _,h.pieces.wk (fun _ h=>h.wk),trivial⟩
structure Tie where
 src:Int
 tgt:Int
def Tie.row(x:Tie):List AV:=[.int .i64 x.src,.int .i64 x.tgt]
structure Tie.ok (n:Nat) (x:Tie):Prop where
 src:I64 x.src
 tgt:I64 x.tgt
theorem Tie.ok.mono{n m:Nat}{x:Tie}(h:x.ok n)(hn:n≤m):x.ok m:=⟨h.src,h.tgt⟩
theorem Tie.ok.wk{n:Nat}{x:Tie}(h:x.ok n):WkL n x.row x.row:=⟨wk_int _ _ _,wk_int _ _ _,trivial⟩
theorem a8{α:Type}{row:α→List AV}{l:List α}{tag:Tag}{sz:Nat}{k:IntKind}{i:Nat}(h:i<l.length):uM sz (.slice tag sz (l.map row)) (.int k (i:Int))=some (.vptr sz (l.map row) i 0):=
 rias_nat (esz:=0) (by simpa using h)
theorem cV{i n:Nat}(h:i<n)(hn:n≤bH):IntKind.i64.wrap ((i:Int)+1)=((i+1:Nat):Int):=by
 rw [bV (by omega) (by simp only [bH] at hn;omega)];rfl
theorem OO{i:Nat}(h0:0<i)(h:i≤bH):IntKind.i64.wrap ((i:Int)-1)=((i-1:Nat):Int):=by
 simp only [bH] at h;rw [bV (by omega) (by omega)];omega
theorem MD{α:Type}(row:α→List AV)(l:List α)(i:Nat):(l.map row)[i]?=(l[i]?).map row:=List.getElem?_map ..
def slc{α:Type}(b:Bool)(x y:α):α:=
 match b with
 |true=>x
 |false=>y
theorem bo{α:Type}{b b':Bool}{x y:α}(h:b=b'):sel b x y=sel b' x y:=by rw [h]
theorem aM{α:Type}{b b':Bool}{x x' y y':α}(hb:b=b')(hx:b'=true→x=x')(hy:b'=false→y=y'):slc b x y=slc b' x' y':=by
 subst hb;cases b
 ·exact hy rfl
 ·exact hx rfl
theorem slc_true{α:Type}(x y:α):slc true x y=x:=rfl
theorem slc_false{α:Type}(x y:α):slc false x y=y:=rfl
theorem slc_not{α:Type}(b:Bool)(x y:α):slc (!b) x y=slc b y x:=by cases b<;>rfl
theorem amS :
 (∀ (α:Type) (b:Bool) (x y:α),sel b x y=slc b x y) ∧
 (∀ (α:Type) (x y:α),slc true x y=x)∧(∀ (α:Type) (x y:α),slc false x y=y)∧(∀ (α:Type) (b:Bool) (x y:α),slc (!b) x y=slc b y x) ∧
 (∀ (α:Type) (b:Bool) (x:α),slc b x x=x) ∧
 (∀ (α:Type) (b:Bool) (x y:α),slc b (some x) (some y)=some (slc b x y)) ∧
 (∀ (α β:Type) (b:Bool) (x x':α) (y y':β),slc b (x,y) (x',y')=(slc b x x',slc b y y')) ∧
 (∀ (b:Bool) (v v':AV),slc b (oK.ret v) (oK.ret v') = .ret (slc b v v')) ∧
 (∀ (b p q:Bool),slc b (AV.bool p) (AV.bool q) = .bool (slc b p q)) ∧
 (∀ (b:Bool) (k:IntKind) (x y:Int),slc b (AV.int k x) (AV.int k y) = .int k (slc b x y)) ∧
 (∀ (b:Bool) (x y:Str),slc b (AV.str x) (AV.str y) = .str (slc b x y)) ∧
 (∀ (α:Type) (b p:Bool) (x y:α),slc b (slc p x y) y=slc (b&&p) x y) ∧
 (∀ b p:Bool,slc b p false=(b&&p))∧(∀ b p:Bool,slc b true p=(b||p))∧(∀ b p:Bool,slc b p true=(!b||p))∧(∀ b p:Bool,slc b false p=(!b&&p)) ∧
 (∀ (α:Type) (b w:Bool) (v v':AV) (x u:Option α),tG (slc b v v') w x u=slc b (tG v w x u) (tG v' w x u)):=
 ⟨fun _ _ _ _=>rfl,fun _ _ _=>rfl,fun _ _ _=>rfl,fun _=>slc_not,fun _ b _=>by cases b<;>rfl,fun _ b _ _=>by cases b<;>rfl,fun _ _ b _ _ _ _=>by cases b<;>rfl,fun b _ _=>by cases b<;>rfl,fun b _ _=>by cases b<;>rfl,
  fun b _ _ _=>by cases b<;>rfl,fun b _ _=>by cases b<;>rfl,fun _ b p _ _=>by cases b<;>cases p<;>rfl,fun b _=>by cases b<;>rfl,fun b _=>by cases b<;>rfl,fun b _=>by cases b<;>rfl,fun b _=>by cases b<;>rfl,fun _ b _ _ _ _ _=>by cases b<;>rfl⟩
def orE(o:Option AV)(H:List AObj)(x:Option Out):Option Out:=
 match o with
 |some v=>some (.ret v,H)
 |none=>x
def orO{α:Type}(o y:Option α):Option α:=
 match o with
 |some v=>some v
 |none=>y
def vx{α:Type}(F:Nat→α→Option AV):Nat→List α→Option AV
 |_,[]=>none
 |i,x::l=>orO (F i x) (vx F (i+1) l)
theorem ME(v:AV)(H:List AObj)(x:Option Out):orE (some v) H x=some (.ret v,H):=rfl
theorem MF(H:List AObj)(x:Option Out):orE none H x=x:=rfl
theorem OP(b:Bool)(o o':Option AV)(H:List AObj)(x:Option Out):orE (sel b o o') H x=sel b (orE o H x) (orE o' H x):=by cases b<;>rfl
theorem OQ(o o':Option AV)(H:List AObj)(x:Option Out):orE (orO o o') H x=orE o H (orE o' H x):=by cases o<;>rfl
theorem MG{α:Type}(v:α)(y:Option α):orO (some v) y=some v:=rfl
theorem MH{α:Type}(y:Option α):orO none y=y:=rfl
theorem OR{α:Type}(b:Bool)(o o' y:Option α):orO (sel b o o') y=sel b (orO o y) (orO o' y):=by cases b<;>rfl
theorem Io{α:Type}(F:Nat→α→Option AV)(i:Nat):vx F i []=none:=rfl
theorem Gm{α:Type}(F:Nat→α→Option AV)(i:Nat)(x:α)(l:List α):vx F i (x::l)=orO (F i x) (vx F (i+1) l):=rfl
theorem A5{H0 H:List AObj}(h:db H0 H)(L:List AObj):db H0 (H++L):=
 ⟨by have:=h.1;simp;omega,fun i x hi hx=>h.2 i x hi (by
  have:=h.1;rwa [List.getElem?_append_left (by omega)] at hx)⟩
theorem Du{H0 H:List AObj}(h:db H0 H)(L:List AObj):(H++L).take H0.length=H.take H0.length:=
 List.take_append_of_le_length h.1
theorem kC{sz:Nat}{r:List AV}(h1:r.length=sz)(h2:r.all AV.cell=true):mq sz [r]=true:=by simp [mq,h1,h2]
def A6(pl:Nat→Option (Nat×Nat))(cs:List AV)(rest:List (Nat×AV))(o:Option (Nat×Nat))(c:Option (List AV)):Option (List AV):=
 match o,c with
 |some (off,size),some cells=>if cells.length=size∧off+cells.length≤cs.length then gV pl (aX cs off cells) rest else none
 |_,_=>none
theorem KP(pl:Nat→Option (Nat×Nat))(cs:List AV):gV pl cs []=some cs:=rfl
theorem Ip(pl:Nat→Option (Nat×Nat))(cs:List AV)(i:Nat)(v:AV)(rest:List (Nat×AV)):gV pl cs ((i,v)::rest)=A6 pl cs rest (pl i) (cC v):=by
 rfl
theorem Gn(pl:Nat→Option (Nat×Nat))(cs:List AV)(rest:List (Nat×AV))(off size:Nat)(cells:List AV)(h1:cells.length=size)(h2:off+size≤cs.length):A6 pl cs rest (some (off,size)) (some cells)=gV pl (aX cs off cells) rest:=by
 subst h1;rw [A6];exact if_pos ⟨rfl,h2⟩
theorem R9(f:Nat×RX→Nat×AV):List.map f []=[]:=rfl
theorem Sa(f:Nat×RX→Nat×AV)(x:Nat×RX)(l:List (Nat×RX)):List.map f (x::l)=f x::List.map f l:=rfl
theorem amF :
 (∀ (pl:Nat→Option (Nat×Nat)) (cs:List AV),gV pl cs []=some cs) ∧
 (∀ (pl:Nat→Option (Nat×Nat)) (cs:List AV) (i:Nat) (v:AV) (rest:List (Nat×AV)),gV pl cs ((i,v)::rest)=A6 pl cs rest (pl i) (cC v)) ∧
 (∀ (pl:Nat→Option (Nat×Nat)) (cs:List AV) (rest:List (Nat×AV)) (off size:Nat) (cells:List AV),cells.length=size→off+size≤cs.length→A6 pl cs rest (some (off,size)) (some cells)=gV pl (aX cs off cells) rest) ∧
 (∀ (f:Nat×RX→Nat×AV),List.map f []=[]) ∧
 (∀ (f:Nat×RX→Nat×AV) (x:Nat×RX) (l:List (Nat×RX)),List.map f (x::l)=f x::List.map f l) ∧
 (∀ (z:List AV),s9 0 z=[]) ∧
 (∀ (n:Nat) (z:List AV),s9 (n+1) z=z++s9 n z) ∧
 (∀ (n:Nat) (cs:List AV),qF n 0 cs=[]) ∧
 (∀ (n k:Nat) (cs:List AV),qF n (k+1) cs=cs.take n::qF n k (cs.drop n)) ∧
 (∀ (l:List AV),l.take 0=[])∧(∀ (n:Nat) (x:AV) (l:List AV),(x::l).take (n+1)=x::l.take n) ∧
 (∀ (l:List AV),l.drop 0=l)∧(∀ (n:Nat) (x:AV) (l:List AV),(x::l).drop (n+1)=l.drop n) ∧
 (∀ (s:Str),AV.strip (.str s) = .str s)∧(∀ (k:IntKind) (n:Int),AV.strip (.int k n) = .int k n)∧(∀ (b:Bool),AV.strip (.bool b) = .bool b)∧(∀ (f:Fn) (x y:List AV),AV.strip (.fn f x y) = .fn f x y) ∧
 (∀ (t n:Nat) (r:List (List AV)),AV.strip (.slice (.own t) n r) = .slice .any n r)∧(∀ (n:Nat) (r:List (List AV)),AV.strip (.slice .any n r) = .slice .any n r)∧(∀ (n:Nat) (r:List (List AV)),AV.strip (.slice .nil n r) = .slice .nil n r)∧(∀ (n:Nat) (r:List (List AV)),AV.strip (.slice .full n r) = .slice .full n r) ∧
 (∀ (f:AV→AV),List.map f []=[])∧(∀ (f:AV→AV) (x:AV) (l:List AV),List.map f (x::l)=f x::List.map f l) ∧
 (∀ (x:Nat×Nat) (l:List (Nat×Nat)),(x::l)[0]?=some x)∧(∀ (x:Nat×Nat) (l:List (Nat×Nat)) (n:Nat),(x::l)[n+1]?=l[n]?):=
 ⟨KP,Ip,Gn,R9,Sa,fun _=>rfl,fun _ _=>rfl,fun _ _=>rfl,fun _ _ _=>rfl,fun _=>rfl,fun _ _ _=>rfl,fun _=>rfl,fun _ _ _=>rfl,fun _=>rfl,fun _ _=>rfl,fun _=>rfl,fun _ _ _=>rfl,fun _ _ _=>rfl,fun _ _=>rfl,fun _ _=>rfl,fun _ _=>rfl,fun _=>rfl,fun _ _ _=>rfl,fun _ _=>rfl,fun _ _ _=>rfl⟩
theorem amL :
 (∀ (v:AV) (H:List AObj) (x:Option Out),orE (some v) H x=some (.ret v,H)) ∧
 (∀ (H:List AObj) (x:Option Out),orE none H x=x) ∧
 (∀ (b:Bool) (o o':Option AV) (H:List AObj) (x:Option Out),orE (slc b o o') H x=slc b (orE o H x) (orE o' H x)) ∧
 (∀ (o o':Option AV) (H:List AObj) (x:Option Out),orE (orO o o') H x=orE o H (orE o' H x)) ∧
 (∀ (v:AV) (y:Option AV),orO (some v) y=some v) ∧
 (∀ (y:Option AV),orO none y=y) ∧
 (∀ (b:Bool) (o o' y:Option AV),orO (slc b o o') y=slc b (orO o y) (orO o' y)) ∧
 (∀ (α:Type) (F:Nat→α→Option AV) (i:Nat),vx F i []=none) ∧
 (∀ (α:Type) (F:Nat→α→Option AV) (i:Nat) (x:α) (l:List α),vx F i (x::l)=orO (F i x) (vx F (i+1) l)) ∧
 (∀ (α:Type) (l:List α) (row:α→List AV),(l.map row).length=l.length) ∧
 (∀ (α:Type) (row:α→List AV) (l:List α) (i:Nat),(l.map row)[i]?=(l[i]?).map row) ∧
 (∀ (α:Type) (f:α→List AV) (x:α),(some x).map f=some (f x)) ∧
 (∀ (H0 H:List AObj),db H0 H→∀ (L:List AObj),db H0 (H++L)) ∧
 (∀ (H0 H:List AObj),db H0 H→∀ (L:List AObj),(H++L).take H0.length=H.take H0.length):=
 ⟨ME,MF,OP,OQ,MG,MH,OR,fun _=>Io,fun _=>Gm,fun _ l row=>List.length_map ..,fun _ row l i=>MD row l i,fun _ _ _=>rfl,fun _ _=>A5,fun _ _=>Du⟩
def amA{E:bb}(M:bO bU E):=And.intro (am1 M) (And.intro am2 (And.intro am3 (And.intro am4 (And.intro am5 (And.intro amL amS)))))
def amB:=And.intro @beq_true (And.intro @beq_false (And.intro @decide_true (And.intro @decide_false (And.intro and_true (And.intro true_and (And.intro Bool.and_true (And.intro Bool.true_and (And.intro Bool.and_false (And.intro Bool.false_and (And.intro Bool.or_false (And.intro Bool.false_or (And.intro Bool.or_true (And.intro Bool.true_or (And.intro Bool.false_eq_true
 (And.intro @if_false.{1} (And.intro @if_true.{1} (And.intro Bool.not_true (And.intro Bool.not_false (And.intro Nat.le_add_right (And.intro @Nat.le_add_right_of_le (And.intro @Option.map_some.{0,0} (And.intro @Option.map_none.{0,0} (And.intro @List.nil_append.{0} (And.intro @List.append_nil.{0} (And.intro @List.map_nil.{0,0} @rias_nat)))))))))))))))))))))))))
def amC{E:bb}(M:bO bU E):=And.intro (amA M) amB
def amD:=And.intro @slc_true (And.intro @slc_false (And.intro @slc_not @fget_at))
def amG:=And.intro amF (And.intro setRow_nil (And.intro setRow_cons (And.intro @List.set_cons_zero.{0} (And.intro @List.length_cons.{0} (And.intro @List.length_nil.{0} (And.intro Nat.zero_add (And.intro Nat.le_refl (And.intro @List.all_cons.{0} (And.intro @List.all_nil.{0} @List.cons_append.{0})))))))))
end Go.Am
end
section
namespace Go.Am
open Go.RowKit Go.ChangeShapes Go.WideShapes
structure VL (K:ao) (row:List AV) (cs:List Value):Prop where
 len:row.length=cs.length
 at_:∀ (i:Nat) (av:AV),row[i]?=some av→V K av (cs.getD i undef)
theorem VL.nil(K:ao):VL K [] []:=⟨rfl,fun i av h=>by simp at h⟩
theorem VL.one{K:ao}{a:AV}{v:Value}(h:V K a v):VL K [a] [v]:=⟨rfl,fun i av hi=>by
 cases i with
 |zero=>obtain rfl:a=av:=by simpa using hi
        simpa using h
 |succ i=>simp at hi⟩
theorem VL.append{K:ao}{a b:List AV}{c d:List Value}(h:VL K a c)(h':VL K b d):VL K (a++b) (c++d):=⟨by simp [h.len,h'.len],fun i av hi=>by
 have e:=h.len
 by_cases hl:i<a.length
 ·rw [List.getElem?_append_left hl] at hi
  have:=h.at_ i av hi;rwa [List.getD_eq_getElem?_getD,List.getElem?_append_left (by omega),← List.getD_eq_getElem?_getD]
 ·rw [List.getElem?_append_right (by omega)] at hi
  have:=h'.at_ _ av hi;rwa [List.getD_eq_getElem?_getD,List.getElem?_append_right (by omega),← e,← List.getD_eq_getElem?_getD]⟩
theorem VL.vs{K:ao}{row:List AV}{cs:Array Value}(h:VL K row cs.toList):Vs K row cs:=⟨by simpa using h.len,fun i av hi=>by simpa [Array.getD_eq_getD_getElem?] using h.at_ i av hi⟩
theorem VL.agg{K:ao}{row:List AV}{cs:Array Value}(h:VL K row cs.toList):V K (.agg row) (.agg cs):=.agg _ _ h.vs.size h.vs.at_
section
variable(P:Program)(W:World)(G:Nat→Option (List AV))
def jZ(t:TypeId){α:Type}(row:α→List AV)(ok:α→Prop):Prop:=
 ∀ (H:Type) (enc:TypeId×Value→H) (spare:Nat→Bool) (fuel:Nat) (cs:List Value) (x:DataW H×List MemPlace),DataW.trod enc P W 0 spare true fuel t cs=some x→(∀ n∈DataW.weights P t x.1,n≤reachBytes)→∃ a,ok a∧VL (ao.start W G) (row a) cs
def ED(fl:List (Nat×TypeId))(off w:Nat){α:Type}(row:α→List AV)(ok:α→Prop):Prop:=
 ∀ (H:Type) (enc:TypeId×Value→H) (spare:Nat→Bool) (fuel:Nat) (cs:List Value),
  (∀ (i:Nat) (f:Nat×TypeId),fl[i]?=some f→∃ x,DataW.trod enc P W 0 spare true fuel f.2 ((cs.drop f.1).take (P.cellsOf f.2))=some x∧∀ n∈DataW.weights P f.2 x.1,n≤reachBytes)→cs.length=off+w→∃ a,ok a∧VL (ao.start W G) (row a) (cs.drop off)
def fieldsOf(t:TypeId):Option (List (Nat×TypeId)):=
 match P.underlying t with
 |some (.struct fs)=>some (fs.toList.map fun f=>(f.offset,f.type))
 |_=>none
end
section
variable{P:Program}{W:World}{G:Nat→Option (List AV)}
theorem xP{t:TypeId}(ht:P.underlying t=some .string):jZ P W G t Im (fun s=>s.length≤bH):=fun H enc spare fuel cs x h hw=>by
 obtain ⟨s,rfl,rfl,hs⟩:=DataW.trod_string ht h;exact ⟨s.data.toList,by simpa [reachBytes] using hw s.data.toList.length (by simp [DataW.weights]),VL.one (.str _)⟩
theorem KQ{t:TypeId}(ht:P.underlying t=some (.int .i64)):jZ P W G t cK I64:=fun H enc spare fuel cs x h _=>by
 obtain ⟨n,rfl,_,hn⟩:=DataW.trod_int ht h;refine ⟨n, ?_,VL.one (.int _ _)⟩;simp only [Lit.wf] at hn;revert hn;simp [IntKind.has,IntKind.min,IntKind.max,IntKind.bits,IntKind.signed,I64]
theorem Jm{t:TypeId}{k:IntKind}(ht:P.underlying t=some (.int k)):jZ P W G t (fun n:Int=>[.int k n]) (fun n=>k.min≤n∧n≤k.max):=fun H enc spare fuel cs x h _=>by
 obtain ⟨n,rfl,_,hn⟩:=DataW.trod_int ht h;exact ⟨n,by simpa [Lit.wf,IntKind.has] using hn,VL.one (.int _ _)⟩
theorem A7{t:TypeId}(ht:P.underlying t=some .bool):jZ P W G t (fun b:Bool=>[.bool b]) (fun _=>True):=fun H enc spare fuel cs x h _=>by
 obtain ⟨n,rfl,_⟩:=DataW.trod_bool ht h;exact ⟨n,trivial,VL.one (.bool _)⟩
theorem rL(off:Nat):ED P W G [] off 0 (fun _:Unit=>[]) (fun _=>True):=fun H enc spare fuel cs _ hl=>⟨(),trivial,by
 rw [List.drop_of_length_le (by omega)];exact VL.nil _⟩
theorem gn{t:TypeId}{fl:List (Nat×TypeId)}{off w1 w2:Nat}{α β:Type}{row1:α→List AV}{row2:β→List AV}{ok1:α→Prop}{ok2:β→Prop}
  (h1:jZ P W G t row1 ok1) (hw:P.cellsOf t=w1) (h2:ED P W G fl (off+w1) w2 row2 ok2):ED P W G ((off,t)::fl) off (w1+w2) (fun a:α×β=>row1 a.1++row2 a.2) (fun a=>ok1 a.1∧ok2 a.2):=fun H enc spare fuel cs hf hl=>by
 obtain ⟨x,hx,hxw⟩:=hf 0 (off,t) rfl;obtain ⟨a,ha,va⟩:=h1 H enc spare fuel _ x hx hxw;obtain ⟨b,hb,vb⟩:=h2 H enc spare fuel cs (fun i f hi=>hf (i+1) f (by simpa using hi)) (by omega);refine ⟨(a,b),⟨ha,hb⟩, ?_⟩;have:=va.append vb;simp only [hw] at this;have e:(cs.drop off).take w1++cs.drop (off+w1)=cs.drop off:=by rw [← List.drop_drop,List.take_append_drop]
 rwa [e] at this
theorem nY{t:TypeId}{fl:List (Nat×TypeId)}{w:Nat}{α S:Type}{row:α→List AV}{ok:α→Prop}{rowS:S→List AV}{okS:S→Prop}(hf:fieldsOf P t=some fl)(hw:P.cellsOf t=w)
  (h:ED P W G fl 0 w row ok) (φ:α→S) (hr:∀ a,rowS (φ a)=row a) (ho:∀ a,ok a→okS (φ a)):jZ P W G t rowS okS:=fun H enc spare fuel cs x hx hw0=>by
 unfold fieldsOf at hf;split at hf
 ·rename_i fs ht
  simp only [Option.some.injEq] at hf;subst hf;obtain ⟨xs,n,_,rfl,hl,hxl,hat⟩:=DataW.trod_struct ht hx
  obtain ⟨a,ha,va⟩:=h H enc spare n cs (fun i f hi=>by
   rw [List.getElem?_map] at hi;cases hfi:fs.toList[i]? with
   |none=>rw [hfi] at hi;cases hi
   |some g=>
    rw [hfi] at hi;obtain rfl:(g.offset,g.type)=f:=by simpa using hi
    have hg:fs[i]?=some g:=by simpa using hfi
    have:=hat i g hg;have hlt:i<xs.length:=by rw [hxl];exact (Array.getElem?_eq_some_iff.1 hg).1
    rw [List.getElem?_eq_getElem hlt] at this;refine ⟨_,this,fun n hn=>hw0 n ?_⟩;simp only [DataW.weights,ht];exact DataW.weights_mem_each (j:=i) (t:=g.type) (d:=xs[i].1) (by simp [hfi]) (by simp [List.getElem?_eq_getElem hlt]) n hn) (by omega)
  exact ⟨φ a,ho a ha,by rw [hr];simpa using va⟩
 ·cases hf
theorem Jn{α:Type}{p:Nat→α→Prop}:∀ (n:Nat),(∀ i,i<n→∃ a,p i a)→∃ l:List α,l.length=n∧∀ i a,l[i]?=some a→p i a
 |0,_=>⟨[],rfl,fun i a h=>by simp at h⟩
 |n+1,h=>by
  obtain ⟨l,h1,h2⟩:=Jn n (fun i hi=>h i (by omega));obtain ⟨a,ha⟩:=h n (by omega);refine ⟨l++[a],by simp [h1],fun i b hi => ?_⟩
  by_cases hl:i<l.length
  ·rw [List.getElem?_append_left hl] at hi;exact h2 i b hi
  ·rw [List.getElem?_append_right (by omega)] at hi
   have:i-l.length=0:=by
    cases hq:i-l.length with
    |zero=>rfl
    |succ k=>rw [hq] at hi;simp at hi
   rw [this] at hi;obtain rfl:a=b:=by simpa using hi
   have:i=n:=by omega
   subst this;exact ha
theorem EE{n:Nat}(h:Nat.blt 0 n=true):0<n:=by rwa [Nat.blt_eq] at h
theorem A8{H:Type}{P:Program}{e:TypeId}{n:Nat}:∀ {l:List (DataW H)}{d:DataW H},d∈l→n∈DataW.weights P e d→n∈DataW.weightsAll P e l
 |x::l,d,hd,hn=>by
  simp only [DataW.weightsAll,List.mem_append];rcases List.mem_cons.1 hd with rfl | h
  ·exact .inl hn
  ·exact .inr (A8 h hn)
theorem wR{t e:TypeId}{α:Type}{row:α→List AV}{ok:α→Prop}{sz:Nat}(ht:P.underlying t=some (.slice e))(hsz:P.cellsOf e=sz)(hpos:0<sz)(hby:0<P.bytesOf e)(hrow:∀ a,(row a).length=sz)(he:jZ P W G e row ok) :
  jZ P W G t (fun s:Sl α=>[.slice s.tag sz (s.l.map row)]) (fun s=>s.ok 0 ok∧(s.tag = .nil∧s.l=[]∨s.tag = .some)):=fun H enc spare fuel cs x h hw0=>by
 rcases Go.Deep.open_slice ht h with ⟨rfl,_⟩ | ⟨a,len,cap,m,n,D,Pl,rfl,hb,hl,hcap,hm,rfl,hel⟩
 ·exact ⟨⟨.nil,[]⟩,⟨⟨trivial,by simp,fun x hx=>by cases hx⟩,.inl ⟨rfl,rfl⟩⟩,VL.one (.slice0 _ _ _ (by simp))⟩
 ·rw [hsz] at hel
  have hlm:len≤m:=by rw [hm];split<;>omega
  have hww:∀ i,i<m→∀ n∈DataW.weights P e (D i),n≤reachBytes:=fun i hi n hn=>hw0 n (by
   simp only [DataW.weights,ht,List.mem_cons,List.mem_append];right
   by_cases hlt:i<len
   ·left;exact A8 (List.mem_map.2 ⟨i,List.mem_range.2 hlt,rfl⟩) hn
   ·right;exact A8 (List.mem_map.2 ⟨i-len,List.mem_range.2 (by omega),by rw [show len+(i-len)=i by omega]⟩) hn)
  have hlb:len≤reachBytes:=by
   have:=hw0 ((((List.range len).map D).length+((List.range (m-len)).map fun j=>D (len+j)).length)*P.bytesOf e) (by simp only [DataW.weights,ht];exact List.mem_cons_self);simp only [List.length_map,List.length_range] at this;have h2:len*1≤(len+(m-len))*P.bytesOf e:=Nat.mul_le_mul (by omega) hby;omega
  obtain ⟨l,hll,hat⟩:=Jn (α:=α) (p:=fun i a'=>ok a'∧∃ cs',W.cells? 0 (a.add (i*sz)) sz=some cs'∧VL (ao.start W G) (row a') cs') len (fun i hi=>by
   obtain ⟨cs',h1,h2⟩:=hel i (by omega);obtain ⟨a',h3,h4⟩:=he H enc spare n cs' _ h2 (hww i (by omega));exact ⟨a',h3,cs',h1,h4⟩)
  refine ⟨⟨.some,l⟩,⟨⟨trivial,by rw [hll];exact hlb,fun x hx => ?_⟩,.inr rfl⟩,VL.one ?_⟩
  ·obtain ⟨i,hi⟩:=List.getElem?_of_mem hx
   exact (hat i x hi).1
  ·obtain ⟨b,o,spot⟩:=a
   cases l with
   |nil=>
    have:len=0:=by simpa using hll.symm
    subst this;exact .sliceAny .some _ _ _ (.inr ⟨rfl,by simp⟩)
   |cons a0 l0=>
    obtain ⟨_,cs0,hc0,hv0⟩:=hat 0 a0 rfl;obtain ⟨_,hcl,hcat⟩:=World.cells?_some hc0
    have hsp:spot=none:=by
     have h0:=hcat 0 hpos;rw [List.getElem?_eq_getElem (by omega)] at h0;simpa [Addr.add] using World.cell?_spot h0
    subst hsp;have hlen:len=((a0::l0).map row).length:=by simpa using hll.symm
    rw [hlen]
    have key:∀ (i:Nat) (r:List AV),((a0::l0).map row)[i]?=some r→∃ cs',VL (ao.start W G) r cs'∧∀ j,j<sz→W.cell? ⟨b,o+i*sz+j,none⟩=cs'[j]? := fun i r hi=>by
     rw [List.getElem?_map] at hi;cases hai:(a0::l0)[i]? with
     |none=>rw [hai] at hi;cases hi
     |some ai=>
      rw [hai] at hi;obtain rfl:row ai=r:=by simpa using hi
      obtain ⟨_,cs',hc,hv⟩:=hat i ai hai;obtain ⟨_,hcl',hcat'⟩:=World.cells?_some hc;refine ⟨cs',hv,fun j hj => ?_⟩;rw [← hcat' j hj];congr 1;unfold Addr.add
      by_cases h1:i*sz=0<;>by_cases h2:j=0<;>simp [h1,h2,Nat.add_assoc]
    refine .slice .some sz _ b o cap (fun i j=>(W.cell? ⟨b,o+i*sz+j,none⟩).getD undef) (fun r hr => ?_) (fun i j r av hi hj => ?_) (fun i j r av hi hj => ?_) (by rw [← hlen];exact hl) trivial
    ·obtain ⟨a',_,rfl⟩:=List.mem_map.1 hr
     exact hrow a'
    ·obtain ⟨cs',hv,hc⟩:=key i r hi
     have hjl:j<r.length:=(List.getElem?_eq_some_iff.1 hj).1
     have hrl:r.length=sz:=by
      obtain ⟨a',_,rfl⟩:=List.mem_map.1 (List.mem_of_getElem? hi);exact hrow a'
     show W.cell? _=_;have hcj:=hc j (by omega);rw [hcj,List.getElem?_eq_getElem (by rw [← hv.len];omega)];rfl
    ·obtain ⟨cs',hv,hc⟩:=key i r hi
     have hjl:j<r.length:=(List.getElem?_eq_some_iff.1 hj).1
     have hrl:r.length=sz:=by
      obtain ⟨a',_,rfl⟩:=List.mem_map.1 (List.mem_of_getElem? hi);exact hrow a'
     have:=hv.at_ j av hj;rw [hc j (by omega),← List.getD_eq_getElem?_getD];exact this
theorem A9{t:TypeId}{α:Type}{row:α→List AV}{ok ok':α→Prop}(h:jZ P W G t row ok)(hm:∀ a,ok a→ok' a):jZ P W G t row ok':=fun H enc spare fuel cs x hh hw=>
 let ⟨a,h1,h2⟩:=h H enc spare fuel cs x hh hw;⟨a,hm a h1,h2⟩
theorem yM{t e:TypeId}{α:Type}{row:α→List AV}{ok:α→Prop}{sz:Nat}(ht:P.underlying t=some (.slice e))(hsz:P.cellsOf e=sz)(hpos:0<sz)(hby:0<P.bytesOf e)(hrow:∀ a,(row a).length=sz)(he:jZ P W G e row ok) :
  jZ P W G t (fun s:Sl α=>[.slice s.tag sz (s.l.map row)]) (fun s=>s.ok 0 ok):=A9 (wR ht hsz hpos hby hrow he) fun _ h=>h.1
theorem OS{t:TypeId}{fl:List (Nat×TypeId)}{r:Reach}{b:Nat}{v:Value}(hf:fieldsOf P t=some fl)(h:Value.okWide P W r b t v):∃ cs,v = .agg cs:=by
 unfold fieldsOf at hf;split at hf
 ·rename_i fs ht
  simp only [Value.okWide,ht] at h;obtain ⟨cs,rfl,_⟩:=h;exact ⟨cs,rfl⟩
 ·cases hf
theorem KR{t e:TypeId}{r:Reach}{b:Nat}{v:Value}(ht:P.underlying t=some (.slice e))(h:Value.okWide P W r b t v):∃ a l c,v = .slice a l c:=by
 simp only [Value.okWide,ht,Cell.okWide,Cell.ok] at h;split at h<;>first | exact ⟨_,_,_,rfl⟩ | (simp_all;done) | cases h
theorem OT{t:TypeId}{k:IntKind}{r:Reach}{b:Nat}{v:Value}(ht:P.underlying t=some (.int k))(h:Value.okWide P W r b t v):∃ n,v = .int k n:=by
 simp only [Value.okWide,ht,Cell.okWide,Cell.ok] at h;split at h<;>first | (obtain ⟨rfl,_⟩:=h;simp_all;done) | (simp_all;done) | cases h
theorem Ba{H:Type}{enc:TypeId×Value→H}{spare:Nat→Bool}{t:TypeId}{α:Type}{row:α→List AV}{ok:α→Prop}(ho:jZ P W G t row ok){v:Value}{d:DataW H}{ps:List MemPlace}
  (h:DataW.Trod enc P W 0 spare true t v d ps) (hw:∀ n∈DataW.weights P t d,n≤reachBytes):∃ a,ok a∧VL (ao.start W G) (row a) v.cells.toList:=by
 obtain ⟨fuel,hf⟩:=h;exact ho H enc spare fuel _ _ hf hw
end
end Go.Am
end
section
namespace Go.Am
open Go.RowKit
def ff:FuncId:=5
def gq:FuncId:=6
def bK:FuncId:=7
def Iq:FuncId:=8
def pY:FuncId:=11
def bW:FuncId:=12
def jt:FuncId:=13
def ir:FuncId:=14
def nr:FuncId:=16
def lA:FuncId:=19
def eT:FuncId:=21
def Gp:FuncId:=22
def bp:FuncId:=23
def dR:FuncId:=24
def dS:FuncId:=25
def CB:FuncId:=26
def wT:FuncId:=27
def Bb:FuncId:=28
def tI:FuncId:=29
def EF:FuncId:=30
def rM:FuncId:=31
def qm:FuncId:=35
def bX:FuncId:=36
def pZ:FuncId:=37
def eJ:FuncId:=38
def fg:FuncId:=39
def br:FuncId:=40
def iV:FuncId:=41
def nZ:FuncId:=42
def ky:FuncId:=43
def mR:FuncId:=44
def dJ:FuncId:=49
def oc:FuncId:=50
def CC:FuncId:=53
def qU:FuncId:=54
def gI:FuncId:=55
def oW:FuncId:=56
def dY:FuncId:=57
def qn:FuncId:=58
def tJ:FuncId:=59
def lB:FuncId:=60
def fC:FuncId:=61
def eK:FuncId:=62
def wU:FuncId:=63
def yN:FuncId:=64
def y8:FuncId:=65
def wV:FuncId:=66
def Bc:FuncId:=67
def lC:FuncId:=68
def gu:FuncId:=69
def CD:FuncId:=70
def ej:FuncId:=71
def dK:FuncId:=72
def jh:FuncId:=73
def bS:FuncId:=74
def eP:FuncId:=75
def od:FuncId:=78
def mS:FuncId:=79
def gW:FuncId:=80
def gJ:FuncId:=81
def vy:FuncId:=82
def oe:FuncId:=83
def my:FuncId:=84
def bN:FuncId:=91
def oX:FuncId:=92
def b7:FuncId:=94
def y9:FuncId:=95
def vz:FuncId:=96
def j6:FuncId:=97
def uO:FuncId:=98
def sE:FuncId:=99
def oY:FuncId:=100
def fJ:FuncId:=101
def dL:FuncId:=102
def el:FuncId:=103
def fb:FuncId:=104
def CE:FuncId:=105
def vA:FuncId:=106
def nd:FuncId:=107
def mz:FuncId:=108
def cU:FuncId:=109
def iW:FuncId:=110
def fX:FuncId:=111
def EG:FuncId:=112
def za:FuncId:=113
def zb:FuncId:=114
def CF:FuncId:=115
def dh:FuncId:=116
def di:FuncId:=117
def dj:FuncId:=118
def dU:FuncId:=120
def rN:FuncId:=121
def en:FuncId:=122
def ju:FuncId:=123
def jv:FuncId:=124
def jw:FuncId:=125
def jx:FuncId:=126
def jy:FuncId:=127
def rO:FuncId:=128
def qo:FuncId:=129
def cW:FuncId:=133
def jU:FuncId:=134
def nu:FuncId:=135
def nS:FuncId:=136
def oh:FuncId:=137
def rP:FuncId:=138
def om:FuncId:=139
def lD:FuncId:=140
def lE:FuncId:=141
def EH:FuncId:=144
def rQ:FuncId:=145
def zd:FuncId:=146
def kq:FuncId:=147
def lZ:FuncId:=148
def p6:FuncId:=149
def eo:FuncId:=152
def eL:FuncId:=153
def fK:FuncId:=154
def iX:FuncId:=155
def nT:FuncId:=156
def qp:FuncId:=157
def uP:FuncId:=161
def ep:FuncId:=162
def cA:FuncId:=163
def nv:FuncId:=164
def bY:FuncId:=169
def kR:FuncId:=170
def uQ:FuncId:=177
def kr:FuncId:=178
def dk:FuncId:=185
def Q8:TypeId:=1
def mh:TypeId:=3
def Bd:TypeId:=4
def EI:TypeId:=5
def aP:TypeId:=9
def zO:TypeId:=21
def al:TypeId:=22
def aY:TypeId:=26
def lF:TypeId:=37
def ag:TypeId:=39
def jz:TypeId:=40
def qV:TypeId:=41
def aN:TypeId:=53
def ny:TypeId:=54
def aU:TypeId:=56
def nz:TypeId:=58
def ah:TypeId:=60
def gv:TypeId:=66
def Gq:TypeId:=67
def Dv:TypeId:=72
def p7:TypeId:=83
def ze:TypeId:=92
def aV:TypeId:=94
def aZ:TypeId:=115
def cD:TypeId:=123
def dF:TypeId:=128
def fp:TypeId:=137
def fD:TypeId:=141
def dV:TypeId:=145
def mA:TypeId:=162
def tK:TypeId:=164
def oq:TypeId:=166
def cq:TypeId:=180
def oZ:TypeId:=190
end Go.Am
end
section
set_option maxRecDepth 100000
namespace Go.Am
open Go.RowKit Sh
def bA:AC:=
 (Q (Q (Q (O [m 59 13,m 60 7,ls 61 60,bl 62 59 61]) (Y [2,3,7,9,11,12,13,62])) (C 62 X (.exit 2))) (Q (.block 3 (Q (O [m 65 12,m 66 65,h 67 66 (.mv (t 7)),h 68 66 (.mv
 (t 13)),h 69 66 (.ias 2 (t 67) (t 68)),h 70 66 (.fa 0 (t 69)),h 71 66 (.ld none (t 70)),h 72 66 (.mv (t 11)),h 73 66 (.ar .eql (t 71) (t 72)),pt 74 66 73,m 12 74]) (Y [2,3,
 7,9,11,12,13]))) (ic 63 13 64)))
def bQ:AC:=
 (Q (Q (Q (O [m 52 11,fa 53 0 3,ld 54 53,ls 55 54,bl 56 52 55]) (Y [2,3,7,9,11,56])) (C 56 X (.exit 0))) (Q (Q (.block 1 (Q (O [mc 12 F]) (Q (Q (O [mc 13 (i 0)]) (Q (.block
 2 (lo [2,3,7,9,11,12,13] bA)) (Y [2,3,7,9,11,12]))) (Q (Q (O [m 75 12,fa 76 0 3,ld 77 76,m 78 11,ia 79 2 77 78,fa 80 0 79,ld 81 80,ac
 82 .eql 81 (u 6),o 83 (.eq false .bool (t 75) (t 82))]) (Y [2,3,7,9,11,83])) (C 83 (rt 6 F) X))))) (Y [2,3,7,9,11])) (ic 57 11 58)))
def fh:AC:=
 (Q (O [o 3 (.bx ag (t 0)),mc 6 F]) (Q (Q (Q (O [la 17 1 3,k1 18 jt 17,m 19 18,h 20 19 (.mv (t 1)),⟨(some 21),(some (19,false)),(.call (.c (.fn
 (.func ir) [] [])) [(.t 20)])⟩,pt 22 19 21]) (Y [1,2,3,22])) (C 22 (Q (O [k 23 (f bK) [],m 6 23]) R) X)) (Q (Q (O [la 25 1 3,m 26 1,k2
 27 nr 25 26,m 24 27,ex 28 24 0,ex 29 24 1,m 7 28,m 8 29]) (Y [2,3,7,8])) (Q (Q (O [m 30 8,ac 31 .neq 30 (u 0)]) (C 31 (Q (Q (O [m 32 7,ls 33 32,ac 34 .eql 33
 (i 0),m 35 34,⟨(some 36),(some (35,true)),(.call (.c (.fn (.func bK) [] [])) [])⟩,pf 37 35 36,m 6 37]) (Y [6])) R) X)) (Q (Q (O [la 39 1 3,m 40 7,k2 41
 lA 39 40,m 38 41,ex 42 38 0,ex 43 38 1,o 9 (.nw [(.slice .nil 2 [])] ag),n (.st 1 (t 9) (t 42)),m 10 43]) (Y [2,3,7,9,10])) (Q (Q (Q (O [m 44 10,
 ac 45 .neq 44 (u 0),m 46 45,h 47 46 (.ld (some 1) (t 9)),h 48 46 (.ld (some 1) (t 3)),⟨(some 49),(some (46,false)),(.call (.c (.fn (.func eT) [] [])) [(.t
 47),(.t 48)])⟩,h 50 46 (.un .not (t 49)),pt 51 46 50]) (Y [2,3,7,9,51])) (C 51 (rt 6 F) X)) (Q (Q (O [mc 11 (i 0)]) (Q (.block 0 (lo [2,3,7,9,11]
 bQ)) (Y [2,3,7,9]))) (Q (Q (O [m 84 7,ls 85 84,ac 86 .lss 85 (i 2)]) (C 86 (Q (O [k 87 (f bK) [],m 6 87]) R) X)) (Q (Q (O [m 88
 2,m 89 7,ls 90 89,ac 91 .sub 90 (i 1),ar 92 .rem 88 91,m 93 7,ls 94 93,ar 95 .add 92 94,ac 96 .sub 95 (i 1),m 97 7,ls 98 97,ac 99 .sub 98 (i 1),ar 100 .rem 96 99,m 14
 100]) (Y [3,7,9,14])) (Q (Q (Q (D [Pm 101 7,Pm 102 14,P (ia 103 2 101 102),Pf 104 0 103,Wl 105 104,Pm 106 7,Pm 107 14,P (ad 108 107),P (ia 109 2 106 108),Pf 110 0 109,
 Wl 111 110,P (ar 112 .neq 105 111)]) (Y [3,7,9,14,112])) (C 112 (Q (O [k 113 (f bK) [],m 6 113]) R) X)) (Q (Q (D [Pm 115 7,Pm 116 14,P (ia 117 2 115 116),
 Pf 118 1 117,Wl 119 118,Pm 120 7,Pm 121 14,P (ad 122 121),P (ia 123 2 120 122),Pf 124 1 123,Wl 125 124,P (o 126 (.bs 1 [(.slice .nil 0 [])] 2 [(0,(t 119)),(1,(t 125))])),
 E (k1 127 pY 126),Pm 114 127,P (ex 128 114 0),P (ex 129 114 1),Pm 15 128,Pm 8 129]) (Y [3,7,8,9,14,15])) (Q (Q (O [m 130 8,ac 131 .neq 130 (u 0)]) (C 131 (rt 6
 F) X)) (Q (Q (O [o 132 (.bs 2 [(.int .i64 0),(.slice .nil 0 [])] 0 []),m 133 7,m 134 14,o 135 (.sll 2 (t 133) none (some (t 134)) none),o 136 (.ap false aN 2 32
 false (t 132) (t 135)),m 16 136]) (Y [3,7,9,14,15,16])) (Q (Q (O [m 137 16,m 138 7,m 139 14,ia 140 2 138 139,fa 141 0 140,ld 142 141,m 143 15,o 144 (.bd [(.int .i64 0),
 (.slice .nil 3 [])] [(0,1),(1,1)] [(0,(t 142)),(1,(t 143))]),o 145 (.bs 2 [(.int .i64 0),(.slice .nil 0 [])] 1 [(0,(t 144))]),o 146 (.ap false aN 2 32 false (t
 137) (t 145)),m 16 146]) (Y [3,7,9,14,16])) (Q (Q (O [m 147 16,m 148 7,m 149 14,ac 150 .add 149 (i 2),o 151 (.sll 2 (t 148) (some (t 150)) none none),o 152 (.ap false
 aN 2 32 false (t 147) (t 151)),m 16 152]) (Y [3,9,16])) (Q (Q (O [la 154 1 3,m 155 16,k2 156 lA 154 155,m 153 156,ex 157 153 0,ex 158 153 1,n (.st 1
 (t 9) (t 157)),m 10 158]) (Y [3,9,10])) (Q (Q (O [m 159 10,ac 160 .eql 159 (u 0),m 161 160,g 162 161 (.ld (some 1) (t 9)),g 163 161 (.ld (some 1) (t 3)),⟨(some 164),(some
 (161,true)),(.call (.c (.fn (.func eT) [] [])) [(.t 162),(.t 163)])⟩,pf 165 161 164,m 166 165,⟨(some 167),(some (166,true)),(.call (.c (.fn (.func
 bK) [] [])) [])⟩,pf 168 166 167,m 6 168]) (Y [6])) R)))))))))))))))))
def bM:AFn:=⟨fh,169,[.t 6],.drop,[],none⟩
theorem aO:qf bM [.t 6] .drop:=⟨rfl,rfl,rfl⟩
def dA:AC:=
 (Q (Q (Q (O [m 19 5,m 20 0,m 21 4,ia 22 1 20 21,ld 23 22,ls 24 23,bl 25 19 24,m 26 25,g 27 26 (.mv (t 3)),g 28 26 (.ar .lss (t 27) (i 5000)),pf 29 26 28]) (Y [0,3,4,5,
 29])) (C 29 X (.exit 2))) (Q (.block 3 (Q (O [m 32 3,m 33 0,m 34 4,ia 35 1 33 34,ld 36 35,m 37 5,ia 38 3 36 37,fa 39 1 38,ld 40 39,lt 41 40,ar 42 .add 32 41,m 3 42]) (Y
 [0,3,4,5]))) (ic 30 5 31)))
def eu:AC:=
 (Q (Q (Q (O [m 6 4,m 7 0,ls 8 7,bl 9 6 8]) (Y [0,3,4,9])) (C 9 X (.exit 0))) (Q (Q (.block 1 (Q (Q (O [m 12 3,m 13 0,m 14 4,ia 15 1 13 14,ld 16 15,ls 17 16,ar 18 .add 12
 17,m 3 18]) (Y [0,3,4])) (Q (O [mc 5 (i 0)]) (Q (.block 2 (lo [0,3,4,5] dA)) (Y [0,3,4]))))) (Y [0,3,4])) (ic 10 4 11)))
def jA:AC:=
 (Q (O [mc 2 F]) (Q (O [mc 3 (i 0)]) (Q (Q (O [mc 4 (i 0)]) (Q (.block 0 (lo [0,3,4] eu)) (Y [3]))) (Q (O [m 43 3,ac 44 .gtr 43 (i 2500),m 2 44]) R))))
def dm:AFn:=⟨jA,45,[.t 2],.drop,[],none⟩
theorem dW:qf dm [.t 2] .drop:=⟨rfl,rfl,rfl⟩
def iO:AC:=
 (Q (O [bl 23 22 21]) (Q (C 23 X (.exit 0)) (Q (.block 1 (Q (O [ia 24 1 20 22,ld 25 24,m 5 25]) (Q (O [m 26 5,k1 27 bX 26,m 6 27]) (Q (O [m 28 6,ac 29 .neq 28 (u
 0)]) (C 29 (Q (O [m 30 6,mc 2 (.c (.slice .nil 3 [])),m 3 30]) R) X))))) (O [ad 31 22,m 22 31]))))
def iP:AC:=
 (Q (Q (Q (O [m 32 7,m 33 0,ls 34 33,bl 35 32 34]) (Y [0,7,35])) (C 35 X (.exit 2))) (Q (.block 3 (Q (Q (O [m 39 0,m 40 7,ac 41 .sub 40 (i 1),ia 42 1 39 41,ld 43 42,k1 44
 pZ 43,m 38 44,ex 45 38 0,ex 46 38 1,m 8 45,m 9 46]) (Y [0,7,9])) (Q (Q (O [m 48 0,m 49 7,ia 50 1 48 49,ld 51 50,k1 52 pZ 51,m 47 52,ex 53 47 0,ex 54
 47 1,m 10 53,m 11 54]) (Y [0,7,9,10])) (Q (O [m 55 10,k1 56 eJ 55]) (Q (Q (O [m 57 9,m 58 10,k2 59 fg 57 58,no 60 59])
 (Y [0,7,60])) (C 60 (Q (O [mc 2 (.c (.slice .nil 3 [])),mc 3 (u 10)]) R) X)))))) (ic 36 7 37)))
def bL:AC:=
 (Q (O [bl 74 73 72]) (Q (C 74 X (.exit 6)) (Q (.block 7 (Q (Q (O [ia 75 3 71 73,la 76 3 75,o 16 (.nw [(.int .u8 0),(.str []),(.bool false)] ah),n (.st 3 (t 16) (t
 76))]) (Y [0,12,13,16,64,65,66,71,72,73])) (Q (Q (Q (O [fa 77 2 16,ld 78 77,m 79 78,g 80 79 (.fa 0 (t 16)),g 81 79 (.ld none (t 80)),g 82 79 (.ar .eql (t 81) (u 2)),g
 83 79 (.mv (t 82)),g 84 83 (.mv (t 13)),g 85 83 (.ar .gtr (t 84) (i 0)),g 86 79 (.pk (t 83) (t 85) F),g 87 79 (.mv (t 86)),h 88 87 (.fa 0 (t 16)),h 89 87 (.ld none (t 88)),h
 90 87 (.ar .eql (t 89) (u 3)),h 91 87 (.mv (t 90)),g 92 91 (.mv (t 13)),g 93 91 (.ar .add (t 92) (i 1)),g 94 91 (.mv (t 0)),g 95 91 (.len .sl (t 94)),g 96 91 (.ar .lss (t 93)
 (t 95)),h 97 87 (.pk (t 91) (t 96) F),g 98 79 (.pk (t 87) T (t 97)),pf 99 79 98]) (Y [0,12,13,16,64,65,66,71,72,73,99])) (C 99 (.exit 7) X)) (O [m 100 12,la 101 3 16,
 k2 102 br 100 101])))) (O [ad 103 73,m 73 103]))))
def ks:AC:=
 (Q (O [bl 67 66 65]) (Q (C 67 X (.exit 4)) (Q (Q (.block 5 (Q (Q (O [m 68 66,ia 69 1 64 66,ld 70 69,m 13 68,m 14 70]) (Y [0,12,13,14,64,65,66])) (Q (O [m 71 14,ls 72 71,
 mc 73 (i 0)]) (Q (.block 6 (lo [0,12,13,64,65,66,71,72,73] bL)) (Y [0,12,64,65,66]))))) (Y [0,12,64,65,66])) (O [ad 104 66,m 66 104]))))
def tL:AC:=
 (Q (O [mc 2 (.c (.slice .nil 3 [])),mc 3 (u 0)]) (Q (Q (O [m 17 0,ls 18 17,ac 19 .eql 18 (i 0)]) (C 19 (Q (O [mc 2 (.c (.slice .nil 3 [])),mc 3 (u 1)]) R) X)) (Q (Q (O [m 20 0,
 ls 21 20,mc 22 (i 0)]) (Q (.block 0 (lo [0,20,21,22] iO)) (Y [0]))) (Q (Q (O [mc 7 (i 1)]) (Q (.block 2 (lo [0,7] iP)) (Y [0]))) (Q (Q (O [o 61 (.bm
 al 1 [(.slice .nil 0 [])] 1 [(0,(.c (.slice .nil 3 [])))]),o 62 (.bd [(.slice .nil 1 []),(.slice .nil 1 []),(.int .i64 0),(.bool false),(.slice .nil 1 [])] [(0,
 1),(1,1),(2,1),(3,1),(4,1)] [(0,(t 61))]),o 63 (.bx aV (t 62)),m 12 63]) (Y [0,12])) (Q (Q (O [m 64 0,ls 65 64,mc 66 (i 0)]) (Q (.block 4 (lo [0,12,64,
 65,66] ks)) (Y [12]))) (Q (Q (Q (O [m 105 12,o 106 (.nc (t 105)),fa 107 0 106,ld 108 107,o 109 (.ias 1 (t 108) (i 0)),ld 110 109,ls 111 110,ac 112 .gtr 111 (i
 512)]) (Y [12,112])) (C 112 (Q (O [mc 2 (.c (.slice .nil 3 [])),mc 3 (u 3)]) R) X)) (Q (Q (O [m 113 12,o 114 (.nc (t 113)),fa 115 0 114,ld 116 115,o 117 (.ias 1 (t 116) (i
 0)),ld 118 117,m 2 118,mc 3 (u 0)]) (Y [2,3])) R))))))))
def dq:AFn:=⟨tL,119,[.t 2,.t 3],.deep,[18],none⟩
theorem b6:qf dq [.t 2,.t 3] .deep:=⟨rfl,rfl,rfl⟩
def cP:AC:=
 (Q (Q (Q (O [m 11 5,m 12 0,ls 13 12,bl 14 11 13]) (Y [0,1,5,14])) (C 14 X (.exit 0))) (Q (.block 1 (Q (Q (D [Pm 17 0,Pm 18 5,P (ia 19 3 17 18),W (la 20 3 19),Pm 21 1,Pm
 22 5,P (ia 23 3 21 22),W (la 24 3 23),P (o 25 (.eq true (.st [(0,(.int .u8)),(1,.str),(2,.bool)]) (t 20) (t 24)))]) (Y [0,1,5,25])) (C 25 (rt 4 F) X))) (ic 15 5 16)))
def fL:AC:=
 (Q (O [mc 4 F]) (Q (Q (Q (O [m 6 0,ls 7 6,m 8 1,ls 9 8,ar 10 .neq 7 9]) (Y [0,1,10])) (C 10 (rt 4 F) X)) (Q (Q (O [mc 5 (i 0)]) (Q (.block 0 (lo [0,1,5]
 cP)) (Y []))) (rt 4 T))))
def cE:AFn:=⟨fL,26,[.t 4],.drop,[],none⟩
theorem fM:qf cE [.t 4] .drop:=⟨rfl,rfl,rfl⟩
def cL:AC:=
 (Q (Q (Q (O [m 8 4,fa 9 0 1,ld 10 9,ls 11 10,bl 12 8 11,m 13 12,g 14 13 (.mv (t 4)),g 15 13 (.ar .lss (t 14) (i 300)),pf 16 13 15]) (Y [1,3,4,16])) (C 16 X (.exit 0))) (Q
 (.block 1 (Q (Q (Q (O [fa 19 0 1,ld 20 19,m 21 4,ia 22 2 20 21,fa 23 1 22,ld 24 23,o 25 (.bs 1 [(.slice .nil 0 [])] 1 [(0,(t 24))]),k1 26 gq 25]) (Y [1,3,
 4,26])) (C 26 (rt 2 T) X)) (Q (D [Pm 27 3,Pf 28 0 1,Wl 29 28,Pm 30 4,P (ia 31 2 29 30),Pf 32 1 31,Wl 33 32,W (ls 34 33),P (ar 35 .add 27 34),Pf 36 0 1,Wl 37 36,Pm 38 4,
 P (ia 39 2 37 38),Pf 40 1 39,Wl 41 40,K (k1 42 iV 41),W (lt 43 42),P (ar 44 .add 35 43),Pm 3 44]) (Y [1,3,4])))) (ic 17 4 18)))
def jB:AC:=
 (Q (O [o 1 (.bx ag (t 0)),mc 2 F]) (Q (Q (O [fa 5 0 1,ld 6 5,ls 7 6,m 3 7]) (Y [1,3])) (Q (Q (O [mc 4 (i 0)]) (Q (.block 0 (lo [1,3,4] cL)) (Y
 [3]))) (Q (O [m 45 3,ac 46 .gtr 45 (i 3500),m 2 46]) R))))
def eU:AFn:=⟨jB,47,[.t 2],.drop,[],none⟩
theorem dX:qf eU [.t 2] .drop:=⟨rfl,rfl,rfl⟩
def dG:AC:=
 (Q (Q (Q (O [m 7 4,m 8 0,ls 9 8,bl 10 7 9,m 11 10,g 12 11 (.mv (t 4)),g 13 11 (.ar .lss (t 12) (i 100)),pf 14 11 13]) (Y [0,3,4,14])) (C 14 X (.exit 0))) (Q (.block 1 (Q
 (D [Pm 17 3,Pm 18 0,Pm 19 4,P (ia 20 3 18 19),Pf 21 0 20,Wl 22 21,W (lt 23 22),P (ar 24 .add 17 23),Pm 25 0,Pm 26 4,P (ia 27 3 25 26),Pf 28 1 27,Wl 29 28,W (lt 30 29),
 P (ar 31 .add 24 30),Pm 3 31]) (Y [0,3,4]))) (ic 15 4 16)))
def iu:AC:=
 (Q (O [mc 2 F]) (Q (O [m 5 0,ls 6 5,m 3 6]) (Q (Q (O [mc 4 (i 0)]) (Q (.block 0 (lo [0,3,4] dG)) (Y [3]))) (Q (O [m 32 3,ac 33 .gtr 32 (i 600),m 2 33])
 R))))
def ew:AFn:=⟨iu,34,[.t 2],.drop,[],none⟩
theorem iv:qf ew [.t 2] .drop:=⟨rfl,rfl,rfl⟩
def gy:AC:=
 (Q (O [bl 55 54 53]) (Q (C 55 X (.exit 2)) (Q (.block 3 (Q (O [ia 56 1 52 54,ld 57 56,m 15 57]) (Q (O [m 58 9,m 59 10,m 60 15,o 61 (.bd [(.int .i64 0),(.slice .nil 3 [])] [(0,
 1),(1,1)] [(0,(t 59)),(1,(t 60))]),o 62 (.bs 2 [(.int .i64 0),(.slice .nil 0 [])] 1 [(0,(t 61))]),o 63 (.ap false aN 2 32 false (t 58) (t 62)),m 9 63]) (Y [7,
 9,10,30,31,32,52,53,54])))) (O [ad 64 54,m 54 64]))))
def ey:AC:=
 (Q (O [bl 33 32 31]) (Q (C 33 X (.exit 0)) (Q (Q (.block 1 (Q (Q (O [m 34 32,ia 35 2 30 32,la 36 2 35,o 11 (.nw [(.int .u8 0),(.slice .nil 3 [])] aU),m 10 34,n (.st 2
 (t 11) (t 36))]) (Y [7,9,10,11,30,31,32])) (Q (Q (O [fa 37 0 11,ld 38 37,ac 39 .eql 38 (u 6)]) (C 39 (.exit 1) X)) (Q (Q (D [Pf 41 1 11,Wl 42 41,Pm 43 7,Pf 44 1 11,Wl 45
 44,K (k2 46 mR 43 45),K (k2 47 rM 42 46),Pm 40 47,P (ex 48 40 0),P (ex 49 40 1),Pm 12 48,Pm 13 49]) (Y [7,9,10,12,13,30,31,32])) (Q (Q (O [m 50 13,
 no 51 50]) (C 51 (Q (O [mc 4 (.c (.slice .nil 2 [])),mc 5 (u 3)]) R) X)) (Q (O [m 52 12,ls 53 52,mc 54 (i 0)]) (Q (.block 2 (.loop ⟨(some [7,9,10,30,31,32,52,53,54]),
 [(9,2,aN)],false⟩ gy)) (Y [7,9,30,31,32])))))))) (Y [7,9,30,31,32])) (O [ad 65 32,m 32 65]))))
def nA:AC:=
 (Q (O [o 2 (.bx ag (t 0)),mc 4 (.c (.slice .nil 2 [])),mc 5 (u 0)]) (Q (Q (O [la 16 1 2,k1 17 nZ 16,m 6 17]) (Q (O [m 18 6,ac 19 .neq 18 (u 0)]) (C 19 (Q
 (O [m 20 6,mc 4 (.c (.slice .nil 2 [])),m 5 20]) R) X))) (Q (Q (O [m 22 1,k1 23 ky 22,m 21 23,ex 24 21 0,ex 25 21 1,m 7 24,m 8 25]) (Y [2,7,8])) (Q (Q (O [m
 26 8,ac 27 .neq 26 (u 0)]) (C 27 (Q (O [m 28 8,mc 4 (.c (.slice .nil 2 [])),m 5 28]) R) X)) (Q (O [mc 9 (.c (.slice .nil 2 []))]) (Q (Q (Q (O [fa 29 0 2,ld 30 29,ls 31 30,mc
 32 (i 0)]) (Y [7,9,30,31,32])) (Q (.block 0 (.loop ⟨(some [7,9,30,31,32]),[(9,2,aN)],true⟩ ey)) (Y [9]))) (Q (O [m 66 9,m 4 66,mc 5 (u 0)])
 R)))))))
def fi:AFn:=⟨nA,67,[.t 4,.t 5],.drop,[],none⟩
theorem dw:qf fi [.t 4,.t 5] .drop:=⟨rfl,rfl,rfl⟩
def bc:AC:=
 (Q (O [bl 30 29 28]) (Q (C 30 X (.exit 0)) (Q (.block 1 (Q (Q (O [m 31 29,ia 32 2 27 29,la 33 2 32,o 9 (.nw [(.int .i64 0),(.slice .nil 3 [])] aN),m 8 31,n (.st 2
 (t 9) (t 33))]) (Y [1,2,4,7,8,9,27,28,29])) (Q (Q (Q (D [Pm 34 8,P (ac 35 .gtr 34 (i 0)),Pm 36 35,P (g 37 36 (.mv (t 1))),P (g 38 36 (.mv (t 8))),P (g 39 36 (.ar .sub
 (t 38) (i 1))),P (g 40 36 (.ias 2 (t 37) (t 39))),P (g 41 36 (.fa 0 (t 40))),W (g 42 36 (.ld none (t 41))),P (g 43 36 (.fa 0 (t 9))),W (g 44 36 (.ld none (t 43))),P (g 45 36
 (.ar .gtr (t 42) (t 44))),P (pf 46 36 45),Pm 47 46,P (h 48 47 (.fa 0 (t 9))),W (h 49 47 (.ld none (t 48))),P (h 50 47 (.ar .lss (t 49) (i 0))),P (pt 51 47 50),Pm 52 51,P (h
 53 52 (.fa 0 (t 9))),W (h 54 52 (.ld none (t 53))),P (h 55 52 (.fa 0 (t 2))),W (h 56 52 (.ld none (t 55))),W (h 57 52 (.len .sl (t 56))),P (h 58 52 (.ar .geq (t 54) (t 57))),P
 (pt 59 52 58),Pm 60 59,P (h 61 60 (.fa 0 (t 2))),W (h 62 60 (.ld none (t 61))),P (h 63 60 (.fa 0 (t 9))),W (h 64 60 (.ld none (t 63))),P (h 65 60 (.ias 2 (t 62) (t 64))),P (h
 66 60 (.fa 0 (t 65))),W (h 67 60 (.ld none (t 66))),P (h 68 60 (.ar .eql (t 67) (u 6))),P (pt 69 60 68)]) (Y [1,2,4,7,9,27,28,29,69])) (C 69 (Q (O [o 70 (.bd [(.slice
 .nil 2 [])] [(0,1)] []),n (.st 1 (t 4) (t 70)),mc 5 (u 1)]) R) X)) (Q (.dops true [] [] [Pm 71 7,Pf 72 0 9,Wl 73 72,Pm 74 7,Pf 75 0 9,(ld 76 75,.quiet),P (ia 77 1 74 76),
 (ld 78 77,.quiet),Pf 79 1 9,(ld 80 79,.quiet),P (o 81 (.bs 1 [(.slice .nil 0 [])] 1 [(0,(t 80))])),K (o 82 (.ap false al 1 24 false (t 78) (t 81))),P (ia 83 1 71
 73),K (n (.st 1 (t 83) (t 82)))]) (Y [1,2,4,7,27,28,29]))))) (O [ad 84 29,m 29 84]))))
def eM:AC:=
 (Q (O [bl 89 88 87]) (Q (C 89 X (.exit 2)) (Q (.block 3 (Q (Q (O [m 90 88,ia 91 2 86 88,la 92 2 91,o 11 (.nw [(.int .u8 0),(.slice .nil 3 [])] aU),m 10 90,n (.st 2 (t
 11) (t 92))]) (Y [2,4,7,10,11,86,87,88])) (Q (Q (O [fa 93 0 11,ld 94 93,ac 95 .neq 94 (u 6),m 96 95,g 97 96 (.mv (t 7)),g 98 96 (.mv (t 10)),g 99 96 (.ias 1 (t 97) (t
 98)),g 100 96 (.ld none (t 99)),g 101 96 (.len .sl (t 100)),g 102 96 (.ar .eql (t 101) (i 0)),pf 103 96 102]) (Y [2,4,7,86,87,88,103])) (C 103 (Q (O [o 104 (.bd [(.slice
 .nil 2 [])] [(0,1)] []),n (.st 1 (t 4) (t 104)),mc 5 (u 1)]) R) X)))) (O [ad 105 88,m 88 105]))))
def cS:AC:=
 (Q (O [bl 110 109 108]) (Q (C 110 X (.exit 4)) (Q (.block 5 (Q (Q (O [m 111 109,ia 112 2 107 109,la 113 2 112,o 14 (.nw [(.int .u8 0),(.slice .nil 3 [])] aU),m 13 111,
 n (.st 2 (t 14) (t 113))]) (Y [4,7,12,13,14,107,108,109])) (Q (Q (O [fa 114 1 14,ld 115 114,k1 116 dJ 115,m 15 116]) (Y [4,7,12,13,14,
 15,107,108,109])) (Q (Q (O [fa 117 0 14,ld 118 117,ac 119 .neq 118 (u 6)]) (C 119 (Q (O [mc 16 (u 0)]) (Q (Q (Q (O [m 121 7,m 122 13,ia 123 1 121 122,ld 124 123,k1 125
 pY 124,m 120 125,ex 126 120 0,ex 127 120 1,m 15 126,m 16 127]) (Y [4,7,12,14,15,16,107,108,109])) (Q (O [m 128 16,ac 129 .neq 128 (u 0)]) (C 129 (Q (Q (O [o
 130 (.bd [(.slice .nil 2 [])] [(0,1)] []),m 131 16,n (.st 1 (t 4) (t 130)),m 5 131]) (Y [4,5])) R) X))) (Q (O [m 132 15,k1 133 oc 132,no 134 133]) (C 134 (Q (O [o
 135 (.bd [(.slice .nil 2 [])] [(0,1)] []),n (.st 1 (t 4) (t 135)),mc 5 (u 8)]) R) X)))) X)) (Q (O [fa 136 0 12,ld 137 136,fa 138 0 14,ld 139 138,m 140 15,o 141 (.bd [(.int
 .u8 0),(.slice .nil 3 [])] [(0,1),(1,1)] [(0,(t 139)),(1,(t 140))]),o 142 (.bs 2 [(.int .u8 0),(.slice .nil 0 [])] 1 [(0,(t 141))]),o 143 (.ap false aU 2 32
 false (t 137) (t 142)),fa 144 0 12,n (.st 1 (t 144) (t 143))]) (Y [4,7,12,107,108,109])))))) (O [ad 145 109,m 109 145]))))
def o9:AC:=
 (Q (O [o 2 (.bx ag (t 0)),o 4 (.nw [(.slice .nil 2 [])] ag),mc 5 (u 0)]) (Q (Q (O [la 17 1 2,k1 18 nZ 17,m 6 18]) (Q (O [m 19 6,ac 20 .neq 19
 (u 0)]) (C 20 (Q (Q (O [o 21 (.bd [(.slice .nil 2 [])] [(0,1)] []),m 22 6,n (.st 1 (t 4) (t 21)),m 5 22]) (Y [4,5])) R) X))) (Q (Q (O [fa 23 0 2,ld 24 23,ls 25 24,o 26 (.ms
 aY 24 [(.slice .nil 0 [])] (t 25) (t 25)),m 7 26]) (Y [1,2,4,7])) (Q (Q (O [m 27 1,ls 28 27,mc 29 (i 0)]) (Q (.block 0 (lo [1,2,4,7,27,28,29]
 bc)) (Y [2,4,7]))) (Q (Q (Q (O [fa 85 0 2,ld 86 85,ls 87 86,mc 88 (i 0)]) (Y [2,4,7,86,87,88])) (Q (.block 2 (lo [2,4,7,86,87,88] eM)) (Y
 [2,4,7]))) (Q (O [o 12 (.nw [(.slice .nil 2 [])] ag)]) (Q (Q (Q (O [fa 106 0 2,ld 107 106,ls 108 107,mc 109 (i 0)]) (Y [4,7,12,107,108,109])) (Q (.block 4 (lo
 [4,7,12,107,108,109] cS)) (Y [4,12]))) (Q (O [la 146 1 12,n (.st 1 (t 4) (t 146)),mc 5 (u 0)]) R))))))))
def ct:AFn:=⟨o9,147,[.cell 4 (some 1),.t 5],.deep,[1000010],none⟩
theorem aW:qf ct [.cell 4 (some 1),.t 5] .deep:=⟨rfl,rfl,rfl⟩
def eA:AC:=
 (Q (Q (Q (O [m 13 5,fa 14 0 2,ld 15 14,ls 16 15,bl 17 13 16]) (Y [2,3,5,17])) (C 17 X (.exit 0))) (Q (.block 1 (Q (Q (D [Pf 20 0 2,Wl 21 20,Pm 22 5,P (ia 23 2 21 22),Pf
 24 0 23,Wl 25 24,Pf 26 0 3,Wl 27 26,Pm 28 5,P (ia 29 2 27 28),Pf 30 0 29,Wl 31 30,P (ar 32 .neq 25 31),Pm 33 32,P (h 34 33 (.fa 0 (t 2))),W (h 35 33 (.ld none (t 34))),P
 (h 36 33 (.mv (t 5))),P (h 37 33 (.ias 2 (t 35) (t 36))),P (h 38 33 (.fa 1 (t 37))),W (h 39 33 (.ld none (t 38))),P (h 40 33 (.fa 0 (t 3))),W (h 41 33 (.ld none (t 40))),P (h
 42 33 (.mv (t 5))),P (h 43 33 (.ias 2 (t 41) (t 42))),P (h 44 33 (.fa 1 (t 43))),W (h 45 33 (.ld none (t 44))),E (⟨(some 46),(some (33,false)),(.call (.c (.fn (.func
 bW) [] [])) [(.t 39),(.t 45)])⟩),P (h 47 33 (.un .not (t 46))),P (pt 48 33 47)]) (Y [2,3,5,48])) (C 48 (rt 4 F) X))) (ic 18 5 19)))
def jC:AC:=
 (Q (O [o 2 (.bx ag (t 0)),o 3 (.bx ag (t 1)),mc 4 F]) (Q (Q (Q (O [fa 6 0 2,ld 7 6,ls 8 7,fa 9 0 3,ld 10 9,ls 11 10,ar 12 .neq 8 11]) (Y [2,3,12]))
 (C 12 (rt 4 F) X)) (Q (Q (O [mc 5 (i 0)]) (Q (.block 0 (lo [2,3,5] eA)) (Y []))) (rt 4 T))))
def eV:AFn:=⟨jC,49,[.t 4],.drop,[],none⟩
theorem jD:qf eV [.t 4] .drop:=⟨rfl,rfl,rfl⟩
def lG:AC:=
 (Q (O [o 31 (.nx (t 30)),ex 32 31 0]) (Q (C 32 X (.exit 3)) (.block 4 (Q (O [ex 33 31 2,m 10 33]) (Q (O [m 34 6,m 35 10,o 36 (.cvs (t 35)),o 37 (.bd [(.int .u8 0),(.str []),
 (.bool false)] [(0,1),(1,1),(2,1)] [(0,(u 1)),(1,(t 36))]),k2 38 dK 34 37]) (Y [6,15,16,17,30]))))))
def eB:AC:=
 (Q (O [bl 18 17 16]) (Q (C 18 X (.exit 0)) (Q (Q (.block 1 (Q (Q (O [ia 19 3 15 17,la 20 3 19,o 8 (.nw [(.int .u8 0),(.str []),(.bool false)] ah),n (.st 3 (t 8) (t
 20))]) (Y [6,8,15,16,17])) (Q (O [fa 21 0 8,ld 22 21]) (Q (.block 2 (Q (O [ac 27 .eql 22 (u 1),m 26 27]) (C 26 (Q (O [fa 28 1 8,ld 29 28,o 30 (.rg (t 29))]) (Q (.block 3 (lo
 [6,15,16,17,30] lG)) (Y [6,15,16,17]))) (Q (O [ac 40 .eql 22 (u 5),m 39 40]) (C 39 (O [m 41 6,la 42 3 8,k2 43 dK 41 42]) (O [m 23 6,la 24 3 8,
 k2 25 jh 23 24])))))) (Y [6,15,16,17]))))) (Y [6,15,16,17])) (O [ad 44 17,m 17 44]))))
def vB:AC:=
 (Q (O [mc 4 (.c (.slice .nil 1 [])),mc 5 F]) (Q (Q (O [o 11 (.bm al 1 [(.slice .nil 0 [])] 1 [(0,(.c (.slice .nil 3 [])))]),m 12 1,o 13 (.bd [(.slice .nil 1 []),
 (.slice .nil 1 []),(.int .i64 0),(.bool false),(.slice .nil 1 [])] [(0,1),(1,1),(2,1),(3,1),(4,1)] [(0,(t 11)),(1,(t 12))]),o 14 (.bx aV (t 13)),m 6 14])
 (Y [0,6])) (Q (Q (O [m 15 0,ls 16 15,mc 17 (i 0)]) (Q (.block 0 (lo [6,15,16,17] eB)) (Y [6]))) (Q (Q (D [Pm 45 6,P (o 46 (.nc (t 45))),Pf 47 0 46,Wl 48 47,Pm 49
 6,P (o 50 (.nc (t 49))),Pf 51 0 50,Wl 52 51,K (k 53 (f bS) [(t 52),(f eP)]),P (no 54 53),Pm 4 48,Pm 5 54]) (Y [4,5])) R))))
def iw:AFn:=⟨vB,55,[.t 4,.t 5],.deep,[1],none⟩
theorem kD:qf iw [.t 4,.t 5] .deep:=⟨rfl,rfl,rfl⟩
def bn:AC:=
 (Q (O [bl 13 12 11]) (Q (C 13 X (.exit 0)) (Q (.block 1 (Q (Q (O [m 14 12,ia 15 3 10 12,la 16 3 15,o 6 (.nw [(.int .u8 0),(.str []),(.bool false)] ah),m 5 14,n (.st
 3 (t 6) (t 16))]) (Y [0,3,4,5,6,10,11,12])) (Q (.block 2 (Q (Q (Q (O [fa 18 0 6,ld 19 18,ac 20 .lss 19 (u 1),m 21 20,h 22 21 (.fa 0 (t 6)),h 23 21 (.ld none (t 22)),h
 24 21 (.ar .gtr (t 23) (u 5)),pt 25 21 24,m 17 25]) (Y [0,3,4,5,6,10,11,12,17])) (C 17 X (Q (O [fa 26 2 6,ld 27 26,m 28 27,g 29 28 (.fa 0 (t 6)),g 30 28 (.ld none (t
 29)),g 31 28 (.ar .neq (t 30) (u 2)),pf 32 28 31,m 33 32,g 34 33 (.fa 0 (t 6)),g 35 33 (.ld none (t 34)),g 36 33 (.ar .neq (t 35) (u 3)),pf 37 33 36,m 17 37]) (Y [0,3,4,
 5,6,10,11,12,17])))) (C 17 (rt 2 (u 1)) (Q (Q (O [fa 39 0 6,ld 40 39,ac 41 .eql 40 (u 1),m 42 41,g 43 42 (.fa 1 (t 6)),g 44 42 (.ld none (t 43)),g 45 42 (.ar .eql (t 44)
 (s [])),g 46 42 (.mv (t 45)),h 47 46 (.fa 1 (t 6)),h 48 46 (.ld none (t 47)),⟨(some 49),(some (46,false)),(.call (.c (.fn (.func gI) [] [])) [(.t 48)])⟩,h 50 46
 (.un .not (t 49)),g 51 42 (.pk (t 46) T (t 50)),g 52 42 (.mv (t 51)),h 53 52 (.mv (t 5)),h 54 52 (.ar .gtr (t 53) (i 0)),h 55 52 (.mv (t 54)),g 56 55 (.mv (t 0)),g 57 55 (.mv
 (t 5)),g 58 55 (.ar .sub (t 57) (i 1)),g 59 55 (.ias 3 (t 56) (t 58)),g 60 55 (.fa 0 (t 59)),g 61 55 (.ld none (t 60)),g 62 55 (.ar .eql (t 61) (u 1)),h 63 52 (.pk (t 55) (t
 62) F),g 64 42 (.pk (t 52) T (t 63)),pf 65 42 64,m 38 65]) (Y [0,3,4,6,10,11,12,38])) (C 38 (rt 2 (u 4)) (Q (Q (O [fa 67 0 6,ld 68 67,ac 69 .neq 68 (u 1),m 70 69,g 71
 70 (.fa 1 (t 6)),g 72 70 (.ld none (t 71)),⟨(some 73),(some (70,true)),(.call (.c (.fn (.func mS) [] [])) [(.t 72)])⟩,g 74 70 (.un .not (t 73)),pf 75 70 74,m 66
 75]) (Y [0,3,4,6,10,11,12,66])) (C 66 (rt 2 (u 5)) (Q (Q (O [la 77 3 6,k2 78 gu 4 77,no 79 78,m 76 79]) (Y [0,3,4,6,10,11,12,76])) (C 76 (rt 2 (u
 8)) (Q (Q (O [fa 81 0 6,ld 82 81,ac 83 .eql 82 (u 3),m 84 83,g 85 84 (.fa 1 (t 6)),g 86 84 (.ld none (t 85)),⟨(some 87),(some (84,true)),(.call (.c (.fn (.func
 gW) [] [])) [(.t 3),(.t 86)])⟩,g 88 84 (.un .not (t 87)),pf 89 84 88,m 80 89]) (Y [0,3,4,6,10,11,12,80])) (C 80 (rt 2 (u 9)) X))))))))))) (Q (O [fa
 90 0 6,ld 91 90,ac 92 .eql 91 (u 2)]) (C 92 (Q (O [fa 93 1 6,ld 94 93,k2 95 gJ 3 94]) (Q (Q (O [fa 96 0 3,ld 97 96,ls 98 97,ac 99 .gtr 98 (i 16)]) (Y
 [0,3,4,10,11,12,99])) (C 99 (rt 2 (u 3)) X))) X))))) (O [ad 100 12,m 12 100]))))
def kE:AC:=
 (Q (O [mc 2 (u 0)]) (Q (Q (O [m 7 0,ls 8 7,ac 9 .gtr 8 (i 512)]) (C 9 (rt 2 (u 3)) X)) (Q (O [o 3 (.nw [(.slice .nil 1 [])] fp)]) (Q (O [o 4 (.nw [(.bool false),
 (.bool false)] cD)]) (Q (Q (O [m 10 0,ls 11 10,mc 12 (i 0)]) (Q (.block 0 (lo [0,3,4,10,11,12] bn)) (Y [3]))) (Q (Q (Q (O [fa 101 0 3,ld 102
 101,ls 103 102,ac 104 .gtr 103 (i 0)]) (Y [104])) (C 104 (rt 2 (u 9)) X)) (rt 2 (u 0))))))))
def eN:AFn:=⟨kE,105,[.t 2],.drop,[],none⟩
theorem bt:qf eN [.t 2] .drop:=⟨rfl,rfl,rfl⟩
def dx:AC:=
 (Q (O [bl 9 8 7]) (Q (C 9 X (.exit 0)) (Q (.block 1 (Q (Q (O [ia 10 3 6 8,la 11 3 10,o 5 (.nw [(.int .u8 0),(.str []),(.bool false)] ah),n (.st 3 (t 5) (t 11))]) (Y
 [2,3,5,6,7,8])) (.block 2 (Q (Q (O [fa 13 2 5,ld 14 13,m 15 14,g 16 15 (.fa 0 (t 5)),g 17 15 (.ld none (t 16)),g 18 15 (.ar .eql (t 17) (u 2)),pf 19 15 18,m 12 19]) (Y
 [2,3,5,6,7,8,12])) (C 12 (Q (O [m 20 2,fa 21 1 5,ld 22 21,o 23 (.bs 1 [(.str [])] 1 [(0,(t 22))]),o 24 (.ap true aP 1 16 false (t 20) (t 23)),m 2 24]) (Y [2,3,6,
 7,8])) (Q (Q (O [fa 26 2 5,ld 27 26,m 28 27,g 29 28 (.fa 0 (t 5)),g 30 28 (.ld none (t 29)),g 31 28 (.ar .eql (t 30) (u 3)),pf 32 28 31,m 25 32]) (Y [2,3,5,6,7,8,25]))
 (C 25 (Q (O [m 33 3,fa 34 1 5,ld 35 34,o 36 (.bs 1 [(.str [])] 1 [(0,(t 35))]),o 37 (.ap true aP 1 16 false (t 33) (t 36)),m 3 37]) (Y [2,3,6,7,8])) X))))))) (O [ad
 38 8,m 8 38]))))
def tM:AC:=
 (Q (O [mc 2 (.c (.slice .nil 1 [])),mc 3 (.c (.slice .nil 1 []))]) (Q (Q (O [m 6 0,ls 7 6,mc 8 (i 0)]) (Q (.block 0 (lo [2,3,6,7,8] dx)) (Y [2,3]))) (Q (Q (O [m
 39 2,m 40 3,m 2 39,m 3 40]) (Y [2,3])) R)))
def jE:AFn:=⟨tM,41,[.t 2,.t 3],.keep,[5,7],none⟩
theorem kN:qf jE [.t 2,.t 3] .keep:=⟨rfl,rfl,rfl⟩
def aQ:AC:=
 (Q (Q (O [m 7 2,m 8 3,bl 9 7 8]) (C 9 X (.exit 0))) (Q (.block 1 (Q (D [Pm 14 0,Pm 15 2,Pm 16 0,Pm 17 3,Pm 18 0,Pm 19 3,P (ia 20 1 18 19),Wl 21 20,Pm 22 0,Pm 23 2,P (ia
 24 1 22 23),Wl 25 24,P (ia 26 1 14 15),E (n (.st 1 (t 26) (t 21))),P (ia 27 1 16 17),E (n (.st 1 (t 27) (t 25)))]) (Y [0,2,3]))) (Q (O [m 10 2,ad 11 10,m 12 3,ac 13 .sub
 12 (i 1),m 2 11,m 3 13]) (Y [0,2,3]))))
def bB:AC:=
 (Q (Q (O [m 4 0,ls 5 4,ac 6 .sub 5 (i 1),mc 2 (i 0),m 3 6]) (Y [0,2,3])) (Q (.block 0 (lo [0,2,3] aQ)) (Y [])))
def bg:AFn:=⟨bB,28,[],.keep,[],none⟩
theorem bC:qf bg [] .keep:=⟨rfl,rfl,rfl⟩
def bR:AC:=
 (Q (O [bl 14 13 12]) (Q (C 14 X (.exit 0)) (Q (.block 1 (Q (O [m 15 13,m 5 15]) (Q (Q (D [Pm 16 0,Pm 17 5,P (ia 18 1 16 17),Wl 19 18,Pm 20 1,Pm 21 5,P (ia 22 1 20 21),Wl 23
 22,P (ar 24 .neq 19 23)]) (Y [0,1,12,13,24])) (C 24 (rt 4 F) X)))) (O [ad 25 13,m 13 25]))))
def fj:AC:=
 (Q (O [mc 4 F]) (Q (Q (Q (O [m 6 0,ls 7 6,m 8 1,ls 9 8,ar 10 .neq 7 9]) (Y [0,1,10])) (C 10 (rt 4 F) X)) (Q (Q (O [m 11 0,ls 12 11,mc 13 (i 0)]) (Q (.block 0 (lo [0,1,12,
 13] bR)) (Y []))) (rt 4 T))))
def cQ:AFn:=⟨fj,26,[.t 4],.drop,[],none⟩
theorem ca:qf cQ [.t 4] .drop:=⟨rfl,rfl,rfl⟩
def cY:AC:=
 (Q (O [o 3 (.bx ah (t 1))]) (Q (Q (O [m 6 0,o 7 (.nc (t 6)),fa 8 0 7,ld 9 8,ls 10 9,ac 11 .sub 10 (i 1),m 4 11]) (Y [0,3,4])) (Q (Q (Q (O [m 12 0,o 13 (.nc (t
 12)),fa 14 0 13,ld 15 14,m 16 4,ia 17 1 15 16,ld 18 17,ls 19 18,m 5 19]) (Y [0,3,4,5])) (Q (Q (O [fa 20 0 3,ld 21 20,ac 22 .eql 21 (u 1),m 23 22,g 24 23 (.mv (t 5)),g
 25 23 (.ar .gtr (t 24) (i 0)),pf 26 23 25,m 27 26,g 28 27 (.mv (t 0)),g 29 27 (.nc (t 28)),g 30 27 (.fa 0 (t 29)),g 31 27 (.ld none (t 30)),g 32 27 (.mv (t 4)),g 33 27 (.ias
 1 (t 31) (t 32)),g 34 27 (.ld none (t 33)),g 35 27 (.mv (t 5)),g 36 27 (.ar .sub (t 35) (i 1)),g 37 27 (.ias 3 (t 34) (t 36)),g 38 27 (.fa 0 (t 37)),g 39 27 (.ld none (t 38)),
 g 40 27 (.ar .eql (t 39) (u 1)),pf 41 27 40]) (Y [0,3,4,5,41])) (C 41 (Q (Q (D [Pm 42 0,P (o 43 (.nc (t 42))),Pf 44 0 43,Wl 45 44,Pm 46 4,P (ia 47 1 45 46),Wl 48 47,Pm
 49 5,P (ac 50 .sub 49 (i 1)),P (ia 51 3 48 50),Pf 52 1 51,Wl 53 52,Pf 54 1 3,Wl 55 54,P (ar 56 .add 53 55),P (ia 57 3 48 50),Pf 58 1 57,E (n (.st 1 (t 58) (t 56)))]) (Y
 [])) R) X))) (Q (.dops true [] [] [Pm 59 0,P (o 60 (.nc (t 59))),Pf 61 0 60,Wl 62 61,Pm 63 4,Pm 64 0,P (o 65 (.nc (t 64))),Pf 66 0 65,(ld 67 66,.quiet),Pm 68 4,P (ia 69 1
 67 68),(ld 70 69,.quiet),(la 71 3 3,.quiet),P (o 72 (.bs 3 [(.int .u8 0),(.str []),(.bool false)] 1 [(0,(t 71))])),K (o 73 (.ap true ah 3 32 false (t 70) (t 72))),
 P (ia 74 1 62 63),K (n (.st 1 (t 74) (t 73)))]) (Y [])))))
def ji:AFn:=⟨cY,75,[],.keep,[5],none⟩
theorem jj:qf ji [] .keep:=⟨rfl,rfl,rfl⟩
def dc:AC:=
 (Q (Q (Q (O [m 5 4,m 6 0,ls 7 6,bl 8 5 7]) (Y [0,3,4,8])) (C 8 X (.exit 0))) (Q (.block 1 (Q (Q (O [m 11 0,m 12 4,ia 13 3 11 12,fa 14 0 13,ld 15 14,ac 16 .eql 15 (u 1)])
 (Y [0,3,4,16])) (C 16 (Q (O [m 17 3,m 18 0,m 19 4,ia 20 3 18 19,fa 21 1 20,ld 22 21,ar 23 .add 17 22,m 3 23]) (Y [0,3,4])) X))) (ic 9 4 10)))
def iY:AC:=
 (Q (O [mc 2 (s [])]) (Q (O [mc 3 (s [])]) (Q (Q (O [mc 4 (i 0)]) (Q (.block 0 (lo [0,3,4] dc)) (Y [3]))) (Q (O [m 24 3,m 2 24]) R))))
def eI:AFn:=⟨iY,25,[.t 2],.drop,[],none⟩
theorem fU:qf eI [.t 2] .drop:=⟨rfl,rfl,rfl⟩
def dH:AC:=
 (Q (O [bl 14 13 12]) (Q (C 14 X (.exit 0)) (Q (.block 1 (Q (Q (O [ia 15 2 11 13,la 16 2 15,o 4 (.nw [(.int .u8 0),(.slice .nil 3 [])] aU),n (.st 2 (t 4) (t 16))]) (Y
 [4,11,12,13])) (Q (Q (Q (O [fa 17 0 4,ld 18 17,ac 19 .lss 18 (u 1),m 20 19,h 21 20 (.fa 0 (t 4)),h 22 20 (.ld none (t 21)),h 23 20 (.ar .gtr (t 22) (u 6)),pt 24 20 23]) (Y
 [4,11,12,13,24])) (C 24 (rt 2 (u 1)) X)) (Q (Q (Q (O [fa 25 1 4,ld 26 25,k1 27 bX 26,m 5 27]) (Y [4,5,11,12,13])) (Q (O [m 28 5,ac 29 .neq 28 (u 0)]) (C
 29 (Q (O [m 30 5,m 2 30]) R) X))) (.block 2 (Q (Q (O [fa 32 1 4,ld 33 32,k1 34 oc 33,no 35 34,m 31 35]) (Y [4,11,12,13,31])) (C 31 (rt 2 (u 8)) (Q (Q (O [la 37 2
 4,k1 38 vy 37,no 39 38,m 36 39]) (Y [11,12,13,36])) (C 36 (rt 2 (u 1)) X))))))))) (O [ad 40 13,m 13 40]))))
def rR:AC:=
 (Q (O [o 1 (.bx ag (t 0)),mc 2 (u 0)]) (Q (Q (Q (O [fa 6 0 1,ld 7 6,ls 8 7,ac 9 .gtr 8 (i 256)]) (Y [1,9])) (C 9 (rt 2 (u 3)) X)) (Q (Q (Q (O [fa 10 0 1,ld 11 10,
 ls 12 11,mc 13 (i 0)]) (Y [11,12,13])) (Q (.block 0 (lc [11,12,13] dH)) (Y []))) (rt 2 (u 0)))))
def lH:AFn:=⟨rR,41,[.t 2],.drop,[],none⟩
theorem eQ:qf lH [.t 2] .drop:=⟨rfl,rfl,rfl⟩
def cZ:AC:=
 (Q (O [bl 28 27 26]) (Q (C 28 X (.exit 2)) (Q (.block 3 (Q (Q (O [m 29 27,ia 30 1 25 27,ld 31 30,m 8 29,m 9 31]) (Y [4,6,7,8,9,15,16,17,25,26,27])) (Q (Q (O [m 33 9,
 k1 34 oe 33,m 32 34,ex 35 32 0,ex 36 32 1,m 10 35,m 11 36]) (Y [4,6,7,8,10,11,15,16,17,25,26,27])) (Q (Q (O [m 37 11,no 38 37]) (C 38 (Q (O [mc 2 (.c
 (.slice .nil 3 [])),mc 3 (u 4)]) R) X)) (Q (Q (O [m 39 10,ls 40 39,ac 41 .gtr 40 (i 32)]) (C 41 (Q (O [mc 2 (.c (.slice .nil 3 [])),mc 3 (u 3)]) R) X)) (Q (O [m 42 8,m 43 10,o
 44 (.iaa 2 1 (t 7) (t 42)),n (.st 1 (t 44) (t 43))]) (Y [4,6,7,15,16,17,25,26,27]))))))) (O [ad 45 27,m 27 45]))))
def gz:AC:=
 (Q (O [bl 18 17 16]) (Q (C 18 X (.exit 0)) (Q (Q (.block 1 (Q (Q (O [ia 19 3 15 17,la 20 3 19,o 6 (.nw [(.str []),(.str []),(.bool false)] gv),n (.st 3 (t 6) (t 20))])
 (Y [4,6,15,16,17])) (Q (O [o 7 (.nw [(.slice .nil 1 []),(.slice .nil 1 [])] fD)]) (Q (Q (Q (O [fa 21 0 6,ld 22 21,fa 23 1 6,ld 24 23,o 25 (.bs 1 [(.str [])] 2
 [(0,(t 22)),(1,(t 24))]),ls 26 25,mc 27 (i 0)]) (Y [4,6,7,15,16,17,25,26,27])) (Q (.block 2 (lo [4,6,7,15,16,17,25,26,27] cZ)) (Y [4,6,7,15,
 16,17]))) (Q (O [m 46 4,o 47 (.iaa 2 1 (t 7) (i 0)),ld 48 47,o 49 (.iaa 2 1 (t 7) (i 1)),ld 50 49,fa 51 2 6,ld 52 51,o 53 (.bd [(.slice .nil 1 []),(.slice .nil 1 []),
 (.bool false)] [(0,1),(1,1),(2,1)] [(0,(t 48)),(1,(t 50)),(2,(t 52))]),o 54 (.bs 3 [(.slice .nil 0 []),(.slice .nil 0 []),(.bool false)] 1 [(0,(t 53))]),o 55 (.ap
 false dV 3 56 false (t 46) (t 54)),m 4 55]) (Y [4,15,16,17])))))) (Y [4,15,16,17])) (O [ad 56 17,m 17 56]))))
def nB:AC:=
 (Q (O [mc 2 (.c (.slice .nil 3 [])),mc 3 (u 0)]) (Q (Q (O [m 12 0,ls 13 12,ac 14 .gtr 13 (i 64)]) (C 14 (Q (O [mc 2 (.c (.slice .nil 3 [])),mc 3 (u 3)]) R) X)) (Q (O [mc 4 (.c
 (.slice .nil 3 []))]) (Q (Q (O [m 15 0,ls 16 15,mc 17 (i 0)]) (Q (.block 0 (.loop ⟨(some [4,15,16,17]),[(4,3,dV)],true⟩ gz)) (Y [4]))) (Q (O [m 57
 4,m 2 57,mc 3 (u 0)]) R)))))
def dy:AFn:=⟨nB,58,[.t 2,.t 3],.drop,[],none⟩
theorem dI:qf dy [.t 2,.t 3] .drop:=⟨rfl,rfl,rfl⟩
def fk:AC:=
 (Q (O [bl 22 21 20]) (Q (C 22 X (.exit 2)) (Q (.block 3 (Q (Q (O [ia 23 3 19 21,la 24 3 23,o 9 (.nw [(.slice .nil 1 []),(.slice .nil 1 []),(.bool false)] dV),n (.st 3
 (t 9) (t 24))]) (Y [0,5,6,7,9,19,20,21])) (Q (Q (Q (O [la 25 3 9,m 26 5,m 27 7,k 28 (f my) [(t 25),(t 26),(t 27)],no 29 28]) (Y [0,5,6,7,9,19,20,
 21,29])) (C 29 (.exit 3) X)) (Q (Q (O [fa 30 2 9,ld 31 30]) (C 31 (Q (O [m 32 6,m 33 7,o 34 (.bs 1 [(.int .i64 0)] 1 [(0,(t 33))]),o 35 (.ap false mh 1 8 false (t 32) (t
 34)),m 6 35]) (Y [0,5,6,7])) X)) (.exit 2))))) (O [ad 36 21,m 21 36]))))
def iC:AC:=
 (Q (Q (Q (O [m 13 7,m 14 5,ls 15 14,bl 16 13 15]) (Y [0,5,6,7,16])) (C 16 X (.exit 0))) (Q (Q (.block 1 (Q (O [m 19 0,ls 20 19,mc 21 (i 0)]) (Q (.block 2 (.loop ⟨(some [0,
 5,6,7,19,20,21]),[(6,1,mh)],true⟩ fk)) (Y [0,5,6,7])))) (Y [0,5,6,7])) (ic 17 7 18)))
def qq:AC:=
 (Q (O [mc 4 (.c (.slice .nil 1 []))]) (Q (Q (O [m 10 1,k1 11 lB 10,k1 12 ej 11,m 5 12]) (Y [0,5])) (Q (O [mc 6 (.c (.slice .nil 1 []))]) (Q (Q
 (O [mc 7 (i 1)]) (Q (.block 0 (.loop ⟨(some [0,5,6,7]),[(6,1,mh)],true⟩ iC)) (Y [6]))) (Q (O [m 37 6,m 4 37]) R)))))
def fy:AFn:=⟨qq,38,[.t 4],.drop,[],none⟩
theorem fA:qf fy [.t 4] .drop:=⟨rfl,rfl,rfl⟩
def dM:AC:=
 (Q (O [mc 2 (.c (.slice .nil 3 []))]) (Q (Q (O [m 3 0,o 4 (.eq false .sl (t 3) (.c (.slice .nil 0 [])))]) (C 4 (Q (O [mc 2 (.c (.slice .nil 3 []))]) R) X)) (Q (Q (O [o 5 (.bs 3
 [(.int .u8 0),(.str []),(.bool false)] 0 []),m 6 0,o 7 (.ap false ah 3 32 false (t 5) (t 6)),m 2 7]) (Y [2])) R)))
def dN:AFn:=⟨dM,8,[.t 2],.drop,[],none⟩
theorem dO:qf dN [.t 2] .drop:=⟨rfl,rfl,rfl⟩
def rS:AC:=
 (Q (O [mc 2 F]) (Q (Q (O [m 3 0,k 4 (f bN) [(t 3),(f oX)],no 5 4,m 2 5]) (Y [2])) R))
def rT:AFn:=⟨rS,6,[.t 2],.drop,[],none⟩
theorem EJ:qf rT [.t 2] .drop:=⟨rfl,rfl,rfl⟩
def gh:AC:=
 (Q (Q (Q (O [m 6 3,m 7 0,lt 8 7,bl 9 6 8]) (Y [0,3,9])) (C 9 X (.exit 0))) (.block 1 (Q (Q (O [m 11 0,m 12 3,o 13 (.sls (t 11) (some (t 12)) none),k1 14
 b7 13,m 10 14,ex 15 10 0,ex 16 10 1,m 4 15,m 5 16]) (Y [0,3,4,5])) (Q (Q (Q (O [m 17 4,o 18 (.ar .eql (t 17) (.c (.int .i32 65533))),m 19
 18,g 20 19 (.mv (t 5)),g 21 19 (.ar .lss (t 20) (i 2)),pf 22 19 21,m 23 22,h 24 23 (.mv (t 4)),h 25 23 (.ar .lss (t 24) (.c (.int .i32 32))),pt 26 23 25,m 27 26,h 28 27
 (.mv (t 4)),h 29 27 (.ar .eql (t 28) (.c (.int .i32 127))),pt 30 27 29]) (Y [0,3,5,30])) (C 30 (rt 2 F) X)) (Q (O [m 31 3,m 32 5,ar 33 .add 31 32,m 3 33]) (Y [0,3]))))))
def qs:AC:=
 (Q (O [mc 2 F]) (Q (Q (O [mc 3 (i 0)]) (Q (.block 0 (lo [0,3] gh)) (Y []))) (rt 2 T)))
def iQ:AFn:=⟨qs,34,[.t 2],.drop,[],none⟩
theorem mT:qf iQ [.t 2] .drop:=⟨rfl,rfl,rfl⟩
def rU:AC:=
 (Q (O [o 1 (.bx al (t 0)),mc 2 (.c .nilfn)]) (Q (O [o 3 (.mf (.func fJ) [] [(t 1)]),m 2 3]) R))
def ot:AFn:=⟨rU,4,[.t 2],.keep,[],none⟩
theorem EL:qf ot [.t 2] .keep:=⟨rfl,rfl,rfl⟩
def mB:AC:=
 (Q (O [o 1 (.bx aZ (t 0)),mc 2 F]) (Q (Q (O [fa 3 1 1,ld 4 3,m 5 4,h 6 5 (.ld (some 2) (t 1)),⟨(some 7),(some (5,false)),(.call (.c (.fn (.func dL)
 [] [])) [(.t 6)])⟩,pt 8 5 7,m 9 8,h 10 9 (.ld (some 2) (t 1)),⟨(some 11),(some (9,false)),(.call (.c (.fn (.func el) [] [])) [(.t 10)])⟩,pt 12 9 11,m 2 12])
 (Y [2])) R))
def jV:AFn:=⟨mB,13,[.t 2],.drop,[],none⟩
theorem xQ:qf jV [.t 2] .drop:=⟨rfl,rfl,rfl⟩
def mC:AC:=
 (Q (O [o 1 (.bx aZ (t 0)),mc 2 F]) (Q (Q (O [fa 3 1 1,ld 4 3,no 5 4,m 6 5,g 7 6 (.ld (some 2) (t 1)),⟨(some 8),(some (6,true)),(.call (.c (.fn (.func
 dL) [] [])) [(.t 7)])⟩,g 9 6 (.un .not (t 8)),pf 10 6 9,m 11 10,g 12 11 (.ld (some 2) (t 1)),⟨(some 13),(some (11,true)),(.call (.c (.fn (.func
 el) [] [])) [(.t 12)])⟩,g 14 11 (.un .not (t 13)),pf 15 11 14,m 16 15,g 17 16 (.ld (some 2) (t 1)),⟨(some 18),(some (16,true)),(.call (.c (.fn (.func
 fb) [] [])) [(.t 17)])⟩,g 19 16 (.un .not (t 18)),pf 20 16 19,m 2 20]) (Y [2])) R))
def jW:AFn:=⟨mC,21,[.t 2],.drop,[],none⟩
theorem xR:qf jW [.t 2] .drop:=⟨rfl,rfl,rfl⟩
def jF:AC:=
 (Q (O [o 3 (.bx ah (t 1)),mc 4 F]) (Q (Q (O [fa 7 0 3,ld 8 7,ac 9 .eql 8 (u 2),m 10 9,g 11 10 (.fa 2 (t 3)),g 12 10 (.ld none (t 11)),pf 13 10 12,m 5 13]) (Y [0,3,
 5])) (Q (Q (O [fa 14 0 3,ld 15 14,ac 16 .eql 15 (u 3),m 17 16,g 18 17 (.fa 2 (t 3)),g 19 17 (.ld none (t 18)),pf 20 17 19,m 6 20]) (Y [0,5,6])) (Q (Q (Q (O [m 21 5,m 22
 21,g 23 22 (.mv (t 0)),g 24 22 (.nc (t 23)),g 25 22 (.fa 0 (t 24)),g 26 22 (.ld none (t 25)),pf 27 22 26,m 28 27,h 29 28 (.mv (t 0)),h 30 28 (.nc (t 29)),h 31 28 (.fa 1 (t
 30)),h 32 28 (.ld none (t 31)),h 33 28 (.mv (t 32)),g 34 33 (.mv (t 6)),g 35 33 (.un .not (t 34)),h 36 28 (.pk (t 33) (t 35) F),pt 37 28 36]) (Y [0,5,6,37])) (C 37 (rt 4 F)
 X)) (Q (Q (O [m 38 0,m 39 0,o 40 (.nc (t 39)),fa 41 0 40,ld 42 41,m 43 42,h 44 43 (.mv (t 5)),h 45 43 (.un .not (t 44)),pt 46 43 45,o 47 (.nc (t 38)),fa 48 0 47,n (.st 1
 (t 48) (t 46))]) (Y [0,6])) (Q (Q (O [m 49 0,m 50 0,o 51 (.nc (t 50)),fa 52 1 51,ld 53 52,m 54 53,h 55 54 (.mv (t 6)),pt 56 54 55,o 57 (.nc (t 49)),fa 58 1 57,n (.st 1 (t
 58) (t 56))]) (Y [])) (rt 4 T)))))))
def gA:AFn:=⟨jF,59,[.t 4],.drop,[],none⟩
theorem nf:qf gA [.t 4] .drop:=⟨rfl,rfl,rfl⟩
def fN:AC:=
 (Q (O [mc 2 (.c (.slice .nil 2 []))]) (Q (O [m 3 0,k 4 (f dh) [(.c (.slice .nil 2 [])),(t 3)],m 2 4]) R))
def eC:AFn:=⟨fN,5,[.t 2],.drop,[],none⟩
theorem pa:qf eC [.t 2] .drop:=⟨rfl,rfl,rfl⟩
def dQ:AC:=
 (Q (O [o 3 (.bx ah (t 1))]) (Q (Q (Q (O [m 4 0,o 5 (.nc (t 4)),fa 6 3 5,ld 7 6]) (Y [0,3,7])) (C 7 (O [m 8 0,k1 9 di 8]) X)) (Q (O [m 10 0,la 11 3 3,
 k2 12 br 10 11]) (Q (Q (O [m 13 0,o 14 (.nc (t 13)),fa 15 2 14,ld 16 15,ad 17 16,o 18 (.nc (t 13)),fa 19 2 18,n (.st 1 (t 19) (t 17))]) (Y [0])) (Q (Q (D [Pm
 20 0,P (o 21 (.nc (t 20))),Pf 22 1 21,Wl 23 22,W (ls 24 23),P (ac 25 .gtr 24 (i 0)),Pm 26 25,P (g 27 26 (.mv (t 0))),P (g 28 26 (.nc (t 27))),P (g 29 26 (.fa 1 (t 28))),W
 (g 30 26 (.ld none (t 29))),P (g 31 26 (.ias 1 (t 30) (i 0))),W (g 32 26 (.ld none (t 31))),P (g 33 26 (.mv (t 0))),P (g 34 26 (.nc (t 33))),P (g 35 26 (.fa 2 (t 34))),W (g 36
 26 (.ld none (t 35))),P (g 37 26 (.ar .eql (t 32) (t 36))),P (pf 38 26 37)]) (Y [0,38])) (C 38 (Q (Q (O [m 39 0,m 40 0,o 41 (.nc (t 40)),fa 42 1 41,ld 43 42,o 44 (.sll 1 (t
 43) (some (i 1)) none none),o 45 (.nc (t 39)),fa 46 1 45,n (.st 1 (t 46) (t 44))]) (Y [0])) (Q (O [m 47 0,o 48 (.nc (t 47)),fa 49 3 48,n (.st 1 (t 49) T)]) (Y []))) X))))))
def iy:AFn:=⟨dQ,50,[],.keep,[],none⟩
theorem eO:qf iy [] .keep:=⟨rfl,rfl,rfl⟩
def eD:AC:=
 (Q (O [o 3 (.bx ah (t 1))]) (Q (Q (Q (O [m 4 0,o 5 (.nc (t 4)),fa 6 3 5,ld 7 6,m 8 7,g 9 8 (.fa 0 (t 3)),g 10 8 (.ld none (t 9)),g 11 8 (.ar .neq (t 10) (u 3)),pf
 12 8 11]) (Y [0,3,12])) (C 12 (O [m 13 0,k1 14 di 13]) X)) (Q (Q (O [fa 15 0 3,ld 16 15]) (.block 0 (Q (O [ac 18 .eql 16 (u 2),m 17 18]) (C 17 (Q (D [Pm 19 0,
 Pm 20 0,P (o 21 (.nc (t 20))),Pf 22 4 21,Wl 23 22,Pf 24 1 3,Wl 25 24,P (o 26 (.bs 1 [(.str [])] 1 [(0,(t 25))])),E (o 27 (.ap true aP 1 16 false (t 23) (t 26))),P (o
 28 (.nc (t 19))),Pf 29 4 28,E (n (.st 1 (t 29) (t 27)))]) (Y [0,3])) (Q (O [ac 31 .eql 16 (u 3),m 30 31]) (C 30 (Q (D [Pm 32 0,Pm 33 0,P (o 34 (.nc (t 33))),Pf 35 4 34,Wl 36
 35,Pm 37 0,P (o 38 (.nc (t 37))),Pf 39 4 38,Wl 40 39,W (ls 41 40),P (ac 42 .sub 41 (i 1)),P (o 43 (.sll 1 (t 36) none (some (t 42)) none)),P (o 44 (.nc (t 32))),Pf 45 4 44,
 E (n (.st 1 (t 45) (t 43)))]) (Y [0,3])) X)))))) (O [m 46 0,la 47 3 3,k2 48 br 46 47]))))
def lI:AFn:=⟨eD,49,[],.keep,[5],none⟩
theorem gB:qf lI [] .keep:=⟨rfl,rfl,rfl⟩
def cR:AC:=
 (Q (O [mc 4 F]) (Q (Q (O [m 5 0,m 6 1,k2 7 dj 5 6,ac 8 .geq 7 (i 0),m 4 8]) (Y [4])) R))
def bT:AFn:=⟨cR,9,[.t 4],.drop,[],none⟩
theorem iD:qf bT [.t 4] .drop:=⟨rfl,rfl,rfl⟩
def rV:AC:=
 (Q (O [mc 2 F]) (Q (Q (O [m 3 0,ls 4 3,ac 5 .gtr 4 (i 512),m 2 5]) (Y [2])) R))
def ou:AFn:=⟨rV,6,[.t 2],.drop,[],none⟩
theorem EM:qf ou [.t 2] .drop:=⟨rfl,rfl,rfl⟩
def iE:AC:=
 (Q (O [bl 25 24 23]) (Q (C 25 X (.exit 0)) (Q (.block 1 (Q (O [m 26 24,m 3 26]) (Q (Q (O [m 27 0,m 28 3,o 29 (.ixs (t 27) (t 28)),m 4 29]) (Y [0,4,23,24])) (Q (Q (O [m 30 4,
 ac 31 .geq 30 (u 97),m 32 31,g 33 32 (.mv (t 4)),g 34 32 (.ar .leq (t 33) (u 122)),pf 35 32 34,m 36 35,h 37 36 (.mv (t 4)),h 38 36 (.ar .geq (t 37) (u 48)),h 39 36 (.mv (t
 38)),g 40 39 (.mv (t 4)),g 41 39 (.ar .leq (t 40) (u 57)),h 42 36 (.pk (t 39) (t 41) F),pt 43 36 42,m 44 43,h 45 44 (.mv (t 4)),h 46 44 (.ar .eql (t 45) (u 45)),pt 47 44 46,
 no 48 47]) (Y [0,23,24,48])) (C 48 (rt 2 F) X))))) (O [ad 49 24,m 24 49]))))
def qt:AC:=
 (Q (O [mc 2 F]) (Q (Q (Q (O [m 5 0,ac 6 .eql 5 (s []),m 7 6,h 8 7 (.mv (t 0)),h 9 7 (.len .str (t 8)),h 10 7 (.ar .gtr (t 9) (i 16)),pt 11 7 10,m 12 11,h 13 12 (.mv (t 0)),
 h 14 12 (.ixs (t 13) (i 0)),h 15 12 (.ar .lss (t 14) (u 97)),pt 16 12 15,m 17 16,h 18 17 (.mv (t 0)),h 19 17 (.ixs (t 18) (i 0)),h 20 17 (.ar .gtr (t 19) (u 122)),pt 21 17
 20]) (Y [0,21])) (C 21 (rt 2 F) X)) (Q (Q (O [m 22 0,lt 23 22,mc 24 (i 0)]) (Q (.block 0 (lo [0,23,24] iE)) (Y []))) (rt 2 T))))
def iR:AFn:=⟨qt,50,[.t 2],.drop,[],none⟩
theorem mU:qf iR [.t 2] .drop:=⟨rfl,rfl,rfl⟩
def cF:AC:=
 (Q (O [mc 4 F]) (Q (Q (O [m 6 0,o 7 (.nc (t 6)),fa 8 0 7,ld 9 8,ls 10 9,m 5 10]) (Y [0,1,5])) (Q (Q (Q (O [m 11 5,ac 12 .eql 11 (i 0),m 13 12,h 14 13 (.mv (t 0)),h 15 13
 (.nc (t 14)),h 16 13 (.fa 0 (t 15)),h 17 13 (.ld none (t 16)),h 18 13 (.mv (t 5)),h 19 13 (.ar .sub (t 18) (i 1)),h 20 13 (.ias 1 (t 17) (t 19)),h 21 13 (.ld none (t 20)),h
 22 13 (.mv (t 1)),h 23 13 (.ar .neq (t 21) (t 22)),pt 24 13 23]) (Y [0,5,24])) (C 24 (rt 4 F) X)) (Q (Q (O [m 25 0,m 26 0,o 27 (.nc (t 26)),fa 28 0 27,ld 29 28,m 30 5,ac
 31 .sub 30 (i 1),o 32 (.sll 1 (t 29) none (some (t 31)) none),o 33 (.nc (t 25)),fa 34 0 33,n (.st 1 (t 34) (t 32))]) (Y [])) (rt 4 T)))))
def fc:AFn:=⟨cF,35,[.t 4],.drop,[],none⟩
theorem gX:qf fc [.t 4] .drop:=⟨rfl,rfl,rfl⟩
def gM:AC:=
 (Q (O [m 4 0,m 5 0,o 6 (.nc (t 5)),fa 7 0 6,ld 8 7,m 9 1,o 10 (.bs 1 [(.str [])] 1 [(0,(t 9))]),o 11 (.ap true aP 1 16 false (t 8) (t 10)),o 12 (.nc (t 4)),fa 13 0
 12,n (.st 1 (t 13) (t 11))]) (Y []))
def gN:AFn:=⟨gM,14,[],.keep,[0],none⟩
theorem qu:qf gN [] .keep:=⟨rfl,rfl,rfl⟩
def vC:AC:=
 (Q (O [o 1 (.bx aU (t 0)),mc 2 F]) (Q (Q (O [fa 3 0 1,ld 4 3,ac 5 .neq 4 (u 6),m 6 5,h 7 6 (.fa 1 (t 1)),h 8 6 (.ld none (t 7)),⟨(some 9),(some (6,false)),(.call
 (.c (.fn (.func bN) [] [])) [(.t 8),(.c (.fn (.func rN) [] []))])⟩,h 10 6 (.un .not (t 9)),pt 11 6 10,m 2 11]) (Y [2])) R))
def vD:AFn:=⟨vC,12,[.t 2],.drop,[],none⟩
theorem Be:qf vD [.t 2] .drop:=⟨rfl,rfl,rfl⟩
def eW:AC:=
 (Q (Q (Q (O [m 14 6,m 15 5,ls 16 15,bl 17 14 16]) (Y [4,5,6,17])) (C 17 X (.exit 0))) (Q (.block 1 (Q (Q (O [m 20 5,m 21 6,ia 22 1 20 21,ld 23 22,o 7 (.nw [(.int .i32 0)]
 zO),n (.st 1 (t 7) (t 23))]) (Y [4,5,6,7])) (Q (Q (O [ld 24 7,o 25 (.ar .neq (t 24) (.c (.int .i32 37)))]) (C 25 (Q (Q (O [m 26 4,o 27 (.mf (.func en) [] [(t
 7)]),o 28 (.bd [.nilfn] [(0,1)] [(0,(t 27))]),o 29 (.bs 1 [.nilfn] 1 [(0,(t 28))]),o 30 (.ap false cq 1 8 false (t 26) (t 29)),m 4 30]) (Y [4,5,6])) (.exit 1)) X))
 (Q (Q (ic 31 6 32) (Q (Q (O [m 33 6,m 34 5,ls 35 34,ar 36 .eql 33 35]) (Y [4,5,6,36])) (C 36 (Q (O [mc 2 (.c (.slice .nil 1 [])),mc 3 F]) R) X))) (Q (O [o 37 (.bd [.nilfn]
 [(0,1)] []),o 8 (.nw [.nilfn] cq),n (.st 1 (t 8) (t 37))]) (Q (Q (Q (O [m 38 5,m 39 6,ia 40 1 38 39,ld 41 40]) (Y [4,5,6,8,41])) (.block 2 (Q (O [o 43 (.ar .eql
 (t 41) (.c (.int .i32 97))),m 42 43]) (C 42 (O [fa 44 0 8,n (.st 1 (t 44) (f dL))]) (Q (O [o 46 (.ar .eql (t 41) (.c (.int .i32 117))),m 45 46]) (C 45 (O [fa 47 0
 8,n (.st 1 (t 47) (f ju))]) (Q (O [o 49 (.ar .eql (t 41) (.c (.int .i32 108))),m 48 49]) (C 48 (O [fa 50 0 8,n (.st 1 (t 50) (f jv))]) (Q (O [o 52 (.ar
 .eql (t 41) (.c (.int .i32 100))),m 51 52]) (C 51 (O [fa 53 0 8,n (.st 1 (t 53) (f el))]) (Q (O [o 55 (.ar .eql (t 41) (.c (.int .i32 115))),m 54 55]) (C 54 (O [fa
 56 0 8,n (.st 1 (t 56) (f fb))]) (Q (O [o 58 (.ar .eql (t 41) (.c (.int .i32 112))),m 57 58]) (C 57 (O [fa 59 0 8,n (.st 1 (t 59) (f eK))]) (Q (O [o
 61 (.ar .eql (t 41) (.c (.int .i32 104))),m 60 61]) (C 60 (O [fa 62 0 8,n (.st 1 (t 62) (f jw))]) (Q (O [o 64 (.ar .eql (t 41) (.c (.int .i32 46))),m 63 64]) (C 63 (O
 [fa 65 0 8,n (.st 1 (t 65) (f jx))]) (Q (O [o 67 (.ar .eql (t 41) (.c (.int .i32 37))),m 66 67]) (C 66 (O [fa 68 0 8,n (.st 1 (t 68) (f jy))]) (Q (O [o 70
 (.ar .eql (t 41) (.c (.int .i32 98))),m 69 70]) (C 69 X (Q (O [mc 2 (.c (.slice .nil 1 [])),mc 3 F]) R))))))))))))))))))))))) (Q (O [m 71 4,la 72 1 8,o 73 (.bs 1 [.nilfn] 1 [(0,
 (t 72))]),o 74 (.ap false cq 1 8 false (t 71) (t 73)),m 4 74]) (Y [4,5,6])))))))) (ic 18 6 19)))
def rW:AC:=
 (Q (O [mc 2 (.c (.slice .nil 1 [])),mc 3 F]) (Q (Q (O [m 9 0,k1 10 gI 9,no 11 10]) (C 11 (Q (O [mc 2 (.c (.slice .nil 1 [])),mc 3 F]) R) X)) (Q (O [mc 4 (.c (.slice
 .nil 1 []))]) (Q (O [m 12 0,o 13 (.cvsr (t 12)),m 5 13]) (Q (Q (O [mc 6 (i 0)]) (Q (.block 0 (.loop ⟨(some [4,5,6]),[(4,1,cq)],false⟩ eW)) (Y [4]))) (Q
 (O [m 75 4,m 2 75,mc 3 T]) R))))))
def lJ:AFn:=⟨rW,76,[.t 2,.t 3],.deep,[],none⟩
theorem gC:qf lJ [.t 2,.t 3] .deep:=⟨rfl,rfl,rfl⟩
def mD:AC:=
 (Q (O [o 3 (.bx dV (t 0)),mc 6 F]) (Q (Q (O [fa 7 0 3,ld 8 7,m 9 1,m 10 2,k 11 (f rO) [(t 8),(t 9),(t 10)],m 12 11,g 13 12 (.fa 1 (t 3)),g 14 12 (.ld
 none (t 13)),g 15 12 (.mv (t 1)),g 16 12 (.mv (t 2)),⟨(some 17),(some (12,true)),(.call (.c (.fn (.func qo) [] [])) [(.t 14),(.t 15),(.t 16)])⟩,pf 18 12 17,m 6
 18]) (Y [6])) R))
def jX:AFn:=⟨mD,19,[.t 6],.drop,[],none⟩
theorem xS:qf jX [.t 6] .drop:=⟨rfl,rfl,rfl⟩
def cH:AC:=
 (Q (O [mc 4 F]) (Q (Q (O [m 5 0,m 6 1,k2 7 cW 5 6,ac 8 .geq 7 (i 0),m 4 8]) (Y [4])) R))
def cI:AFn:=⟨cH,9,[.t 4],.drop,[],none⟩
theorem hZ:qf cI [.t 4] .drop:=⟨rfl,rfl,rfl⟩
def pb:AC:=
 (Q (O [o 1 (.bx ah (t 0)),mc 2 F]) (Q (O [fa 3 2 1,ld 4 3,m 2 4]) R))
def pc:AFn:=⟨pb,5,[.t 2],.drop,[],none⟩
theorem Bf:qf pc [.t 2] .drop:=⟨rfl,rfl,rfl⟩
def xU:AC:=
 (Q (O [o 26 (.nx (t 25)),ex 27 26 0]) (Q (C 27 X (.exit 3)) (.block 4 (Q (O [ex 28 26 2,m 6 28]) (Q (Q (O [m 29 0,m 30 6,o 31 (.bd [(.int .i32 0),(.bool false)] [(0,1),(1,
 1)] [(0,(t 30))]),k 32 (t 29) [(t 31)],no 33 32]) (Y [0,7,8,9,25,33])) (C 33 (.exit 0) X))))))
def xV:AC:=
 (Q (O [bl 10 9 8]) (Q (C 10 X (.exit 0)) (Q (Q (.block 1 (Q (Q (O [ia 11 3 7 9,la 12 3 11,o 4 (.nw [(.int .u8 0),(.str []),(.bool false)] ah),n (.st 3 (t 4) (t 12))])
 (Y [0,4,7,8,9])) (Q (O [fa 13 0 4,ld 14 13]) (Q (.block 2 (Q (O [ac 16 .eql 14 (u 5),m 15 16]) (C 15 (Q (Q (O [m 17 0,o 18 (.bd [(.int .i32 0),(.bool false)] [(0,1),(1,
 1)] [(1,T)]),k 19 (t 17) [(t 18)],no 20 19]) (Y [0,7,8,9,20])) (C 20 (.exit 0) X)) (Q (O [ac 22 .eql 14 (u 1),m 21 22]) (C 21 (Q (O [fa 23 1 4,ld 24 23,o 25 (.rg (t 24))])
 (Q (.block 3 (lo [0,7,8,9,25] xU)) (Y [0,7,8,9]))) X))))) (Y [0,7,8,9]))))) (Y [0,7,8,9])) (O [ad 34 9,m 9 34]))))
def Bg:AC:=
 (.scope (Q (.lbl 0) (Q (O [ld 7 1,ls 8 7,mc 9 (i 0)]) (Q (.block 0 (lc [0,7,8,9] xV)) (Y [])))) X)
def tN:AFn:=⟨Bg,35,[],.drop,[],none⟩
def kF:AC:=
 (Q (O [o 1 (.bx aZ (t 0)),mc 2 F]) (Q (Q (O [fa 3 1 1,ld 4 3,no 5 4,m 6 5,g 7 6 (.fa 0 (t 1)),g 8 6 (.ld none (t 7)),g 9 6 (.ar .geq (t 8) (.c (.int .i32 65))),g 10
 6 (.mv (t 9)),g 11 10 (.fa 0 (t 1)),g 12 10 (.ld none (t 11)),g 13 10 (.ar .leq (t 12) (.c (.int .i32 90))),g 14 6 (.pk (t 10) (t 13) F),g 15 6 (.mv (t 14)),h 16 15 (.fa 0 (t
 1)),h 17 15 (.ld none (t 16)),h 18 15 (.ar .geq (t 17) (.c (.int .i32 97))),h 19 15 (.mv (t 18)),g 20 19 (.fa 0 (t 1)),g 21 19 (.ld none (t 20)),g 22 19 (.ar .leq (t 21) (.c
 (.int .i32 122))),h 23 15 (.pk (t 19) (t 22) F),g 24 6 (.pk (t 15) T (t 23)),g 25 6 (.mv (t 24)),h 26 25 (.fa 0 (t 1)),h 27 25 (.ld none (t 26)),h 28 25 (.ar .gtr (t 27) (.c
 (.int .i32 127))),g 29 6 (.pk (t 25) T (t 28)),pf 30 6 29,m 2 30]) (Y [2])) R))
def iz:AFn:=⟨kF,31,[.t 2],.drop,[],none⟩
theorem vE:qf iz [.t 2] .drop:=⟨rfl,rfl,rfl⟩
def lK:AC:=
 (Q (O [o 1 (.bx aZ (t 0)),mc 2 F]) (Q (Q (O [fa 3 1 1,ld 4 3,no 5 4,m 6 5,g 7 6 (.fa 0 (t 1)),g 8 6 (.ld none (t 7)),g 9 6 (.ar .geq (t 8) (.c (.int .i32 48))),pf
 10 6 9,m 11 10,g 12 11 (.fa 0 (t 1)),g 13 11 (.ld none (t 12)),g 14 11 (.ar .leq (t 13) (.c (.int .i32 57))),pf 15 11 14,m 2 15]) (Y [2])) R))
def jk:AFn:=⟨lK,16,[.t 2],.drop,[],none⟩
theorem wW:qf jk [.t 2] .drop:=⟨rfl,rfl,rfl⟩
def lL:AC:=
 (Q (O [o 1 (.bx aZ (t 0)),mc 2 F]) (Q (Q (O [fa 3 1 1,ld 4 3,no 5 4,m 6 5,g 7 6 (.fa 0 (t 1)),g 8 6 (.ld none (t 7)),g 9 6 (.ar .eql (t 8) (.c (.int .i32 32))),pf
 10 6 9,m 2 10]) (Y [2])) R))
def jl:AFn:=⟨lL,11,[.t 2],.drop,[],none⟩
theorem wX:qf jl [.t 2] .drop:=⟨rfl,rfl,rfl⟩
def b5:AC:=
 (.block 1 (Q (O [ld 8 2,la 9 2 5,o 10 (.bs 2 [(.int .i32 0),(.bool false)] 1 [(0,(t 9))]),o 11 (.ap false aZ 2 8 false (t 8) (t 10)),n (.st 1 (t 2) (t 11))]) (Y [])))
def dt:AC:=
 (Q (O [o 2 (.bx dF (t 0)),mc 4 (.c (.slice .nil 2 []))]) (Q (Q (O [m 6 1]) (Q (.block 0 (.rfn (.t 6) [7] [[o 5 (.nw [(.int .i32 0),(.bool false)] aZ),n (.st
 2 (t 5) (t 7))]] b5)) (Y [2]))) (Q (O [ld 12 2,m 4 12]) R)))
def aK:AFn:=⟨dt,13,[.t 4],.drop,[],none⟩
theorem cu:qf aK [.t 4] .drop:=⟨rfl,rfl,rfl⟩
def eX:AC:=
 (Q (Q (O [m 11 2,ac 12 .geq 11 (i 0)]) (C 12 X (.exit 0))) (Q (.block 1 (Q (O [m 15 0,m 16 0,o 17 (.nc (t 16)),fa 18 4 17,ld 19 18,m 20 2,ia 21 1 19 20,ld 22 21,o 23 (.bd
 [(.int .u8 0),(.str []),(.bool false)] [(0,1),(1,1),(2,1)] [(0,(u 3)),(1,(t 22)),(2,T)]),k2 24 br 15 23]) (Y [0,2]))) (O [m 13 2,ac 14 .sub 13 (i 1),m
 2 14])))
def eY:AC:=
 (Q (O [bl 40 39 38]) (Q (C 40 X (.exit 2)) (Q (.block 3 (Q (O [ia 41 1 37 39,ld 42 41,m 4 42]) (Q (O [m 43 0,m 44 4,o 45 (.bd [(.int .u8 0),(.str []),(.bool false)] [(0,1),
 (1,1),(2,1)] [(0,(u 2)),(1,(t 44)),(2,T)]),k2 46 br 43 45]) (Y [0,37,38,39])))) (O [ad 47 39,m 39 47]))))
def kG:AC:=
 (Q (Q (Q (O [m 5 0,o 6 (.nc (t 5)),fa 7 4 6,ld 8 7,ls 9 8,ac 10 .sub 9 (i 1),m 2 10]) (Y [0,2])) (Q (.block 0 (lo [0,2] eX)) (Y [0]))) (Q (Q (O [m 25 0,m
 26 0,o 27 (.nc (t 26)),fa 28 0 27,ld 29 28,o 30 (.bm al 1 [(.slice .nil 0 [])] 1 [(0,(.c (.slice .nil 3 [])))]),o 31 (.ap true al 1 24 false (t 29) (t
 30)),o 32 (.nc (t 25)),fa 33 0 32,n (.st 1 (t 33) (t 31))]) (Y [0])) (Q (Q (Q (O [m 34 0,o 35 (.nc (t 34)),fa 36 4 35,ld 37 36,ls 38 37,mc 39 (i 0)]) (Y [0,37,38,39])) (Q
 (.block 2 (lo [0,37,38,39] eY)) (Y [0]))) (Q (O [m 48 0,o 49 (.nc (t 48)),fa 50 3 49,n (.st 1 (t 50) F)]) (Y [])))))
def du:AFn:=⟨kG,51,[],.keep,[4],none⟩
theorem fO:qf du [] .keep:=⟨rfl,rfl,rfl⟩
def aF:AC:=
 (Q (O [bl 9 8 7]) (Q (C 9 X (.exit 0)) (Q (.block 1 (Q (O [m 10 8,m 5 10]) (Q (Q (O [m 11 1,m 12 0,m 13 5,ia 14 1 12 13,ld 15 14,k 16 (t 11) [(t 15)]]) (Y [0,1,5,7,8,
 16])) (C 16 (Q (O [m 17 5,m 4 17]) R) X)))) (O [ad 18 8,m 8 18]))))
def bE:AC:=
 (Q (O [mc 4 (i 0)]) (Q (Q (O [m 6 0,ls 7 6,mc 8 (i 0)]) (Q (.block 0 (lo [0,1,7,8] aF)) (Y []))) (rt 4 (i (-1)))))
def aR:AFn:=⟨bE,19,[.t 4],.drop,[],none⟩
theorem bG:qf aR [.t 4] .drop:=⟨rfl,rfl,rfl⟩
def rX:AC:=
 (Q (O [o 1 (.bx ah (t 0)),mc 2 F]) (Q (Q (O [fa 3 0 1,ld 4 3,ac 5 .neq 4 (u 1),m 2 5]) (Y [2])) R))
def rY:AFn:=⟨rX,6,[.t 2],.drop,[],none⟩
theorem EO:qf rY [.t 2] .drop:=⟨rfl,rfl,rfl⟩
def pd:AC:=
 (Q (O [o 2 (.bx aZ (t 0)),mc 3 F]) (Q (Q (O [fa 4 1 2,ld 5 4,no 6 5,m 7 6,g 8 7 (.fa 0 (t 2)),g 9 7 (.ld none (t 8)),g 10 7 (.ld none (t 1)),g 11 7 (.ar .eql (t 9)
 (t 10)),pf 12 7 11,m 3 12]) (Y [3])) R))
def lM:AFn:=⟨pd,13,[.t 3],.drop,[],none⟩
theorem Bh:qf lM [.t 3] .drop:=⟨rfl,rfl,rfl⟩
def pg:AC:=
 (Q (O [o 1 (.bx aZ (t 0)),mc 2 F]) (Q (Q (O [fa 3 1 1,ld 4 3,no 5 4,m 6 5,g 7 6 (.fa 0 (t 1)),g 8 6 (.ld none (t 7)),g 9 6 (.ar .geq (t 8) (.c (.int .i32 65))),pf
 10 6 9,m 11 10,g 12 11 (.fa 0 (t 1)),g 13 11 (.ld none (t 12)),g 14 11 (.ar .leq (t 13) (.c (.int .i32 90))),pf 15 11 14,m 2 15]) (Y [2])) R))
def lN:AFn:=⟨pg,16,[.t 2],.drop,[],none⟩
theorem Bi:qf lN [.t 2] .drop:=⟨rfl,rfl,rfl⟩
def ph:AC:=
 (Q (O [o 1 (.bx aZ (t 0)),mc 2 F]) (Q (Q (O [fa 3 1 1,ld 4 3,no 5 4,m 6 5,g 7 6 (.fa 0 (t 1)),g 8 6 (.ld none (t 7)),g 9 6 (.ar .geq (t 8) (.c (.int .i32 97))),pf
 10 6 9,m 11 10,g 12 11 (.fa 0 (t 1)),g 13 11 (.ld none (t 12)),g 14 11 (.ar .leq (t 13) (.c (.int .i32 122))),pf 15 11 14,m 2 15]) (Y [2])) R))
def lO:AFn:=⟨ph,16,[.t 2],.drop,[],none⟩
theorem Bj:qf lO [.t 2] .drop:=⟨rfl,rfl,rfl⟩
def pj:AC:=
 (Q (O [o 1 (.bx aZ (t 0)),mc 2 F]) (Q (O [fa 3 1 1,ld 4 3,m 2 4]) R))
def lP:AFn:=⟨pj,5,[.t 2],.drop,[],none⟩
theorem Bk:qf lP [.t 2] .drop:=⟨rfl,rfl,rfl⟩
def pn:AC:=
 (Q (O [o 1 (.bx aZ (t 0)),mc 2 F]) (rt 2 T))
def lQ:AFn:=⟨pn,3,[.t 2],.drop,[],none⟩
theorem Bl:qf lQ [.t 2] .drop:=⟨rfl,rfl,rfl⟩
def po:AC:=
 (Q (O [o 1 (.bx aZ (t 0)),mc 2 F]) (Q (Q (O [fa 3 1 1,ld 4 3,no 5 4,m 6 5,g 7 6 (.fa 0 (t 1)),g 8 6 (.ld none (t 7)),g 9 6 (.ar .eql (t 8) (.c (.int .i32 37))),pf
 10 6 9,m 2 10]) (Y [2])) R))
def lR:AFn:=⟨po,11,[.t 2],.drop,[],none⟩
theorem Bm:qf lR [.t 2] .drop:=⟨rfl,rfl,rfl⟩
def fP:AC:=
 (Q (Q (O [m 11 7,ac 12 .geq 11 (i 0)]) (C 12 X (.exit 0))) (Q (.block 1 (Q (Q (Q (O [m 15 0,m 16 7,ia 17 1 15 16,fa 18 0 17,ld 19 18,o 20 (.eq false .fn (t 19) (.c .nilfn))])
 (Y [0,1,2,7,20])) (C 20 (Q (Q (Q (O [m 21 1,m 22 2,k2 23 p6 21 22,no 24 23]) (Y [0,1,2,7,24])) (C 24 (rt 6 F) X)) (.exit 1)) X)) (Q (Q (Q (D [Pm 25 2,P (ac 26
 .eql 25 (i 0)),Pm 27 26,P (h 28 27 (.mv (t 0))),P (h 29 27 (.mv (t 7))),P (h 30 27 (.ias 1 (t 28) (t 29))),P (h 31 27 (.fa 0 (t 30))),W (h 32 27 (.ld none (t 31))),P (h 33 27
 (.mv (t 1))),P (h 34 27 (.mv (t 2))),P (h 35 27 (.ar .sub (t 34) (i 1))),P (h 36 27 (.ias 2 (t 33) (t 35))),W (h 37 27 (.ld (some 2) (t 36))),E (⟨(some 38),(some (27,false)),
 (.call (.t 32) [(.t 37)])⟩),P (h 39 27 (.un .not (t 38))),P (pt 40 27 39)]) (Y [0,1,2,7,40])) (C 40 (rt 6 F) X)) (O [m 41 2,ac 42 .sub 41 (i 1),m 2 42])))) (O [m 13 7,ac 14
 .sub 13 (i 1),m 7 14])))
def rZ:AC:=
 (Q (O [mc 6 F]) (Q (Q (Q (O [m 8 0,ls 9 8,ac 10 .sub 9 (i 1),m 7 10]) (Y [0,1,2,7])) (Q (.block 0 (lo [0,1,2,7] fP)) (Y []))) (rt 6 T)))
def jY:AFn:=⟨rZ,43,[.t 6],.drop,[],none⟩
theorem lS:qf jY [.t 6] .drop:=⟨rfl,rfl,rfl⟩
def fm:AC:=
 (Q (O [bl 12 11 10]) (Q (C 12 X (.exit 0)) (Q (.block 1 (Q (Q (O [ia 13 1 9 11,la 14 1 13,o 8 (.nw [.nilfn] cq),n (.st 1 (t 8) (t 14))]) (Y [1,2,8,9,10,11])) (Q (Q
 (O [fa 15 0 8,ld 16 15,o 17 (.eq false .fn (t 16) (.c .nilfn))]) (C 17 (Q (Q (Q (O [m 18 1,m 19 2,k2 20 p6 18 19,no 21 20]) (Y [1,2,9,10,11,21])) (C 21 (rt 6 F)
 X)) (.exit 1)) X)) (Q (Q (Q (D [Pm 22 2,Pm 23 1,W (ls 24 23),P (ar 25 .eql 22 24),Pm 26 25,P (h 27 26 (.fa 0 (t 8))),W (h 28 26 (.ld none (t 27))),P (h 29 26 (.mv (t 1))),P
 (h 30 26 (.mv (t 2))),P (h 31 26 (.ias 2 (t 29) (t 30))),W (h 32 26 (.ld (some 2) (t 31))),E (⟨(some 33),(some (26,false)),(.call (.t 28) [(.t 32)])⟩),P (h 34 26 (.un .not (t
 33))),P (pt 35 26 34)]) (Y [1,2,9,10,11,35])) (C 35 (rt 6 F) X)) (ic 36 2 37))))) (O [ad 38 11,m 11 38]))))
def qv:AC:=
 (Q (O [mc 6 F]) (Q (Q (O [m 9 0,ls 10 9,mc 11 (i 0)]) (Q (.block 0 (lc [1,2,9,10,11] fm)) (Y []))) (rt 6 T)))
def iS:AFn:=⟨qv,39,[.t 6],.drop,[],none⟩
theorem ku:qf iS [.t 6] .drop:=⟨rfl,rfl,rfl⟩
def aE:AC:=
 (Q (O [bl 9 8 7]) (Q (C 9 X (.exit 0)) (Q (.block 1 (Q (O [m 10 8,m 5 10]) (Q (Q (O [m 11 1,m 12 0,m 13 5,ia 14 3 12 13,la 15 3 14,k 16 (t 11) [(t 15)]]) (Y [0,1,5,7,8,
 16])) (C 16 (Q (O [m 17 5,m 4 17]) R) X)))) (O [ad 18 8,m 8 18]))))
def bu:AC:=
 (Q (O [mc 4 (i 0)]) (Q (Q (O [m 6 0,ls 7 6,mc 8 (i 0)]) (Q (.block 0 (lo [0,1,7,8] aE)) (Y []))) (rt 4 (i (-1)))))
def aT:AFn:=⟨bu,19,[.t 4],.drop,[],none⟩
theorem bw:qf aT [.t 4] .drop:=⟨rfl,rfl,rfl⟩
def tO:AC:=
 (Q (O [mc 4 F]) (Q (Q (O [m 5 1,ac 6 .eql 5 (i 0),m 7 6,h 8 7 (.mv (t 1)),h 9 7 (.mv (t 0)),h 10 7 (.len .sl (t 9)),h 11 7 (.ar .eql (t 8) (t 10)),pt 12 7 11,m 13 12,h 14
 13 (.mv (t 0)),h 15 13 (.mv (t 1)),h 16 13 (.ar .sub (t 15) (i 1)),h 17 13 (.ias 2 (t 14) (t 16)),h 18 13 (.ld (some 2) (t 17)),⟨(some 19),(some (13,false)),(.call (.c (.fn
 (.func fC) [] [])) [(.t 18)])⟩,h 20 13 (.un .not (t 19)),pt 21 13 20,m 22 21,h 23 22 (.mv (t 0)),h 24 22 (.mv (t 1)),h 25 22 (.ias 2 (t 23) (t 24)),h 26 22 (.ld
 (some 2) (t 25)),⟨(some 27),(some (22,false)),(.call (.c (.fn (.func fC) [] [])) [(.t 26)])⟩,h 28 22 (.un .not (t 27)),pt 29 22 28,m 4 29]) (Y [4])) R))
def p8:AFn:=⟨tO,30,[.t 4],.drop,[],none⟩
theorem tQ:qf p8 [.t 4] .drop:=⟨rfl,rfl,rfl⟩
end Go.Am
end
