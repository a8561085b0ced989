import Derived.Test.YtnknpmlcimogcaaGreatDoorA2
import Derived.Recover
/-
  Part 3 of the tool: an abstract machine over the model, proved sound, and what it says of the functions that the law reaches. Condition: none but those that each theorem names.
-/
set_option linter.unusedVariables false
set_option linter.unusedSimpArgs false
set_option maxRecDepth 100000
set_option maxHeartbeats 4000000
namespace Go.Am
open Go.RowKit
structure FR (K K':ak):Prop where
 imm:K'.imm=K.imm
 own:K'.own=K.own
 loc:K'.loc=K.loc
 base:K'.base=K.base
 w0:K'.w0=K.w0
 glob:K'.glob=K.glob
 rows:∀ b s,K.shape b=some s→(∀ o,s≠.fix o)→K'.shape b=some s
theorem V.turned{K K':ak}(h:FR K K'){v:AV}{x:Value}(hv:V K v x):V K' v x:=by
 induction hv with
 |unk v=>exact .unk v
 |bool b=>exact .bool b
 |int k n=>exact .int k n
 |str s=>exact .str s
 |nilp=>exact .nilp
 |ptr id off b hb=>exact .ptr id off b (by rw [h.loc];exact hb)
 |vptr esz rows i off b o vs hl hi hv ih=>exact .vptr esz rows i off b o vs hl (by rw [h.imm];exact hi) ih
 |slice0 tag esz a ht=>exact .slice0 tag esz a (by rw [h.loc];exact ht)
 |sliceAny tag esz a cap h=>exact .sliceAny tag esz a cap h
 |slice tag esz rows b o cap vs hl hi hv hc ht ih=>exact .slice tag esz rows b o cap vs hl (by rw [h.imm];exact hi) ih hc (by cases tag<;>first | exact ht | (unfold zd at ht ⊢;rw [h.loc,h.own];exact ht))
 |rslice id off len esz room b cap hb hc hs=>exact .rslice id off len esz room b cap (by rw [h.loc];exact hb) hc (fun hr=>let ⟨n,h1,h2⟩:=hs hr;⟨n,h.rows _ _ h1 (fun _ e=>by cases e),h2⟩)
 |vmap es b mes hb hl hk hv ih1 ih2=>exact .vmap es b mes (h.rows _ _ hb (fun _ e=>by cases e)) hl ih1 ih2
 |nilmap=>exact .nilmap
 |map id b hb=>exact .map id b (by rw [h.loc];exact hb)
 |sdp0 t p=>exact .sdp0 t p
 |sdp t rows b cap vs htl ho hl hi hv hc ih=>exact .sdp t rows b cap vs (by rw [h.loc];exact htl) (by rw [h.own];exact ho) hl (by rw [h.imm];exact hi) ih hc
 |fn f first captured vs us h1 h2 hv hu ih1 ih2=>exact .fn f first captured vs us h1 h2 ih1 ih2
 |nilfn=>exact .nilfn
 |iface t v x hx ih=>exact .iface t v x ih
 |nilif=>exact .nilif
 |agg cs vs h1 hv ih=>exact .agg cs vs h1 ih
 |tuple cs vs h1 hv ih=>exact .tuple cs vs h1 ih
theorem Inv.turned{K K':ak}{H:List AObj}{w w':World}(hi:Inv K H w)(ht:FR K K')(hos:w'.os=w.os)(htp:w'.tape=w.tape)(hout:w'.output=w.output)(hsz:w.heap.size≤w'.heap.size)
  (hlow:∀ b:Nat,b<w.heap.size→¬ K.base b→w'.heap[b]?=w.heap[b]?) (hcm:∀ (b:Nat) (o:Obj),w.heap[b]?=some o→sW o=false→w'.heap[b]?=some o)
  (hsi:∀ (id:Nat) s p b,H[id]?=some (AObj.siter s p)→K.loc[id]?=some b→w'.heap[b]?=w.heap[b]?∧K'.shape b=none)
  (hmp:∀ (id:Nat) es b,H[id]?=some (AObj.map es)→K.loc[id]?=some b→K'.shape b=none)
  (hfx:∀ (b:Nat) (o:Obj),K'.shape b=some (.fix o)→w'.heap[b]?=some o∧sW o=true) (hrw:∀ (b:Nat) (s:Shp),K'.shape b=some s→(∀ o,s≠.fix o)→K.shape b=some s):Inv K' H w':=by
 refine ⟨?_,fun b h => ?_,fun b off v h => ?_,by rw [ht.loc];exact hi.len,fun id x hx => ?_,by rw [ht.loc];exact hi.inj,fun b t n h => ?_,fun g cs hg=>(hi.glob g cs (by rw [← ht.glob];exact hg)).turned ht,fun b s h => ?_⟩
 ·rw [ht.base,ht.w0]
  refine hi.below.trans ⟨hos,htp,hout,hsz,fun k hk => ?_⟩
  by_cases hlt:k<w.heap.size
  ·exact hlow k hlt hk
  ·exact absurd (hi.base k (by omega)) hk
 ·rw [ht.base];exact hi.base b (by omega)
 ·rw [ht.imm] at h
  have hc:=hi.imm b off v h;obtain ⟨vs,T,f,h',_⟩:=s6 hc;rw [iB ((hcm b _ h' rfl).trans h'.symm)];exact hc
 ·have:=hi.obj id x hx
  cases x with
  |dead=>trivial
  |tok=>trivial
  |cells cs T0=>
   obtain ⟨b,vs,T,h1,h2,h3,h4,h5,h6,h7,h8,h9⟩:=this;exact ⟨b,vs,T,by rw [ht.loc];exact h1,by rw [ht.base];exact h2,hcm b _ h3 rfl,h4,fun i av hiv=>(h5 i av hiv).turned ht,by rw [ht.imm];exact h6,by rw [ht.own];exact h7,ht.rows _ _ h8 (fun _ e=>by cases e),h9⟩
  |siter s p=>
   obtain ⟨b,h1,h2,h3,h4⟩:=this;obtain ⟨e1,e2⟩:=hsi id s p b hx h1;exact ⟨b,by rw [ht.loc];exact h1,by rw [ht.base];exact h2,e1.trans h3,e2⟩
  |map es=>
   obtain ⟨b,me,cl,h1,h2,h3,h4,h5,h9⟩:=this;refine ⟨b,me,cl,by rw [ht.loc];exact h1,by rw [ht.base];exact h2,hcm b _ h3 rfl,h4,fun i k v hiv => ?_,hmp id es b hx h1⟩;obtain ⟨e,he,h6,h7⟩:=h5 i k v hiv;exact ⟨e,he,h6.turned ht,h7.turned ht⟩
 ·rw [ht.own] at h
  obtain ⟨h1,fr,vs,T,lo,hh,h2,h3,h4⟩:=hi.own b t n h;exact ⟨by rw [ht.base];exact h1,fr,vs,T,lo,hh,h2,hcm b _ h3 rfl,by rw [ht.imm];exact h4⟩
 ·by_cases hf:∃ o,s = .fix o
  ·obtain ⟨o,rfl⟩:=hf
   exact hfx b o h
  ·have:=hi.shape b s (hrw b s h fun o e=>hf ⟨o,e⟩)
   cases s with
   |rows n=>obtain ⟨vs,T,f,h1,h2⟩:=this;exact ⟨vs,T,f,hcm b _ h1 rfl,h2⟩
   |mapv es=>obtain ⟨c,h1⟩:=this;exact ⟨c,hcm b _ h1 rfl⟩
   |fix o=>exact absurd ⟨o,rfl⟩ hf
def ak.dim(B:Nat)(K:ak):ak:=
 {K with
  shape:=fun b=>match K.shape b with
   |some (.fix o)=>if b<B then some (.fix o) else none
   |s=>s }
def ak.pin(B:Nat)(W:World)(K:ak):ak:=
 {K with
  shape:=fun b=>if B≤b then (match W.heap[b]? with
   |some o=>if sW o=true then some (.fix o) else K.shape b
   |none=>K.shape b) else K.shape b }
structure Low (B:Nat) (K:ak) (H:List AObj):Prop where
 iter:∀ (id b:Nat) (s:List UInt8) (p:Nat),H[id]?=some (AObj.siter s p)→K.loc[id]?=some b→b<B
 fix:∀ (b:Nat) (o:Obj),K.shape b=some (.fix o)→b<B
theorem MA(B:Nat)(K:ak):FR K (K.dim B):=⟨rfl,rfl,rfl,rfl,rfl,rfl,fun b s h hs=>by
 show (match K.shape b with | some (.fix o)=>if b<B then some (.fix o) else none | s=>s)=some s;rw [h];cases s with
 |fix o=>exact absurd rfl (hs o)
 |_=>rfl⟩
theorem NI{B:Nat}{K:ak}{b:Nat}{o:Obj}(h:(K.dim B).shape b=some (.fix o)):b<B∧K.shape b=some (.fix o):=by
 have h':(match K.shape b with | some (.fix o)=>if b<B then some (.fix o) else none | s=>s)=some (.fix o):=h;split at h'
 ·rename_i o' e
  split at h'
  ·cases h';exact ⟨by assumption,e⟩
  ·cases h'
 ·rename_i hn;exact absurd h' (hn o)
theorem KN{B:Nat}{K:ak}{b:Nat}(h:K.shape b=none):(K.dim B).shape b=none:=by
 show (match K.shape b with | some (.fix o)=>if b<B then some (.fix o) else none | s=>s)=none;rw [h]
theorem PX{B:Nat}{K:ak}{b:Nat}{s:Shp}(h:(K.dim B).shape b=some s)(hs:∀ o,s≠.fix o):K.shape b=some s:=by
 have h':(match K.shape b with | some (.fix o)=>if b<B then some (.fix o) else none | s=>s)=some s:=h;split at h'
 ·split at h'
  ·cases h';exact absurd rfl (hs _)
  ·cases h'
 ·exact h'
theorem Inv.dim{K:ak}{H:List AObj}{w:World}(hi:Inv K H w)(B:Nat):Inv (K.dim B) H w:=by
 refine hi.turned (MA B K) rfl rfl rfl (Nat.le_refl _) (fun _ _ _=>rfl) (fun _ _ h _=>h) (fun id s p b hx hb=>⟨rfl, ?_⟩) (fun id es b hx hb => ?_) (fun b o h => ?_) fun b s h hs=>PX h hs
 ·obtain ⟨b',h1,_,_,h4⟩:=hi.obj id _ hx
  rw [hb] at h1;cases h1;exact KN h4
 ·obtain ⟨b',_,_,h1,_,_,_,_,h4⟩:=hi.obj id _ hx
  rw [hb] at h1;cases h1;exact KN h4
 ·exact hi.shape b _ (NI h).2
theorem Uu{K0 K:ak}(h:K0.le K){B:Nat}(hB:∀ b s,K0.shape b=some s→b<B)(hb:∀ b,B≤b→K.base b):K0.le (K.dim B):=
 ⟨h.imm,h.own,h.loc,h.base,h.w0,h.glob,fun b s hs=>by
  have h1:=h.shape b s hs;show (match K.shape b with | some (.fix o)=>if b<B then some (.fix o) else none | s=>s)=some s;rw [h1];cases s with
  |fix o=>exact if_pos (hB b _ hs)
  |_=>rfl,fun b hbb=>⟨(h.low b hbb).1,by
  have hlt:b<B:=Nat.lt_of_not_le fun e=>hbb (by rw [← h.base];exact hb b e)
  have h2:=(h.low b hbb).2;show (match K.shape b with | some (.fix o)=>if b<B then some (.fix o) else none | s=>s)=K0.shape b;rw [h2];split
  ·rename_i o e;rw [if_pos hlt,e]
  ·rfl⟩⟩
theorem JA{B:Nat}{W:World}{K:ak}{b:Nat}{o:Obj}(hB:B≤b)(h:W.heap[b]?=some o)(ho:sW o=true):(K.pin B W).shape b=some (Shp.fix o):=by
 show (if B≤b then (match W.heap[b]? with
   |some o=>if sW o=true then some (.fix o) else K.shape b
   |none=>K.shape b) else K.shape b)=_
 rw [if_pos hB,h];exact if_pos ho
theorem C6{B:Nat}{W:World}{K:ak}{b:Nat}(h:b<B∨∀ o,W.heap[b]?=some o→sW o=false):(K.pin B W).shape b=K.shape b:=by
 show (if B≤b then (match W.heap[b]? with
   |some o=>if sW o=true then some (.fix o) else K.shape b
   |none=>K.shape b) else K.shape b)=_
 split
 ·rename_i hB
  rcases h with h | h
  ·omega
  ·split
   ·rename_i o ho;rw [if_neg (by rw [h o ho];simp)]
   ·rfl
 ·rfl
theorem Inv.shape_cm{K:ak}{H:List AObj}{w:World}(hi:Inv K H w){b:Nat}{s:Shp}(h:K.shape b=some s)(hs:∀ o,s≠.fix o):∀ o:Obj,w.heap[b]?=some o→sW o=false:=by
 intro o ho;have:=hi.shape b s h;cases s with
 |rows n=>obtain ⟨vs,T,f,h1,_⟩:=this;rw [h1] at ho;cases ho;rfl
 |mapv es=>obtain ⟨c,h1⟩:=this;rw [h1] at ho;cases ho;rfl
 |fix o=>exact absurd rfl (hs o)
theorem MB{K:ak}{H:List AObj}{w:World}(hi:Inv K H w)(B:Nat):FR K (K.pin B w):=
 ⟨rfl,rfl,rfl,rfl,rfl,rfl,fun b s h hs=>(C6 (.inr (hi.shape_cm h hs))).trans h⟩
theorem Inv.pin{K:ak}{H:List AObj}{w:World}(hi:Inv K H w){B:Nat}(hl:Low B K H):Inv (K.pin B w) H w:=by
 refine hi.turned (MB hi B) rfl rfl rfl (Nat.le_refl _) (fun _ _ _=>rfl) (fun _ _ h _=>h) (fun id s p b hx hb=>⟨rfl, ?_⟩) (fun id es b hx hb => ?_) (fun b o h => ?_) fun b s h hs => ?_
 ·obtain ⟨b',h1,_,_,h4⟩:=hi.obj id _ hx
  rw [hb] at h1;cases h1;exact (C6 (.inl (hl.iter id _ s p hx hb))).trans h4
 ·obtain ⟨b',_,_,h1,_,h3,_,_,h4⟩:=hi.obj id _ hx
  rw [hb] at h1;cases h1;exact (C6 (.inr fun o ho=>by rw [h3] at ho;cases ho;rfl)).trans h4
 ·have h':(if B≤b then (match w.heap[b]? with
   |some o=>if sW o=true then some (.fix o) else K.shape b
   |none=>K.shape b) else K.shape b)=some (Shp.fix o):=h
  split at h'
  ·split at h'
   ·rename_i o' ho'
    split at h'
    ·cases h';exact ⟨ho',by assumption⟩
    ·exact hi.shape b _ h'
   ·exact hi.shape b _ h'
  ·exact hi.shape b _ h'
 ·have h':(if B≤b then (match w.heap[b]? with
   |some o=>if sW o=true then some (.fix o) else K.shape b
   |none=>K.shape b) else K.shape b)=some s:=h
  split at h'
  ·split at h'
   ·split at h'
    ·cases h';exact absurd rfl (hs _)
    ·exact h'
   ·exact h'
  ·exact h'
theorem PY{K:ak}{H:List AObj}{w:World}(hi:Inv K H w){B:Nat}(hl:Low B K H)(hb:∀ b,B≤b→K.base b):K.le (K.pin B w):=
 ⟨fun _ _ _ h=>h,fun _ _ h=>h,fun _ _ h=>h,rfl,rfl,rfl,fun b s h=>by
  by_cases hs:∃ o,s = .fix o
  ·obtain ⟨o,rfl⟩:=hs
   exact (C6 (.inl (hl.fix b o h))).trans h
  ·exact (C6 (.inr (hi.shape_cm h fun o e=>hs ⟨o,e⟩))).trans h,fun b hbb=>⟨fun _=>rfl,C6 (.inl (Nat.lt_of_not_le fun e=>hbb (hb b e)))⟩⟩
def ak.refix(K:ak)(D:Nat)(o:Obj):ak := { K with shape:=fun b=>if b=D then some (.fix o) else K.shape b }
theorem Cr{K:ak}{D:Nat}{o o':Obj}(hD:K.shape D=some (.fix o)):FR K (K.refix D o'):=⟨rfl,rfl,rfl,rfl,rfl,rfl,fun b s h hs=>by
 show (if b=D then _ else _)=_;rw [if_neg (fun e=>by subst e;rw [hD] at h;cases h;exact hs _ rfl)];exact h⟩
theorem Inv.refix{K:ak}{H:List AObj}{w:World}(hi:Inv K H w){D:Nat}{o o':Obj}(hD:K.shape D=some (.fix o))(hb:K.base D)(ho:sW o'=true):Inv (K.refix D o') H (w.putObj D o'):=by
 obtain ⟨hD1,hD2⟩:=hi.shape D _ hD;have hlt:=(Array.getElem?_eq_some_iff.1 hD1).1;have hne:∀ b,b≠D→(w.putObj D o').heap[b]?=w.heap[b]? := fun b hb=>World.putObj_heap_other hb
 have hsh:∀ b,K.shape b=none→(K.refix D o').shape b=none:=fun b h=>by
  show (if b=D then _ else _)=_;rw [if_neg (fun e=>by subst e;rw [hD] at h;cases h)];exact h
 refine hi.turned (Cr hD) rfl rfl rfl (by simp) (fun b _ hbb=>hne b fun e=>hbb (by rw [e];exact hb)) (fun b o2 h h2=>(hne b fun e=>by subst e;rw [hD1] at h;cases h;rw [hD2] at h2;cases h2).trans h) (fun id s p b hx hb => ?_) (fun id es b hx hb => ?_) (fun b o2 h => ?_) fun b s h hs => ?_
 ·obtain ⟨b',h1,_,_,h4⟩:=hi.obj id _ hx
  rw [hb] at h1;cases h1;exact ⟨hne b (fun e=>by subst e;rw [hD] at h4;cases h4),hsh b h4⟩
 ·obtain ⟨b',_,_,h1,_,h3,_,_,h4⟩:=hi.obj id _ hx
  rw [hb] at h1;cases h1;exact hsh b h4
 ·have h':(if b=D then _ else _)=some (Shp.fix o2):=h
  split at h'
  ·rename_i e;subst e;cases h';exact ⟨World.putObj_heap_same hlt,ho⟩
  ·rename_i e;obtain ⟨g1,g2⟩:=hi.shape b _ h';exact ⟨(hne b e).trans g1,g2⟩
 ·have h':(if b=D then _ else _)=some s:=h
  split at h'
  ·cases h';exact absurd rfl (hs _)
  ·exact h'
theorem PZ{K0 K:ak}(h:K0.le K){D:Nat}{o:Obj}(hb:K.base D)(hD:K0.shape D=none):K0.le (K.refix D o):=
 ⟨h.imm,h.own,h.loc,h.base,h.w0,h.glob,fun b s hs=>by
  show (if b=D then _ else _)=_;rw [if_neg (fun e=>by subst e;rw [hD] at hs;cases hs)];exact h.shape b s hs,fun b hbb=>⟨(h.low b hbb).1,by
  show (if b=D then _ else _)=_;rw [if_neg (fun e=>by subst e;exact hbb (by rw [← h.base];exact hb))];exact (h.low b hbb).2⟩⟩
theorem Inv.grown{K:ak}{H:List AObj}{w w':World}(hi:Inv K H w){B:Nat}(hl:Low B K H)(hb:∀ b,B≤b→K.base b){row:Option Nat}(hg:w.grownBy w' row)(ht:PV B w row):Inv K H w':=by
 have hne:∀ b o,w.heap[b]?=some o→(b<B∨sW o=false)→w'.heap[b]?=some o:=fun b o h hb=>by
  refine (hg.block b (Array.getElem?_eq_some_iff.1 h).1 fun e => ?_).trans h;obtain ⟨h1,o',h2,h3⟩:=ht b e.symm;rw [h] at h2;cases h2;rcases hb with hb | hb
  ·omega
  ·rw [hb] at h3;cases h3
 refine hi.turned (K':=K) ⟨rfl,rfl,rfl,rfl,rfl,rfl,fun _ _ h _=>h⟩ hg.os hg.tape hg.output hg.size (fun b hlt hbb=>hg.block b hlt fun e=>hbb (hb b (ht b e.symm).1)) (fun b o h ho=>hne b o h (.inr ho)) (fun id s p b hx hb => ?_) (fun id es b hx hb => ?_) (fun b o h => ?_) fun b s h _=>h
 ·obtain ⟨b',h1,_,h3,h4⟩:=hi.obj id _ hx
  rw [hb] at h1;cases h1;exact ⟨(hne _ _ h3 (.inl (hl.iter id _ s p hx hb))).trans h3.symm,h4⟩
 ·obtain ⟨b',_,_,h1,_,_,_,_,h4⟩:=hi.obj id _ hx
  rw [hb] at h1;cases h1;exact h4
 ·obtain ⟨h1,h2⟩:=hi.shape b _ h
  exact ⟨hne b o h1 (.inl (hl.fix b o h)),h2⟩
theorem Stb.putObj{B:Nat}{J:World→Prop}(h:Stb B J){W:World}{l:Nat}{o:Obj}(o':Obj)(hs:J W)(hB:B≤l)(hl:W.heap[l]?=some o)(ho:sW o=true):J (W.putObj l o'):=
 h W _ (some l) hs (grownBy_putObj' W l o') (fun r e=>by cases e;exact ⟨hB,o,hl,ho⟩)
theorem Stb.alloc{B:Nat}{J:World→Prop}(h:Stb B J){W:World}(o:Obj)(hs:J W):J (W.alloc o):=
 h W _ none hs (World.grownBy_alloc W o none) (fun r e=>by cases e)
def VT(l D:Nat)(rb:Loop)(I:Nat→World→Prop)(Ix:Code→World→Prop)(Kp:World→World→Prop)(i:Nat)(W:World):Exit→Act→World→Prop
 |.normal,_,W3=>W3.heap[l]?=some (.loop rb)∧W3.heap[D]?=some (.deferred (some []))∧I (i+1) W3∧Kp W W3
 |.ret,_,W3=>W3.heap[l]?=some (.loop rb)∧W3.heap[D]?=some (.deferred (some []))∧Ix .ret W3
 |.exit id,_,W3=>W3.heap[l]?=some (.loop rb)∧W3.heap[D]?=some (.deferred (some []))∧Ix (.exit id) W3
 |_,_,_=>False
theorem P0{P:Program}{g:Operand}{ps:Array Tmp}{assign body:Code}{Q:Exit→Act→World→Prop}{a:Act}{w:World}{gf:Nat}{lb:Array Value}
  (hg:a.eval g = .func (.func gf) #[] lb) (eg:∀ args w,(callFunc gf args).run P w = .ok (.enter gf args) w) {xs:List (Array Value)}{Kp:World→World→Prop}
  (hseq:∀ (l:Nat) (W:World) (J:Nat→World→Prop) (Jx:World→Prop),w.grownBy W none→(∀ i,Stb W.heap.size (J i))→Stb W.heap.size Jx→(∀ i W1,J i W1→W.heap.size≤W1.heap.size) →
   (∀ i x W1,xs[i]?=some x→J i W1→YieldAt Fence.wide 0 P l x W1 fun e W'=>(e = .returned (.bool true)∧J (i+1) W'∧NH W.heap.size W1 W'∧Kp W1 W')∨(e = .returned (.bool false)∧Jx W')) →
   J 0 W→CallsIn Fence.wide 0 P gf (#[.func (.yield l) #[] #[]]++lb) W fun e W'=>(∃ v,e = .returned v)∧(J xs.length W'∨Jx W'))
  (hps:∀ x∈xs,x.size=ps.size) (I:Nat→World→Prop) (Ix:Code→World→Prop) (hI:∀ i,Stb w.heap.size (I i)) (hIx:∀ c,Stb w.heap.size (Ix c)) (h0:I 0 w)
  (hKp:∀ (W W3:World) l r o',w.heap.size≤l→W3.heap[l]?=some (.loop r)→Kp W W3→Kp W (W3.putObj l (.loop o')))
  (hround:∀ (l D i:Nat) (x:Array Value) (W:World) (ra rb:Loop),w.heap.size≤D→w.heap.size≤l→D≠l→W.heap[l]?=some (.loop ra)→W.heap[D]?=some (.deferred (some []))→xs[i]?=some x→I i W →
   assign.wpIn (Fence.wide.inRound l) 0 P (Exit.then (fun a1 W1=>W1.heap[l]?=some (.loop ra)∧W1.heap[D]?=some (.deferred (some [])) ∧
    body.wpIn (Fence.wide.inRound l) 0 P (VT l D rb I Ix (fun A B=>NH w.heap.size A B∧Kp A B) i W) a1 (W1.putObj l (.loop rb))) (fun _ _ _=>False)) { tmps:=(ps.zip x).foldl (fun t (p,v)=>t.setIfInBounds p v) a.tmps,defers:=[] } W)
  (hdone:∀ (D:Nat) (W:World),w.heap.size≤D→I xs.length W→W.heap[D]?=some (.deferred (some []))→Q .normal { a with defers:=Oe D::a.defers } W)
  (hstop:∀ (D:Nat) (c:Code) (W:World),w.heap.size≤D→Ix c W→W.heap[D]?=some (.deferred (some []))→c.wpIn Fence.wide 0 P Q { a with defers:=Oe D::a.defers } W) :
  (Code.rangeFunc g ps assign body).wpIn Fence.wide 0 P Q a w:=by
 refine wpIn_rangeFunc ?_;intro fn hfn;rw [show Fence.wide.round=none from rfl];obtain ⟨rec,hrec⟩:∃ rec:LoopState→Option Code→Loop,rec=fun st pe => { state:=st,pending:=pe,fn,tmps:=a.tmps,params:=ps,assign,body,defers:=w.heap.size }:=⟨_,rfl⟩
 obtain ⟨W1,hW1⟩:∃ W1,(w.alloc (.deferred (some []))).alloc (.loop (rec .ready none))=W1:=⟨_,rfl⟩
 have hL1:W1.heap[w.heap.size+1]?=some (.loop (rec .ready none)):=by
  rw [← hW1];have:=World.alloc_heap_new (w.alloc (.deferred (some []))) (.loop (rec .ready none));rwa [World.size_alloc] at this
 have hK1:W1.heap[w.heap.size]?=some (.deferred (some [])):=by
  rw [← hW1];exact (Below.heap_alloc _ _ _ (by simp)).trans (World.alloc_heap_new w _)
 have hI1:I 0 W1:=by rw [← hW1];exact (hI 0).alloc _ ((hI 0).alloc _ h0)
 have hsz:w.heap.size≤W1.heap.size:=by rw [← hW1];simp;omega
 have hb1:w.grownBy W1 none:=by
  rw [← hW1];exact ⟨rfl,rfl,rfl,by simp;omega,fun k hk _=>(Below.heap_alloc _ _ _ (by simp;omega)).trans (Below.heap_alloc _ _ _ hk)⟩
 refine ⟨w.heap.size+1,[{ target:=.collected w.heap.size,args := #[] }],W1,{ target:=.fn (.func gf) lb,args := #[.func (.yield (w.heap.size+1)) #[] #[]] },W1,gf,
  #[.func (.yield (w.heap.size+1)) #[] #[]]++lb,W1, ?_, ?_,fun _ _=>trivial, ?_,(fun h=>by cases h), ?_⟩
 ·rw [← hW1,hrec];exact run_enterLoop_outer _ _ _ _ _
 ·simp only [resolve,hg]
  simp [go_sem]
 ·simp [invoke,go_sem,eg]
 ·have up:∀ {B:World}{row:Option Nat},PV W1.heap.size B row→PV w.heap.size B row:=fun h r e=>⟨Nat.le_trans hsz (h r e).1,(h r e).2⟩
  have two:∀ {A B:World}{row:Option Nat}{k:Nat}{o:Obj},A.grownBy B row→PV W1.heap.size A row→k<W1.heap.size→A.heap[k]?=some o→B.heap[k]?=some o:=fun {A B row k o} hgr ht hk h=>by
   refine (hgr.block k (Array.getElem?_eq_some_iff.1 h).1 fun e => ?_).trans h;have:=(ht k e.symm).1;omega
  have hl1:w.heap.size+1<W1.heap.size:=(Array.getElem?_eq_some_iff.1 hL1).1
  refine (hseq (w.heap.size+1) W1
   (fun i W=>I i W∧W.heap[w.heap.size+1]?=some (.loop (rec .ready none))∧W.heap[w.heap.size]?=some (.deferred (some [])))
   (fun W => ∃ c,Ix c W∧W.heap[w.heap.size+1]?=some (.loop (rec .done (some c)))∧W.heap[w.heap.size]?=some (.deferred (some []))) hb1
   (fun i A B row hs hgr ht=>⟨hI i A B row hs.1 hgr (up ht),two hgr ht hl1 hs.2.1,two hgr ht (by omega) hs.2.2⟩)
   (fun A B row hs hgr ht=>by
    obtain ⟨c,hc,hl,hk⟩:=hs;exact ⟨c,hIx c A B row hc hgr (up ht),two hgr ht hl1 hl,two hgr ht (by omega) hk⟩) (fun i W1 h=>by have:=(Array.getElem?_eq_some_iff.1 h.2.1).1;rw [← hW1];simp;omega) ?_ ⟨hI1,hL1,hK1⟩).mono ?_
  ·rintro i x W hx ⟨hi,hl,hk⟩
   have hy:=run_yield (P:=P) (args:=x) hl (by rw [hrec];exact hps x (List.mem_of_getElem? hx));rw [hrec] at hy;refine ⟨fn,_,assign,body,hy,roundIn_of_wpIn hfn ?_⟩;refine wpIn_mono (hround (w.heap.size+1) w.heap.size i x W (rec .ready none) (rec .busy none) (Nat.le_refl _) (by omega) (by omega) hl hk hx hi) ?_;rintro e a1 Wa hp;cases e with
   |normal=>
    obtain ⟨hl',hk',hbody⟩:=hp;refine ⟨_,run_beginRound hl' (by rw [hrec]), ?_⟩;rw [show ({ rec .ready none with state:=.busy }:Loop)=rec .busy none from by rw [hrec]];refine wpIn_mono hbody ?_
    have fin:∀ (jump:Option Code) (W3:World),W3.heap[w.heap.size+1]?=some (.loop (rec .busy none))→W3.heap[w.heap.size]?=some (.deferred (some [])) →
      (Instr.endRound (w.heap.size+1) jump).run P W3 = .ok (.bool jump.isNone) (W3.putObj (w.heap.size+1) (.loop (rec (if jump.isNone then .ready else .done) jump))) ∧
      (W3.putObj (w.heap.size+1) (.loop (rec (if jump.isNone then .ready else .done) jump))).heap[w.heap.size+1]?=some (.loop (rec (if jump.isNone then .ready else .done) jump)) ∧
      (W3.putObj (w.heap.size+1) (.loop (rec (if jump.isNone then .ready else .done) jump))).heap[w.heap.size]?=some (.deferred (some [])):=fun jump W3 h1 h2=>by
     have:=run_endRound (P:=P) jump h1;rw [hrec] at this ⊢;exact ⟨this,World.putObj_heap_same (Array.getElem?_eq_some_iff.1 h1).1,(World.putObj_heap_other (by omega)).trans h2⟩
    rintro e a3 W3 hp;cases e with
    |normal=>
     obtain ⟨h1,h2,h3,h4,h5⟩:=hp;obtain ⟨hr,hl4,hk4⟩:=fin none W3 h1 h2;refine ⟨_,_,hr,.inl ⟨rfl,⟨(hI _).putObj _ h3 (by omega) h1 rfl,hl4,hk4⟩,(fun b s p hb hs => ?_),hKp _ _ _ _ _ (by omega) h1 h5⟩⟩;have:=h4 b s p (by omega) hs;rw [World.putObj_heap_other (fun e=>by subst e;rw [h1] at this;cases this)];exact this
    |ret=>
     obtain ⟨h1,h2,h3⟩:=hp;obtain ⟨hr,hl4,hk4⟩:=fin (some .ret) W3 h1 h2;exact ⟨_,_,hr,.inr ⟨rfl,.ret,(hIx _).putObj _ h3 (by omega) h1 rfl,hl4,hk4⟩⟩
    |exit id=>
     obtain ⟨h1,h2,h3⟩:=hp;obtain ⟨hr,hl4,hk4⟩:=fin (some (.exit id)) W3 h1 h2;exact ⟨_,_,hr,.inr ⟨rfl,.exit id,(hIx _).putObj _ h3 (by omega) h1 rfl,hl4,hk4⟩⟩
    |goto t=>exact hp.elim
    |panic ch=>exact hp.elim
    |outgrown=>exact hp.elim
   |_=>exact hp.elim
  ·rintro e W2 ⟨⟨v,rfl⟩,(⟨hi,hl,hk⟩ | ⟨c,hi,hl,hk⟩)⟩
   ·exact ⟨none,_,by have:=run_endLoop (P:=P) hl (by rw [hrec];simp);rw [hrec] at this;exact this,hdone _ _ (Nat.le_refl _) ((hI _).putObj _ hi (by omega) hl rfl) ((World.putObj_heap_other (by omega)).trans hk)⟩
   ·exact ⟨some c,_,by have:=run_endLoop (P:=P) hl (by rw [hrec];simp);rw [hrec] at this;exact this,hstop _ c _ (Nat.le_refl _) ((hIx c).putObj _ hi (by omega) hl rfl) ((World.putObj_heap_other (by omega)).trans hk)⟩
section
variable{P:Program}{G:Nat→Option (List AV)}{K:ak}{N:Fr}{a:Env}{H:List AObj}{act:Act}{w:World}
theorem TX{o:Oper}{v:AV}{H':List AObj}(hd:∀ d,o.dst=some d→d<N.n)(hr:Rel N K a H act w)(hok:Fs P K ((execOp act.eval o).run P w) v H'){next:Act→World→Prop}{Q:Exit→Act→World→Prop}
  (hn:∀ K' act' w',K.le K'→Rel N K' (iz a o.dst v) H' act' w'→next act' w') (hdf:∀ c,o.op≠.defer c):o.wpIn N.F 0 P act w next Q:=by
 obtain ⟨K',cv,w',h1,h2,h3,h4⟩:=hok;have hr':=hr.put h1 h4 (dst:=o.dst) h3 hd;refine ⟨fun f _=>N.fn f, ?_⟩;rw [Oper.semAt_eq _ _ _ hdf];rcases h2 with h2 | ⟨h2,rfl⟩
 ·rw [h2];exact hn K' _ _ h1 hr'
 ·rw [h2];exact hn K' _ _ h1 hr'
theorem ES{o:Oper}{c:Call}{f:Operand}{ts:List TypeId}(hop:o.op = .call c)(hcal:c.callee = .value f)(hg:K.glob=G)(hd:∀ d,o.dst=some d→d<N.n)(hr:Rel N K a H act w)
  {g:FuncId}{first cap:List AV} (he:rx a (cx0 G f) = .fn (.func g) first cap) {R:qh→List AObj→Prop} (hc:cT P G g (first++(ph P G c.args.toList ts).map (rx a)++cap) H R)
  {next:Act→World→Prop}{Q:Exit→Act→World→Prop}
  (hn:∀ K' v H' act' w',K.le K'→Rel N K' (iz a o.dst v) H' act' w'→R (.ret v) H'→next act' w')
  (hp:∀ K' v cv H' w',K.le K'→V K' v cv→Rel N K' a H' act w'→R (.panic v) H'→Q (.panic [{ v:=cv,recovered:=false }]) act w'):o.wpIn N.F 0 P act w next Q:=by
 have hf:=jX hg hr f;rw [he] at hf;obtain ⟨vs,us,hfe,h1,h2⟩:=hf.fn_inv;have hargs:=(h1.append (Ip (P:=P) hg hr c.args ts)).append h2
 have hex:(execOp act.eval o).run P w=(callFunc g (vs++c.args.map act.eval++us)).run P w:=by
  unfold execOp;simp only [hop,resolve,hcal,hfe,Deferred.ofValue,invoke,pure_bind]
 refine ⟨fun f _=>N.fn f, ?_⟩;rw [Oper.semAt_eq _ _ _ (fun c e=>by rw [hop] at e;cases e),hex];rcases hc K w _ hg hr.inv hargs with ⟨hrun,hcalls⟩ | ⟨cv,w',hrun,K',r,H',hk,he',hi',hR⟩
 ·rw [hrun,Oper.uponIn_enter]
  refine ⟨N.dep, ?_⟩;refine CallsIn.mono (F:=N.F) (callsIn_wide.2 hcalls) ?_;rintro e w' ⟨K',r,H',hk,he',hi',hR⟩;cases e with
  |returned x=>
   cases r with
   |ret v=>exact hn K' v H' _ _ hk (hr.put hk hi' he' hd) hR
   |panic v=>exact (he':False).elim
  |panicked ch=>
   cases r with
   |ret v=>exact (he':False).elim
   |panic v=>
    obtain ⟨cv,rfl,hv⟩:=he';exact hp K' v cv H' w' hk hv ⟨hi',hr.defers.mono hk,hr.size,fun t=>(hr.tmps t).mono hk⟩ hR
  |outgrown=>cases r<;>exact (he':False).elim
 ·rw [hrun,Oper.uponIn_value]
  cases r with
  |ret v=>exact hn K' v H' _ _ hk (hr.put hk hi' he' hd) hR
  |panic v=>exact (he':False).elim
theorem P1{o:Oper}{c:Call}{x:Operand}{n:String}{ts:List TypeId}(hop:o.op = .call c)(hcal:c.callee = .invoke x n)(hg:K.glob=G)(hd:∀ d,o.dst=some d→d<N.n)(hr:Rel N K a H act w)
  {g:FuncId}{t:TypeId}{u:AV} (he:rx a (cx0 G x) = .iface t u) (hm:∀ (v:Value) (w:World),(method (P.types.size+Made.depth) t v n).run P w = .ok (g,v) w) {R:qh→List AObj→Prop} (hc:cT P G g (([u]++(ph P G c.args.toList ts).map (rx a))++[]) H R)
  {next:Act→World→Prop}{Q:Exit→Act→World→Prop}
  (hn:∀ K' v H' act' w',K.le K'→Rel N K' (iz a o.dst v) H' act' w'→R (.ret v) H'→next act' w')
  (hp:∀ K' v cv H' w',K.le K'→V K' v cv→Rel N K' a H' act w'→R (.panic v) H'→Q (.panic [{ v:=cv,recovered:=false }]) act w'):o.wpIn N.F 0 P act w next Q:=by
 have hf:=jX hg hr x;rw [he] at hf;obtain ⟨y,hfe,hv⟩:=hf.iface_inv
 have h1:Vs K [u] #[y]:=⟨rfl,fun i av hi=>by
  cases i with
  |zero=>simp at hi;subst hi;simpa using hv
  |succ i=>simp at hi⟩
 have hargs:Vs K (([u]++(ph P G c.args.toList ts).map (rx a))++[]) (#[y]++c.args.map act.eval):=by
  rw [List.append_nil];exact h1.append (Ip (P:=P) hg hr c.args ts)
 have hex:(execOp act.eval o).run P w=(callFunc g (#[y]++c.args.map act.eval)).run P w:=by
  have hx:(#[Value.iface t y]++c.args.map act.eval).extract 1 (#[Value.iface t y]++c.args.map act.eval).size=c.args.map act.eval:=by
   apply Array.ext';simp;exact List.take_of_length_le (by simp)
  have h0:(#[Value.iface t y]++c.args.map act.eval)[0]?=some (.iface t y):=by rw [Array.getElem?_append_left (by simp)];rfl
  unfold execOp;simp only [hop,resolve,hcal,hfe,pure_bind,invoke];rw [h0];simp only;rw [hx];simp [callMethod,hm]
 refine ⟨fun f _=>N.fn f, ?_⟩;rw [Oper.semAt_eq _ _ _ (fun c e=>by rw [hop] at e;cases e),hex];rcases hc K w _ hg hr.inv hargs with ⟨hrun,hcalls⟩ | ⟨cv,w',hrun,K',r,H',hk,he',hi',hR⟩
 ·rw [hrun,Oper.uponIn_enter]
  refine ⟨N.dep, ?_⟩;refine CallsIn.mono (F:=N.F) (callsIn_wide.2 hcalls) ?_;rintro e w' ⟨K',r,H',hk,he',hi',hR⟩;cases e with
  |returned x=>
   cases r with
   |ret v=>exact hn K' v H' _ _ hk (hr.put hk hi' he' hd) hR
   |panic v=>exact (he':False).elim
  |panicked ch=>
   cases r with
   |ret v=>exact (he':False).elim
   |panic v=>
    obtain ⟨cv,rfl,hv⟩:=he';exact hp K' v cv H' w' hk hv ⟨hi',hr.defers.mono hk,hr.size,fun t=>(hr.tmps t).mono hk⟩ hR
  |outgrown=>cases r<;>exact (he':False).elim
 ·rw [hrun,Oper.uponIn_value]
  cases r with
  |ret v=>exact hn K' v H' _ _ hk (hr.put hk hi' he' hd) hR
  |panic v=>exact (he':False).elim
theorem Uv{o:Oper}{x:Operand}(hop:o.op = .panic x)(hg:K.glob=G)(hr:Rel N K a H act w){t:TypeId}{v:AV}(he:rx a (cx0 G x) = .iface t v)
  {next:Act→World→Prop}{Q:Exit→Act→World→Prop} (hp:∀ cv,V K (.iface t v) cv→Q (.panic [{ v:=cv,recovered:=false }]) act w):o.wpIn N.F 0 P act w next Q:=by
 have hx:=jX hg hr x;rw [he] at hx;obtain ⟨y,hy,hv⟩:=hx.iface_inv
 have hrun:(execOp act.eval o).run P w = .halt (.panic (.iface t y)) w:=by
  unfold execOp;simp [hop,hy,Instr.panic]
 refine ⟨fun f _=>N.fn f, ?_⟩;rw [Oper.semAt_eq _ _ _ (fun c e=>by rw [hop] at e;cases e),hrun,Oper.uponIn_panic];exact hp _ (.iface t v y hv)
theorem ET{m:Bool}{ty:TypeId}{op:Op}{s:RS}(h:cRS P G m ty op=some s) :
  (∃ c f,op = .call c∧c.callee = .value f∧s = .call (cx0 G f) (ph P G c.args.toList c.argTypes.toList))∨(∃ x,op = .panic x∧s = .panic (cx0 G x))∨(∃ r,cOp P G m ty op=some r∧s = .op r)∨∃ c x n,op = .call c∧c.callee = .invoke x n∧s = .inv (cx0 G x) n (ph P G c.args.toList c.argTypes.toList):=by
 unfold cRS at h;split at h
 ·rename_i c
  split at h
  ·rename_i f hf;cases h;exact .inl ⟨c,f,rfl,hf,rfl⟩
  ·rw [Option.map_eq_some_iff] at h
   obtain ⟨r,h1,rfl⟩:=h;exact .inr (.inr (.inl ⟨r,h1,rfl⟩))
  ·rename_i x n hc;cases h;exact .inr (.inr (.inr ⟨c,x,n,rfl,hc,rfl⟩))
 ·rename_i x;cases h;exact .inr (.inl ⟨x,rfl,rfl⟩)
 ·rw [Option.map_eq_some_iff] at h
  obtain ⟨r,h1,rfl⟩:=h;exact .inr (.inr (.inl ⟨r,h1,rfl⟩))
theorem D5{m:Bool}{ty:TypeId}{op:Op}{r:ROp}(h:cOp P G m ty op=some r):∀ c,op≠.defer c:=fun c e=>by subst e;simp [cOp] at h
theorem EU{m:Bool}{n:Nat}{ops:Array Oper}{o:Oper}{ro:RO}(h:cRO P G m n ops o=some ro):Jp ops o=some ro.g∧cRS P G m o.type o.op=some ro.s∧ro.d=o.dst∧∀ d,o.dst=some d→d<n:=by
 unfold cRO at h;split at h
 ·rename_i g s hg hs
  split at h
  ·rename_i hd
   cases h;refine ⟨hg,hs,rfl,fun d e => ?_⟩;rw [e] at hd;simpa [TS] using hd
  ·cases h
 ·cases h
end
section
variable{dec:Dec}{E:bc}
theorem Ow{x:AV}{m:String}{g:FuncId}{first cap:List AV}(h:Mu E x m = .fn (.func g) first cap):∃ t v,x = .iface t v∧E.meth t m=some g∧first=[v]∧cap=[]:=by
 unfold Mu at h;split at h
 ·rename_i t v
  split at h
  ·rename_i g' hm;cases h;exact ⟨t,v,rfl,hm,rfl,rfl⟩
  ·cases h
 ·cases h
def vg(dec:Dec)(E:bc)(n:Nat):Prop:=∀ (g:FuncId) (args:List AV) (H:List AObj) (r:qh) (H':List AObj),zI dec E n g args H=some (r,H')→cT E.P E.G g args H fun r2 H2=>r2=r∧H2=H'
theorem zK(hE:E.Ok){n:Nat}(hC:∀ j,j<n→vg dec E j){fn:AFn}{H0:List AObj}{k:List Fra}{r:Out}{N:Fr}{m:Bool}{nt:Nat}{ops:Array Oper}(hnt:nt≤N.n){K:ak}(hg:K.glob=E.G){Qc:Exit→Act→World→Prop}{l2:List Nat}
  (hend:∀ (j:Nat) (K':ak) (a:Env) (H:List AObj) (act:Act) (w:World),j<n→K.le K'→Rel N K' a H act w→ev dec E j fn H0 k a H=some r→wpOpsIn N.F 0 E.P ops Qc l2 act w)
  (hpan:∀ (j:Nat) (K':ak) (a:Env) (H:List AObj) (act:Act) (w:World) (v:AV) (cv:Value),j<n→K.le K'→V K' v cv→Rel N K' a H act w→ga dec E (ev dec E j) fn H0 k a v H=some r→Qc (.panic [{ v:=cv,recovered:=false }]) act w) :
  ∀ (os:List Oper) (ros:List RO) (l:List Nat) (j:Nat) (K':ak) (a:Env) (H:List AObj) (act:Act) (w:World),j≤n→ev dec E j fn H0 (.c (.ops ros)::k) a H=some r →
   Cj E.P E.G m nt ops os=some ros→l.map (ops[·]?)=os.map some→K.le K'→Rel N K' a H act w→wpOpsIn N.F 0 E.P ops Qc (l++l2) act w
 |_,_,_,0,_,_,_,_,_,_,h,_,_,_,_=>by cases h
 |[],ros,l,j+1,K',a,H,act,w,hj,h,hc,hl,hk,hr=>by
  cases hc;cases l with
  |cons=>cases hl
  |nil=>exact hend j K' a H act w (by omega) hk hr h
 |o::os,ros,l,j+1,K',a,H,act,w,hj,h,hc,hl,hk,hr=>by
  cases l with
  |nil=>cases hl
  |cons i l=>
   simp only [List.map_cons,List.cons.injEq] at hl;obtain ⟨ho,hl⟩:=hl;simp only [Cj] at hc;split at hc
   ·rename_i ro hro
    split at hc
    ·rename_i rs hrs
     cases hc;obtain ⟨hgd,hs,hdst,hlt⟩:=EU hro;have hd:∀ d,o.dst=some d→d<N.n:=fun d e=>Nat.lt_of_lt_of_le (hlt d e) hnt
     have hg':=hk.glob.trans hg
     have hw:zG a ro=ky ops a o:=by
      obtain ⟨d,g,s⟩:=ro;exact NF hgd
     rw [List.cons_append,wpOpsIn_cons,wpOpIn,ho];simp only;simp only [ev] at h;rw [hw] at h;split at h
     ·cases h
     ·rename_i hwt
      rw [nN hr hwt];simp only [Bool.false_eq_true,if_false];refine ⟨fun f _=>N.fn f,zK hE hC hnt hg hend hpan os rs l j K' _ H _ w (by omega) h hrs hl hk ?_⟩;rw [hdst];exact hr.put (.refl K') hr.inv AL hd
     ·rename_i hwt
      rw [nN hr hwt];simp only [if_true]
      have next:∀ K2 v H' act' w',K'.le K2→Rel N K2 (iz a o.dst v) H' act' w'→ev dec E j fn H0 (.c (.ops rs)::k) (iz a ro.d v) H'=some r→wpOpsIn N.F 0 E.P ops Qc (l++l2) act' w':=fun K2 v H' act' w' hk2 hr2 h2=>
       zK hE hC hnt hg hend hpan os rs l j K2 _ H' act' w' (by omega) (by rw [← hdst];exact h2) hrs hl (hk.trans hk2) hr2
      rcases ET hs with ⟨c,f,hop,hcal,hsf⟩ | ⟨x,hop,hsx⟩ | ⟨q,hq,hsq⟩ | ⟨c,x,mn,hop,hcal,hsi⟩
      ·rw [hsf] at h
       simp only at h;split at h
       ·rename_i g first cap hfe
        have h':(match zI dec E j g (first++(ph E.P E.G c.args.toList c.argTypes.toList).map (rx a)++cap) H with
         |some (.ret v,H')=>ev dec E j fn H0 (.c (.ops rs)::k) (iz a ro.d v) H'
         |some (.panic v,H')=>ga dec E (ev dec E j) fn H0 k a v H'
         |none=>none)=some r:=h
        split at h'
        ·rename_i v H' hcall
         refine ES hop hcal hg' hd hr hfe (hC j (by omega) _ _ _ _ _ hcall) ?_ ?_
         ·rintro K2 v2 H2 act' w' hk2 hr2 ⟨e1,e2⟩
          cases e1;subst e2;exact next K2 v _ act' w' hk2 hr2 h'
         ·rintro K2 v2 cv H2 w' hk2 hv hr2 ⟨e1,e2⟩
          cases e1
        ·rename_i v H' hcall
         refine ES hop hcal hg' hd hr hfe (hC j (by omega) _ _ _ _ _ hcall) ?_ ?_
         ·rintro K2 v2 H2 act' w' hk2 hr2 ⟨e1,e2⟩
          cases e1
         ·rintro K2 v2 cv H2 w' hk2 hv hr2 ⟨e1,e2⟩
          cases e1;subst e2;exact hpan j K2 a _ act w' _ cv (by omega) (hk.trans hk2) hv hr2 h'
        ·cases h'
       ·cases h
      ·rw [hsx] at h
       simp only at h;split at h
       ·rename_i t v hxe
        exact Uv hop hg' hr hxe fun cv hv=>hpan j K' a H act w (.iface t v) cv (by omega) hk hv hr h
       ·cases h
      ·rw [hsq] at h
       simp only at h;split at h
       ·rename_i v H' hrop
        exact TX hd hr (Im hg' hr hq hrop) (fun K2 act' w' hk2 hr2=>next K2 v H' act' w' hk2 hr2 h) (D5 hq)
       ·cases h
      ·rw [hsi] at h
       simp only at h;split at h
       ·rename_i g first cap hfe
        obtain ⟨t,u,hxe,hme,rfl,rfl⟩:=Ow hfe
        have h':(match zI dec E j g ([u]++(ph E.P E.G c.args.toList c.argTypes.toList).map (rx a)++[]) H with
         |some (.ret v,H')=>ev dec E j fn H0 (.c (.ops rs)::k) (iz a ro.d v) H'
         |some (.panic v,H')=>ga dec E (ev dec E j) fn H0 k a v H'
         |none=>none)=some r:=h
        split at h'
        ·rename_i v H' hcall
         refine P1 hop hcal hg' hd hr hxe (hE.meth _ _ _ hme) (hC j (by omega) _ _ _ _ _ hcall) ?_ ?_
         ·rintro K2 v2 H2 act' w' hk2 hr2 ⟨e1,e2⟩
          cases e1;subst e2;exact next K2 v _ act' w' hk2 hr2 h'
         ·rintro K2 v2 cv H2 w' hk2 hv hr2 ⟨e1,e2⟩
          cases e1
        ·rename_i v H' hcall
         refine P1 hop hcal hg' hd hr hxe (hE.meth _ _ _ hme) (hC j (by omega) _ _ _ _ _ hcall) ?_ ?_
         ·rintro K2 v2 H2 act' w' hk2 hr2 ⟨e1,e2⟩
          cases e1
         ·rintro K2 v2 cv H2 w' hk2 hv hr2 ⟨e1,e2⟩
          cases e1;subst e2;exact hpan j K2 a _ act w' _ cv (by omega) (hk.trans hk2) hv hr2 h'
        ·cases h'
       ·cases h
    ·cases hc
   ·cases hc
theorem Sz(hE:E.Ok){n:Nat}(hC:∀ j,j<n→vg dec E j){fn:AFn}{H0:List AObj}{k:List Fra}{r:Out}{N:Fr}{m:Bool}{nt:Nat}{ops:Array Oper}(hnt:nt≤N.n){K:ak}(hg:K.glob=E.G)
  (os:List Oper) (ros:List RO) (l:List Nat) (j:Nat) (K':ak) (a:Env) (H:List AObj) (act:Act) (w:World) (hj:j≤n) (h:ev dec E j fn H0 (.c (.ops ros)::k) a H=some r)
  (hc:Cj E.P E.G m nt ops os=some ros) (hl:l.map (ops[·]?)=os.map some) (hk:K.le K') (hr:Rel N K' a H act w):wpOpsIn N.F 0 E.P ops (Ht N K (HD dec E n fn H0 k r)) l act w:=by
 have:=zK hE (n:=n) hC hnt hg (Qc:=Ht N K (HD dec E n fn H0 k r)) (l2:=[]) (fun j K' a H act w hj hk hr h=>⟨K',.normal,a,H,hk,trivial,hr,j,hj,h⟩)
  (fun j K' a H act w v cv hj hk hv hr h=>⟨K',.panic v,a,H,hk,⟨cv,rfl,hv⟩,hr,j,hj,h⟩) os ros l j K' a H act w hj h hc hl hk hr
 rwa [List.append_nil] at this
end
def FS(P:Program)(G:Nat→Option (List AV))(o:RO)(a:Env)(H:List AObj)(v:AV)(H':List AObj):Prop:=
 match o.s with
 |.op op=>rop a H op=some (v,H')
 |.call f args=>match rx a f with
  |.fn (.func g) first cap=>cT P G g (first++args.map (rx a)++cap) H fun r H2=>r = .ret v∧H2=H'
  |_=>False
 |.panic _=>False
 |.inv .. => False
def MC(P:Program)(G:Nat→Option (List AV))(o:RO)(a:Env)(H:List AObj)(p:AV)(H':List AObj):Prop:=
 match o.s with
 |.call f args=>match rx a f with
  |.fn (.func g) first cap=>cT P G g (first++args.map (rx a)++cap) H fun r H2=>r = .panic p∧H2=H'
  |_=>False
 |_=>False
def DPR(P:Program)(G:Nat→Option (List AV))(ros:List RO)(i:Nat)(a:Env)(H:List AObj)(p:AV)(H':List AObj):Prop:=
 match ros[i]? with
 |some ro=>MC P G ro a H p H'
 |none=>False
def DR(P:Program)(G:Nat→Option (List AV))(ros:List RO)(i:Nat)(a:Env)(H:List AObj)(v:AV)(H':List AObj):Prop:=
 match ros[i]? with
 |some ro=>FS P G ro a H v H'
 |none=>False
theorem KpT.trans{T:List Nat}(H1 H2 H3:List AObj)(h:KpT T H1 H2)(h':KpT T H2 H3):KpT T H1 H3:=
 ⟨Nat.le_trans h.1 h'.1,fun i hi ht=>by rw [h'.2 i (by have:=h.1;omega) ht,h.2 i hi ht]⟩
theorem xt(T:List Nat)(H L:List AObj):KpT T H (H++L):=⟨by simp,fun i hi _=>List.getElem?_append_left hi⟩
theorem KpT.mono{T T':List Nat}{H H2:List AObj}(h:KpT T H H2)(ht:∀ i∈T,i∈T'):KpT T' H H2:=⟨h.1,fun i hi hn=>h.2 i hi fun hm=>hn (ht i hm)⟩
theorem NJ{T:List Nat}{id:Nat}(ht:id∈T)(H:List AObj)(o:AObj):KpT T H (H.set id o):=
 ⟨by simp,fun i _ hn=>List.getElem?_set_ne (fun e=>hn (by rw [← e];exact ht))⟩
section
variable{P:Program}{G:Nat→Option (List AV)}{ops:Array Oper}{ros:List RO}{m:Bool}{nt:Nat}{N:Fr}
theorem FT:∀ {os:List Oper}{ros:List RO},Cj P G m nt ops os=some ros→∀ (i:Nat) (o:Oper),os[i]?=some o→∃ ro,ros[i]?=some ro∧cRO P G m nt ops o=some ro
 |[],_,_,i,o,h=>by simp at h
 |o::os,ros,hc,i,o',h=>by
  simp only [Cj] at hc;split at hc
  ·rename_i ro hro
   split at hc
   ·rename_i rs hrs
    cases hc;cases i with
    |zero=>simp at h;subst h;exact ⟨ro,rfl,hro⟩
    |succ i=>exact FT hrs i o' (by simpa using h)
   ·cases hc
  ·cases hc
theorem P2{ro:RO}{dst:Option Tmp}{u v:AV}{a:Env}{H H':List AObj}(h:∀ d,dst=some d→d ∉ ro.s.uses):FS P G ro (iz a dst u) H v H'=FS P G ro a H v H':=by
 unfold FS;cases hs:ro.s with
 |op op=>simp only;rw [Sv fun d hd hm=>h d hd (by rw [hs];exact hm)]
 |call f args=>
  simp only;rw [C5 (x:=f) fun d hd hm=>h d hd (by rw [hs];simp [RS.uses,hm]),Co (l:=args) fun d hd hm=>h d hd (by rw [hs];simp [RS.uses,hm])]
 |panic x=>rfl
 |inv x m args=>rfl
theorem P3{ro:RO}{dst:Option Tmp}{u v:AV}{a:Env}{H H':List AObj}(h:∀ d,dst=some d→d ∉ ro.s.uses):MC P G ro (iz a dst u) H v H'=MC P G ro a H v H':=by
 unfold MC;cases hs:ro.s with
 |op op=>rfl
 |call f args=>
  simp only;rw [C5 (x:=f) fun d hd hm=>h d hd (by rw [hs];simp [RS.uses,hm]),Co (l:=args) fun d hd hm=>h d hd (by rw [hs];simp [RS.uses,hm])]
 |panic x=>rfl
 |inv x m args=>rfl
theorem P4{q:Cl}{s:Bool}{x:RS}(h1:q≠.turn)(h2:q≠.stop):nO q s x≠.turn∧nO q s x≠.stop:=by
 unfold nO;split
 ·rename_i o
  repeat' split
  all_goals simp
 ·exact ⟨h1,h2⟩
 ·exact ⟨h1,h2⟩
 ·simp
theorem P5{q:Cl}{s:Bool}{x:RS}(h1:q≠.last):nO q s x≠.last:=by
 unfold nO;split
 ·rename_i o
  repeat' split
  all_goals simp
 ·exact h1
 ·exact h1
 ·simp
theorem JB{q:Cl}{s:Bool}{ros:List RO}{k:Nat}(h1:q≠.last):zF q s ros k≠.last:=by
 unfold zF;split
 ·exact P5 h1
 ·decide
theorem JC{q:Cl}{s:Bool}{ros:List RO}{k:Nat}(h1:q≠.turn)(h2:q≠.stop):zF q s ros k≠.turn∧zF q s ros k≠.stop:=by
 unfold zF;split
 ·exact P4 h1 h2
 ·simp
def FU(ops:Array Oper)(cl:Nat→Cl):List Nat→Prop
 |[]=>True
 |i::l=>(cl i = .stop→∀ j∈l,Dep ops i j)∧FU ops cl l
structure WA (ops:Array Oper) (ros:List RO) (q:Cl) (sc s:Bool) (cl:Nat→Cl) (ord:List Nat):Prop where
 base:∀ i,cl i=zF q sc ros i∨cl i = .quiet∨((cl i = .eff∨cl i = .turn∨cl i = .stop∨cl i = .last)∧DZ ros i=true)
 piv:∀ i,cl i = .last→KH ops i
 trk:∀ i,cl i = .turn∨cl i = .stop→s=true
 scs:sc=true→s=true
 stp:FU ops cl ord
theorem MD{q:Cl}{s:Bool}{x:RS}(hq:q≠.pure)(h:nO q s x = .pure):∃ o,x = .op o∧KJ o=true:=by
 unfold nO at h;split at h
 ·rename_i o
  split at h
  ·rename_i hp;exact ⟨o,rfl,hp⟩
  ·split at h
   ·cases h
   ·split at h
    ·cases h
    ·split at h
     ·split at h<;>cases h
     ·split at h<;>cases h
     ·cases h
 ·exact absurd h hq
 ·exact absurd h hq
 ·cases h
theorem FV{q:Cl}{s:Bool}{o:ROp}(h:nO q s (.op o) = .wide):Ci o=true:=by
 unfold nO at h;simp only at h;split at h
 ·cases h
 ·split at h
  ·rename_i hw;exact hw
  ·split at h
   ·cases h
   ·split at h
    ·split at h<;>cases h
    ·split at h<;>cases h
    ·cases h
theorem FW{q:Cl}{s:Bool}{o:ROp}(h:nO q s (.op o) = .keep):KK o=true∨(s=true∧∃ sz x v,o = .st sz x v)∨∃ m e sz bytes str x y,o = .ap m e sz bytes str x y:=by
 unfold nO at h;simp only at h;split at h
 ·cases h
 ·split at h
  ·cases h
  ·split at h
   ·rename_i hn;exact .inl hn
   ·split at h
    ·split at h
     ·rename_i hs;exact .inr (.inl ⟨hs,_,_,_,rfl⟩)
     ·cases h
    ·split at h
     ·rename_i hs;exact .inr (.inr ⟨_,_,_,_,_,_,_,rfl⟩)
     ·cases h
    ·cases h
theorem KO{q:Cl}{s:Bool}{o:ROp}(h:(nO q s (.op o)).keeps=true):nO q s (.op o) = .keep:=by
 unfold nO at h ⊢;simp only at h ⊢
 repeat' split at h
 all_goals first | (cases h;done) | simp_all
theorem clOfR_quiet{q:Cl}{s:Bool}{o:ROp}:nO q s (.op o)≠.quiet:=by
 unfold nO;simp only;split
 ·simp
 ·split
  ·simp
  ·split
   ·simp
   ·split
    ·split<;>simp
    ·split<;>simp
    ·simp
theorem VU(hnt:nt≤N.n){q:Cl}{s:Bool}(hq:q≠.pure)(hc:Cj P G m nt ops ops.toList=some ros)(hu:Ms ops ros=true){cl:Nat→Cl}(hcl0:∀ i,cl i=zF q s ros i∨cl i = .quiet∨((cl i = .eff∨cl i = .turn∨cl i = .stop∨cl i = .last)∧DZ ros i=true)):DW P G N ops cl (DR P G ros) (DPR P G ros):=by
 have get:∀ (i:Nat) (o:Oper),ops[i]?=some o→∃ ro,ros[i]?=some ro∧cRO P G m nt ops o=some ro:=fun i o h=>FT hc i o (by simpa using h)
 refine ⟨fun i o dst u a H v H' ho hd => ?_,fun i o a H p H' ho h K act w next Qx hg hr hn => ?_,fun i o dst u a H v H' ho hd => ?_,fun i a H v H' hp h => ?_,fun i o a H v H' ho h K act w next Q hg hr hlt hn => ?_⟩
 ·obtain ⟨ro,h1,h2⟩:=get i o ho
  unfold DPR;rw [h1];simp only;rw [P3 fun d e hm=>hd d e ?_]
  have hall:=List.all_eq_true.1 hu (o,ro) (by
   have:(ops.toList.zip ros)[i]?=some (o,ro):=by
    rw [List.getElem?_zip_eq_some];exact ⟨by simpa using ho,h1⟩
   exact List.mem_of_getElem? this)
  have:=List.all_eq_true.1 hall d hm;simpa using this
 ·obtain ⟨ro,h1,h2⟩:=get i o ho
  obtain ⟨hgd,hs,hdst,hlt2⟩:=EU h2;unfold DPR at h;rw [h1] at h;simp only [MC] at h;rcases ET hs with ⟨c,f,hop,hcal,hsf⟩ | ⟨x,hop,hsx⟩ | ⟨q,hq,hsq⟩ | ⟨c,x,mn,hop,hcal,hsi⟩
  ·rw [hsf] at h
   simp only at h;split at h
   ·rename_i g first cap hfe
    refine ES hop hcal hg (fun d e=>Nat.lt_of_lt_of_le (hlt2 d e) hnt) hr hfe h ?_ ?_
    ·rintro K2 v2 H2 act' w' hk2 hr2 ⟨e1,e2⟩
     cases e1
    ·rintro K2 v2 cv H2 w' hk2 hv hr2 ⟨e1,e2⟩
     cases e1;subst e2;exact hn K2 act w' cv hk2 hv hr2
   ·exact h.elim
  ·rw [hsx] at h;exact h.elim
  ·rw [hsq] at h;exact h.elim
  ·rw [hsi] at h;exact h.elim
 ·obtain ⟨ro,h1,h2⟩:=get i o ho
  unfold DR;rw [h1];simp only;rw [P2 fun d e hm=>hd d e ?_]
  have hall:=List.all_eq_true.1 hu (o,ro) (by
   have:(ops.toList.zip ros)[i]?=some (o,ro):=by
    rw [List.getElem?_zip_eq_some];exact ⟨by simpa using ho,h1⟩
   exact List.mem_of_getElem? this)
  have:=List.all_eq_true.1 hall d hm;simpa using this
 ·unfold DR at h ⊢
  cases hro:ros[i]? with
  |none=>rw [hro] at h;exact h.elim
  |some ro=>
   rw [hro] at h
   have hp':nO q s ro.s = .pure:=by
    rcases hcl0 i with e | e | ⟨e,_⟩
    ·rw [e] at hp;unfold zF at hp;rw [hro] at hp;exact hp
    ·rw [e] at hp;cases hp
    ·rcases e with e | e | e | e<;>rw [e] at hp<;>cases hp
   obtain ⟨o,ho,hpr⟩:=MD hq hp';simp only [FS,ho] at h ⊢;exact PT hpr h
 ·obtain ⟨ro,h1,h2⟩:=get i o ho
  obtain ⟨hgd,hs,hdst,_⟩:=EU h2;unfold DR at h;rw [h1] at h;simp only [FS] at h;rcases ET hs with ⟨c,f,hop,hcal,hsf⟩ | ⟨x,hop,hsx⟩ | ⟨q,hq,hsq⟩ | ⟨c,x,mn,hop,hcal,hsi⟩
  ·rw [hsf] at h
   simp only at h;split at h
   ·rename_i g first cap hfe
    refine ES hop hcal hg hlt hr hfe h ?_ ?_
    ·rintro K2 v2 H2 act' w' hk2 hr2 ⟨e1,e2⟩
     cases e1;subst e2;exact hn K2 act' w' hk2 hr2
    ·rintro K2 v2 cv H2 w' hk2 hv hr2 ⟨e1,e2⟩
     cases e1
   ·exact h.elim
  ·rw [hsx] at h;exact h.elim
  ·rw [hsq] at h
   exact TX hlt hr (Im hg hr hq h) hn (D5 hq)
  ·rw [hsi] at h;exact h.elim
theorem NK{cls:Nat→Cl}:∀ {ord:List Nat}{listed:Array Bool},xl ops cls ord listed=true→∀ k∈ord,∃ o,ops[k]?=some o
 |[],_,_,k,hk=>by cases hk
 |i::ord,listed,h,k,hk=>by
  simp only [xl,Bool.and_eq_true] at h;rcases List.mem_cons.1 hk with rfl | hk
  ·have:k∈Region.ready .any ops listed:=by simpa using h.1.1
   obtain ⟨_,o,ho,_⟩:=mem_ready.1 this;exact ⟨o,ho⟩
  ·exact NK h.2 k hk
end
section
variable{dec:Dec}{E:bc}
theorem zL(hE:E.Ok){n:Nat}(hC:∀ j,j<n→vg dec E j){fn:AFn}{H0:List AObj}{k:List Fra}{r:Out}{N:Fr}{m:Bool}{nt:Nat}{ops:Array Oper}{ros:List RO}(hnt:nt≤N.n)
  (hc:Cj E.P E.G m nt ops ops.toList=some ros) {q:Cl}{sc s:Bool}{cl:Nat→Cl} (hcl0:∀ i,cl i=zF q sc ros i∨cl i = .quiet∨((cl i = .eff∨cl i = .turn∨cl i = .stop∨cl i = .last)∧DZ ros i=true)) (hpiv:∀ i,cl i = .last→KH ops i) (htrk:∀ i,cl i = .turn∨cl i = .stop→s=true) (hscs:sc=true→s=true) :
  ∀ (ord:List Nat) (T L:List Nat) (j:Nat) (a:Env) (H:List AObj),FU ops cl ord→(∀ i∈ord,∃ o,ops[i]?=some o)→j≤n →
   ev dec E j fn H0 (.c (.dops s T L (ord.map fun i=>(ros.getD i default,cl i)))::k) a H=some r →
   ∃ Tf Lf,(∀ x∈T,x∈Tf)∧(∀ x∈L,x∈Lf)∧apart Tf Lf∧(s=false→Tf=T) ∧
    (T=[]∨s=true→Sq N ops (KpT Tf) (DR E.P E.G ros) (DPR E.P E.G ros) (cl) (HD dec E n fn H0 k r) ord a H)
 |_,T,L,0,a,H,_,_,_,h=>by cases h
 |[],T,L,j+1,a,H,_,_,hj,h=>by
  have h':(match dec.ap T L with
    |.yes _=>ev dec E j fn H0 k a H
    |.no=>none)=some r:=h
  split at h'
  ·rename_i ha _
   exact ⟨T,L,fun _ h=>h,fun _ h=>h,ha,fun _=>rfl,fun _=>⟨j,by omega,h'⟩⟩
  ·cases h'
 |i::ord,T,L,j+1,a,H,hso,hlt,hj,h=>by
  obtain ⟨o,ho⟩:=hlt i (by simp);obtain ⟨ro,hro,hcro⟩:=FT hc i o (by simpa using ho);obtain ⟨hgd,hs,hdst,hlt2⟩:=EU hcro;have hd:∀ d,o.dst=some d→d<N.n:=fun d e=>Nat.lt_of_lt_of_le (hlt2 d e) hnt
  have hw:zG a ro=ky ops a o:=by
   obtain ⟨d,g,s⟩:=ro;exact NF hgd
  have hclr:zF q sc ros i=nO q sc ro.s:=by unfold zF;rw [hro]
  have hgetD:ros.getD i default=ro:=by simp [List.getD,hro]
  have hlt':∀ i∈ord,∃ o,ops[i]?=some o:=fun i hi=>hlt i (by simp [hi])
  rw [List.map_cons] at h;simp only [ev] at h;rw [hgetD,hw] at h;split at h
  ·cases h
  ·rename_i hwt
   obtain ⟨Tf,Lf,h1,h2,h3,h4,h5⟩:=zL hE hC hnt hc hcl0 hpiv htrk hscs ord T L j _ H hso.2 hlt' (by omega) h;refine ⟨Tf,Lf,h1,h2,h3,h4,fun hts=>.inl ⟨o,gH,H,ho,⟨hd,fun _=>rfl,fun _=>⟨Nat.le_refl _,fun _ _ _=>rfl⟩,.inr ⟨hwt,rfl,rfl⟩⟩, ?_⟩⟩;rw [← hdst];exact h5 hts
  ·rename_i hwt
   rcases ET hs with ⟨c,f,hop,hcal,hsf⟩ | ⟨x,hop,hsx⟩ | ⟨op,hq,hsq⟩ | ⟨c,x,mn,hop,hcal,hsi⟩
   ·rw [hsf] at h
    simp only at h;split at h
    ·rename_i g first cap hfe
     split at h
     ·rename_i v L1 hwv
      obtain ⟨Tf,Lf,h1,h2,h3,h4,h5⟩:=zL hE hC hnt hc hcl0 hpiv htrk hscs ord T (L1++L) j _ H hso.2 hlt' (by omega) h
      have hwc:cl i = .wide∧∀ H2:List AObj,(∀ id∈L1,id<H.length→H2[id]?=H[id]?)→cT E.P E.G g (first++(ph E.P E.G c.args.toList c.argTypes.toList).map (rx a)++cap) H2 fun r H'=>r = .ret v∧H'=H2:=by
       unfold FK at hwv;split at hwv
       ·rename_i e;exact ⟨e,hE.wo _ _ _ _ _ hwv⟩
       ·cases hwv
      have hD:∀ H2:List AObj,(∀ id∈L1,id<H.length→H2[id]?=H[id]?)→DR E.P E.G ros i a H2 v H2:=fun H2 hh=>by
       unfold DR;rw [hro];simp only [FS,hsf,hfe];exact hwc.2 H2 hh
      refine ⟨Tf,Lf,h1,fun x hx=>h2 x (by simp [hx]),h3,h4,fun hts=>.inl ⟨o,v,H,ho,⟨hd,fun hst=>rfl,fun hkp => ?_,.inl ⟨hwt,hD H (fun _ _ _=>rfl),fun hwd => ?_⟩⟩, ?_⟩⟩
      ·rw [hwc.1] at hkp;cases hkp
      ·intro H2 hk2;exact hD H2 fun id hid hlt=>hk2.2 id hlt (h3 id (h2 id (by simp [hid])))
      ·rw [← hdst];exact h5 hts
     have h':(match zI dec E j g (first++(ph E.P E.G c.args.toList c.argTypes.toList).map (rx a)++cap) H with
      |some (.ret v,H')=>match PS dec E (cl i) g (first++(ph E.P E.G c.args.toList c.argTypes.toList).map (rx a)++cap) H v H' T with
       |some T'=>ev dec E j fn H0 (.c (.dops s T' L (ord.map fun i=>(ros.getD i default,cl i)))::k) (iz a ro.d v) H'
       |none=>none
      |some (.panic p,H')=>Bt dec E (ev dec E j) (cl i) ro.g fn H0 k a T L p H'
      |none=>none)=some r:=h
     split at h'
     ·rename_i v H' hcall
      have hA:=hC j (by omega) _ _ _ _ _ hcall
      have hD:DR E.P E.G ros i a H v H':=by
       unfold DR;rw [hro];simp only [FS,hsf,hfe];exact hA
      split at h'
      ·rename_i T' hdt
       obtain ⟨Tf,Lf,h1,h2,h3,h4,h5⟩:=zL hE hC hnt hc hcl0 hpiv htrk hscs ord T' L j _ H' hso.2 hlt' (by omega) h';unfold PS at hdt;split at hdt
       ·rename_i hdyn
        cases hdt;refine ⟨Tf,Lf,h1,h2,h3,h4,fun hts=>.inl ⟨o,v,H',ho,⟨hd,fun hst => ?_,fun hkp => ?_,.inl ⟨hwt,hD,fun hwd => ?_⟩⟩, ?_⟩⟩
        ·unfold n8 at hdyn
         cases hcl2:cl i<;>rw [hcl2] at hst hdyn<;>simp only [Cl.still] at hst<;>first | (cases hst;done) | skip
         ·exact yI.of hdyn
         ·exact (yI.of hdyn).1
        ·unfold n8 at hdyn
         cases hcl2:cl i<;>rw [hcl2] at hkp hdyn<;>simp only [Cl.keeps] at hkp<;>first | (cases hkp;done) | (cases hdyn;done) | skip
         have e:H'.take H.length=H:=yI.of hdyn
         have:H'=H++H'.drop H.length:=by
          conv=>lhs;rw [← List.take_append_drop H.length H',e]
         rw [this];exact xt _ _ _
        ·intro H2 _
         rw [hwd] at hdyn;have e:=yI.of hdyn;unfold DR;rw [hro];simp only [FS,hsf,hfe];exact e.2 H2
        ·rw [← hdst];exact h5 hts
       ·have htu:∃ x : {T:List Nat // KpT T H H'},(cl i = .turn∨cl i = .stop)∧T'=x.1++T:=by
         unfold FL at hdt;cases hcl2:cl i<;>rw [hcl2] at hdt<;>simp only at hdt<;>first | (cases hdt;done) | skip
         all_goals
          split at hdt
          ·rename_i x _
           cases hdt;exact ⟨x,by simp,rfl⟩
          ·cases hdt
        obtain ⟨x,hcl2,rfl⟩:=htu;have hs1:=htrk i hcl2;refine ⟨Tf,Lf,fun y hy=>h1 y (by simp [hy]),h2,h3,fun e=>(by rw [hs1] at e;cases e),fun hts=>.inl ⟨o,v,H',ho,⟨hd,fun hst => ?_,fun hkp => ?_,.inl ⟨hwt,hD,fun hwd => ?_⟩⟩, ?_⟩⟩
        ·rcases hcl2 with e | e<;>rw [e] at hst<;>cases hst
        ·exact x.2.mono fun y hy=>h1 y (by simp [hy])
        ·rcases hcl2 with e | e<;>rw [e] at hwd<;>cases hwd
        ·rw [← hdst];exact h5 (.inr hs1)
      ·cases h'
     ·rename_i p H' hcall
      by_cases hlast:cl i = .last
      ·rw [hlast] at h'
       unfold Bt at h';simp only at h';split at h'
       ·split at h'
        ·rename_i hap _
         have hA:=hC j (by omega) _ _ _ _ _ hcall;refine ⟨T,L,fun _ h=>h,fun _ h=>h,hap,fun _=>rfl,fun hts=>.inr ⟨o,p,H',ho,(by rw [hlast];intro e;cases e),hwt, ?_,.inr ⟨hpiv i hlast,⟨j,by omega, ?_⟩⟩⟩⟩
         ·unfold DPR
          rw [hro];simp only [MC,hsf,hfe];exact hA
         ·exact h'
        ·cases h'
       ·cases h'
      have h':Mw dec (cl i) ro.g fn H0 T L p H'=some r:=by
       unfold Bt at h';split at h'
       ·rename_i e;exact absurd e hlast
       ·exact h'
      unfold Mw at h';cases hcl2:cl i<;>rw [hcl2] at h'<;>simp only at h'<;>first | (cases h';done) | skip
      split at h'
      ·rename_i hgn
       split at h'
       ·rename_i hdf
        split at h'
        ·rename_i hap _
         have hA:=hC j (by omega) _ _ _ _ _ hcall;refine ⟨T,L,fun _ h=>h,fun _ h=>h,hap,fun _=>rfl,fun hts=>.inr ⟨o,p,H',ho,(by rw [hcl2];intro e;cases e),hwt, ?_,.inl ⟨hso.1 hcl2,fun a2=>⟨j,by omega, ?_⟩⟩⟩⟩
         ·unfold DPR
          rw [hro];simp only [MC,hsf,hfe];exact hA
         ·simp only [evX,ga,hdf]
          exact h'
        ·cases h'
       ·cases h'
      ·cases h'
     ·cases h'
    ·cases h
   ·rw [hsx] at h;cases h
   ·rw [hsq] at h
    simp only at h;split at h
    ·rename_i v H' hrop
     split at h
     ·rename_i T' L' hdyn
      obtain ⟨Tf,Lf,h1,h2,h3,h4,h5⟩:=zL hE hC hnt hc hcl0 hpiv htrk hscs ord T' L' j _ H' hso.2 hlt' (by omega) h
      have hD:DR E.P E.G ros i a H v H':=by
       unfold DR;rw [hro];simp only [FS,hsq];exact hrop
      rcases hcl0 i with hcl | hcl | ⟨_,hcb⟩
      rotate_left
      rotate_left
      ·unfold DZ at hcb
       rw [hro] at hcb;dsimp only at hcb;rw [hsq] at hcb;cases hcb
      rotate_left
      ·rw [hcl] at hdyn
       replace hdyn:(if Ci op then some (T,L) else none)=some (T',L'):=hdyn
       by_cases hwo:Ci op=true
       ·rw [if_pos hwo] at hdyn
        obtain ⟨rfl,rfl⟩:T=T'∧L=L':=by simpa using hdyn
        refine ⟨Tf,Lf,h1,h2,h3,h4,fun hts=>.inl ⟨o,v,H',ho,⟨hd,fun _=>(FM hwo hrop).1,fun hkp=>(by rw [hcl] at hkp;cases hkp),.inl ⟨hwt,hD,fun hwd=>(by rw [hcl] at hwd;cases hwd)⟩⟩, ?_⟩⟩;rw [← hdst];exact h5 hts
       ·rw [if_neg hwo] at hdyn;cases hdyn
      rw [hclr] at hcl
      have hdyn2:(∀ x∈T,x∈T')∧(∀ x∈L,x∈L')∧(s=false→T'=T)∧(cl i = .wide→s=true→∀ id,xq a op=some id→id∈L') ∧
        (cl i = .keep→∀ sz x v,op = .st sz x v→∀ id,sb (rx a x)=some id→id∈T') ∧
        (cl i = .keep→∀ m e sz bytes str x y,op = .ap m e sz bytes str x y→∀ id,mI (rx a x)=some id→id∈T'):=by
       rw [hcl,hsq] at hdyn ⊢;unfold nB at hdyn;split at hdyn
       ·rename_i hw
        split at hdyn
        ·rename_i hst
         split at hdyn
         ·rename_i id hid
          cases hdyn;refine ⟨fun _ h=>h,fun _ h=>by simp [h],fun _=>rfl,fun _ _ id' hid' => ?_,fun e=>(by rw [hw] at e;cases e),fun e=>(by rw [hw] at e;cases e)⟩;rw [hid] at hid';cases hid';simp
         ·rename_i hid
          cases hdyn;exact ⟨fun _ h=>h,fun _ h=>h,fun _=>rfl,fun _ _ id' hid'=>(by rw [hid] at hid';cases hid'),fun e=>(by rw [hw] at e;cases e),fun e=>(by rw [hw] at e;cases e)⟩
        ·rename_i hst
         cases hdyn;exact ⟨fun _ h=>h,fun _ h=>h,fun _=>rfl,fun _ e=>absurd e hst,fun e=>(by rw [hw] at e;cases e),fun e=>(by rw [hw] at e;cases e)⟩
       ·rename_i hkp
        have hkc:=FW hkp;split at hdyn
        ·rename_i sz x v'
         have hst:s=true:=by
          rcases hkc with e | ⟨e,_⟩ | ⟨_,_,_,_,_,_,_,e⟩
          ·cases e
          ·exact hscs e
          ·cases e
         split at hdyn
         ·rename_i id hid
          cases hdyn;refine ⟨fun _ h=>by simp [h],fun _ h=>h,fun e=>(by rw [hst] at e;cases e),fun e=>(by rw [hkp] at e;cases e),fun _ sz2 x2 v2 e id' hid' => ?_,fun _ _ _ _ _ _ _ _ e=>(by cases e)⟩;cases e;rw [hid] at hid';cases hid';simp
         ·cases hdyn
        ·rename_i m e sz bytes str x y
         split at hdyn
         ·rename_i id hid
          cases hdyn
          have hst:s=true:=by
           rcases hkc with hn | ⟨e,_⟩ | ⟨_,_,_,_,_,_,_,e⟩
           ·obtain ⟨_,_,_,rfl⟩:=Jw hn
            simp [rx,mI] at hid
           ·exact hscs e
           ·cases hss:sc with
            |true=>exact hscs hss
            |false=>
             rw [hss] at hkp;unfold nO at hkp;simp only at hkp;split at hkp
             ·cases hkp
             ·split at hkp
              ·cases hkp
              ·split at hkp
               ·rename_i hn
                obtain ⟨_,_,_,rfl⟩:=Jw hn;simp [rx,mI] at hid
               ·cases hkp
          refine ⟨fun _ h=>by simp [h],fun _ h=>h,fun e=>(by rw [hst] at e;cases e),fun e=>(by rw [hkp] at e;cases e),fun _ _ _ _ e=>(by cases e),fun _ m2 e2 sz2 b2 st2 x2 y2 e id' hid' => ?_⟩;cases e;rw [hid] at hid';cases hid';simp
         ·rename_i hid
          cases hdyn;exact ⟨fun _ h=>h,fun _ h=>h,fun _=>rfl,fun e=>(by rw [hkp] at e;cases e),fun _ _ _ _ e=>(by cases e),fun _ m2 e2 sz2 b2 st2 x2 y2 e id' hid'=>(by cases e;rw [hid] at hid';cases hid')⟩
        ·rename_i hnst hnap
         cases hdyn;exact ⟨fun _ h=>h,fun _ h=>h,fun _=>rfl,fun e=>(by rw [hkp] at e;cases e),fun _ sz x v e=>absurd e (hnst sz x v),fun _ m e sz bytes str x y h=>absurd h (hnap m e sz bytes str x y)⟩
       ·rename_i hqq;exact absurd hqq clOfR_quiet
       ·rename_i n1 n2 n3
        cases hdyn;exact ⟨fun _ h=>h,fun _ h=>h,fun _=>rfl,fun e=>absurd e n1,fun e=>absurd e n2,fun e=>absurd e n2⟩
      obtain ⟨g1,g2,g3,g4,g5,g6⟩:=hdyn2;refine ⟨Tf,Lf,fun x hx=>h1 x (g1 x hx),fun x hx=>h2 x (g2 x hx),h3,fun e=>(h4 e).trans (g3 e),fun hts=>.inl ⟨o,v,H',ho,⟨hd,fun hst => ?_,fun hkp => ?_,.inl ⟨hwt,hD,fun hwd => ?_⟩⟩, ?_⟩⟩
      ·rw [hcl,hsq] at hst
       have:Ci op=true:=by
        cases hcl2:nO q sc (.op op)<;>rw [hcl2] at hst<;>simp only [Cl.still] at hst<;>first | (cases hst;done) | skip
        ·exact absurd hcl2 clOfR_quiet
        ·exact FV hcl2
       exact (FM this hrop).1
      ·rw [hcl,hsq] at hkp
       have hkp':=KO hkp;have hkp2:cl i = .keep:=by rw [hcl,hsq];exact hkp'
       rcases FW hkp' with hn | ⟨hs',sz,x,v',rfl⟩ | ⟨m,e,sz,bytes,str,x,y,rfl⟩
       ·obtain ⟨Ln,rfl⟩:=Sw hn hrop
        exact xt _ _ _
       ·obtain ⟨id,ob,e1,rfl⟩:=Us hrop
        exact NJ (h1 id (g5 hkp2 sz x v' rfl id e1)) _ _
       ·rcases Ur hrop with ⟨L,rfl⟩ | ⟨id,ob,L,e1,rfl⟩
        ·exact xt _ _ _
        ·exact KpT.trans _ _ _ (NJ (h1 id (g6 hkp2 m e sz bytes str x y rfl id e1)) _ _) (xt _ _ _)
      ·intro H2 hk2
       have hwd':=hwd;rw [hcl,hsq] at hwd';unfold DR;rw [hro];simp only [FS,hsq];refine (FM (FV hwd') hrop).2 H2 fun id hid hlen=>hk2.2 id hlen ?_
       rcases Bool.eq_false_or_eq_true s with hst | hst
       ·exact h3 id (h2 id (g4 hwd hst id hid))
       ·rw [h4 hst,g3 hst]
        rcases hts with e | e
        ·rw [e];simp
        ·rw [hst] at e;cases e
      ·rw [← hdst]
       refine h5 ?_;rcases hts with e | e
       ·rcases Bool.eq_false_or_eq_true s with hst | hst
        ·exact .inr hst
        ·exact .inl (by rw [g3 hst];exact e)
       ·exact .inr e
     ·cases h
    ·cases h
   ·rw [hsi] at h;cases h
end
section
variable{dec:Dec}{E:bc}
theorem uY{n n':Nat}{fn:AFn}{H0:List AObj}{k k':List Fra}{r:Out}(hn:n≤n')(hk:∀ x a H m,x≠.normal→evX dec E m fn H0 x k a H=evX dec E m fn H0 x k' a H){x:iv}{a:Env}{H:List AObj}
  (hx:x≠.normal) (h:HD dec E n fn H0 k r x a H):HD dec E n' fn H0 k' r x a H:=by
 obtain ⟨m,hm,h⟩:=h;exact ⟨m,by omega,by rw [← hk x a H m hx];exact h⟩
theorem P6{m:Nat}{fn:AFn}{H0:List AObj}{x:iv}{k:List Fra}{ac:AC}{a:Env}{H:List AObj}(hx:x≠.normal):evX dec E m fn H0 x (.c ac::k) a H=evX dec E m fn H0 x k a H:=by
 cases x<;>first | exact absurd rfl hx | rfl
theorem Uw{m:Nat}{fn:AFn}{H0:List AObj}{x:iv}{k:List Fra}{h:LH}{ac:AC}{He:List AObj}{a:Env}{H:List AObj}(hx:x≠.normal):evX dec E m fn H0 x (.lp h ac He::k) a H=evX dec E m fn H0 x k a H:=by
 cases x<;>first | exact absurd rfl hx | rfl
theorem JD(m:Bool)(ops:Array Oper)(ros:List RO)(q:Cl)(s:Bool)(ord:List Nat)(k:Nat):FI m ops ros q s ord k=zF q s ros k∨FI m ops ros q s ord k = .quiet∨(FI m ops ros q s ord k = .eff∧DZ ros k=true):=by
 unfold FI;split
 ·exact .inr (.inl rfl)
 ·split
  ·rename_i h
   unfold TT at h;simp only [Bool.and_eq_true] at h;exact .inr (.inr ⟨rfl,h.2.1⟩)
  ·exact .inl rfl
theorem KP{m:Bool}{ops:Array Oper}{ros:List RO}{ac:AC}:∀ {l:List (Cl×Bool×List Nat)},Ss m ops ros l=some ac→∃ q s ord,(q,s,ord)∈l∧ord.length=ops.size∧xl ops (FI m ops ros q s ord) ord (Array.replicate ops.size false)=true ∧
  ac = .dops s [] [] (ord.map fun k=>(ros.getD k default,FI m ops ros q s ord k))
 |[],h=>by cases h
 |(q,s,ord)::l,h=>by
  simp only [Ss] at h;split at h
  ·rename_i hc
   simp only [Bool.and_eq_true,beq_iff_eq] at hc;cases h;exact ⟨q,s,ord,by simp,hc.1,hc.2,rfl⟩
  ·obtain ⟨q',s',ord',h1,h2⟩:=KP h
   exact ⟨q',s',ord',by simp [h1],h2⟩
theorem Iq{ops:Array Oper}{ros:List RO}{ac:AC}:∀ {l:List (List Nat)},NA ops ros l=some ac→∃ ord,ord.length=ops.size∧xl ops (Jr ops ros ord) ord (Array.replicate ops.size false)=true ∧
  ac = .dops true [] [] (ord.map fun k=>(ros.getD k default,Jr ops ros ord k))
 |[],h=>by cases h
 |ord::l,h=>by
  simp only [NA] at h;split at h
  ·rename_i hc
   simp only [Bool.and_eq_true,beq_iff_eq] at hc;cases h;exact ⟨ord,hc.1,hc.2,rfl⟩
  ·exact Iq h
theorem FX{i x:Nat}{l:List Nat}(hx:x∈l):∀ pre:List Nat,x∈Jq (pre++i::l) i
 |[]=>by
  have:(!Nat.beq i i)=false:=by simp
  simp [Jq,List.dropWhile_cons,this,hx]
 |b::pre=>by
  unfold Jq;rw [List.cons_append,List.dropWhile_cons];cases hb:(!Nat.beq b i) with
  |true=>simp only [if_true];exact FX hx pre
  |false=>simp [hx]
theorem KQ{ops:Array Oper}{ros:List RO}{full:List Nat}:∀ (l pre:List Nat),full=pre++l→FU ops (Jr ops ros full) l
 |[],_,_=>trivial
 |i::l,pre,h=>by
  refine ⟨fun hc j hj => ?_,KQ l (pre++[i]) (by simp [h])⟩;unfold Jr at hc;split at hc
  ·split at hc
   ·rename_i hs
    unfold TU at hs;rw [List.all_eq_true] at hs;have:=hs j (by rw [h];exact FX hj pre);exact tK ops.toList [] (fun j=>by simp) (fun j hj=>by simp at hj) j this
   ·cases hc
  ·exact absurd hc (JC (by decide) (by decide)).2
theorem C7{ops:Array Oper}{cl:Nat→Cl}(h:∀ i,cl i≠.stop):∀ l,FU ops cl l
 |[]=>trivial
 |i::l=>⟨fun e=>absurd e (h i),C7 h l⟩
theorem Ir{ops:Array Oper}{ros:List RO}{ac:AC}:∀ {l:List (List Nat)},Nz ops ros l=some ac→∃ ord,ord.length=ops.size∧xl ops (HC ops ros) ord (Array.replicate ops.size false)=true ∧
  ac = .dops false [] [] (ord.map fun k=>(ros.getD k default,HC ops ros k))
 |[],h=>by cases h
 |ord::l,h=>by
  simp only [Nz] at h;split at h
  ·rename_i hc
   simp only [Bool.and_eq_true,beq_iff_eq] at hc;exact ⟨ord,hc.1,hc.2,by simpa using h.symm⟩
  ·exact Ir h
theorem P7{ops:Array Oper}{k:Nat}(h:Uo ops k=true):KH ops k:=fun j oj hj hne=>by
 unfold Uo at h;rw [List.all_eq_true] at h;have:=h j (List.mem_range.2 (Array.getElem?_eq_some_iff.1 hj).1);rw [Bool.or_eq_true,Bool.or_eq_true] at this;rcases this with (h1 | h1) | h1
 ·exact absurd (Nat.eq_of_beq_eq_true h1) hne
 ·exact .inl (tK ops.toList [] (fun j=>by simp) (fun j hj=>by simp at hj) j h1)
 ·exact .inr (tK ops.toList [] (fun j=>by simp) (fun j hj=>by simp at hj) k h1)
theorem C8{m t u:Bool}{ops:Array Oper}{ros:List RO}{ac:AC}(h:PP m t u ops ros=some ac):∃ (q:Cl) (sc s:Bool) (cl:Nat→Cl) (ord:List Nat),q≠.pure∧Ms ops ros=true∧ord.length=ops.size∧xl ops cl ord (Array.replicate ops.size false)=true ∧
  ac = .dops s [] [] (ord.map fun k=>(ros.getD k default,cl k))∧WA ops ros q sc s cl ord:=by
 unfold PP at h;split at h
 ·rename_i hu
  simp only at h;split at h
  ·obtain ⟨ord,h1,h2,h3⟩:=Ir h
   have nt:∀ i,HC ops ros i≠.turn∧HC ops ros i≠.stop:=fun i=>by
    unfold HC;split
    ·exact ⟨by decide,by decide⟩
    ·exact JC (by decide) (by decide)
   refine ⟨.eff,false,false,HC ops ros,ord,by decide,hu,h1,h2,h3,⟨fun i => ?_,fun i hi => ?_,fun i hi => ?_,fun e=>(by cases e),C7 (fun i=>(nt i).2) ord⟩⟩
   ·unfold HC
    split
    ·rename_i hc
     rw [Bool.and_eq_true] at hc;exact .inr (.inr ⟨.inr (.inr (.inr rfl)),hc.1⟩)
    ·exact .inl rfl
   ·unfold HC at hi
    split at hi
    ·rename_i hc
     rw [Bool.and_eq_true] at hc;exact P7 hc.2
    ·exact absurd hi (JB (by decide))
   ·rcases hi with e | e
    ·exact absurd e (nt i).1
    ·exact absurd e (nt i).2
  split at h
  ·obtain ⟨ord,h1,h2,h3⟩:=Iq h
   refine ⟨.keep,false,true,Jr ops ros ord,ord,by decide,hu,h1,h2,h3,⟨fun i => ?_,fun i hi => ?_,fun _ _=>rfl,fun e=>(by cases e),KQ ord [] rfl⟩⟩
   rotate_left
   ·unfold Jr at hi
    split at hi
    ·split at hi<;>cases hi
    ·exact absurd hi (JB (by decide))
   unfold Jr;split
   ·rename_i hcb
    split
    ·exact .inr (.inr ⟨.inr (.inr (.inl rfl)),hcb⟩)
    ·exact .inr (.inr ⟨.inr (.inl rfl),hcb⟩)
   ·exact .inl rfl
  ·obtain ⟨q,s,ord,hmem,h1,h2,h3⟩:=KP h
   have hq:q≠.pure∧q≠.turn∧q≠.stop∧q≠.last:=by
    refine ⟨?_, ?_, ?_, ?_⟩<;>intro e<;>subst e<;>simp at hmem
   have nt:∀ i,FI m ops ros q s ord i≠.turn∧FI m ops ros q s ord i≠.stop:=fun i=>by
    rcases JD m ops ros q s ord i with e | e | ⟨e,_⟩
    ·rw [e];exact JC hq.2.1 hq.2.2.1
    ·rw [e];decide
    ·rw [e];decide
   refine ⟨q,s,s,FI m ops ros q s ord,ord,hq.1,hu,h1,h2,h3,⟨fun i => ?_,fun i hi => ?_,fun i hi => ?_,fun e=>e,C7 (fun i=>(nt i).2) ord⟩⟩
   ·rcases JD m ops ros q s ord i with e | e | ⟨e,hb⟩
    ·exact .inl e
    ·exact .inr (.inl e)
    ·exact .inr (.inr ⟨.inl e,hb⟩)
   ·exfalso
    rcases JD m ops ros q s ord i with e | e | ⟨e,_⟩
    ·rw [e] at hi;exact absurd hi (JB hq.2.2.2)
    ·rw [e] at hi;cases hi
    ·rw [e] at hi;cases hi
   ·rcases hi with e | e
    ·exact absurd e (nt i).1
    ·exact absurd e (nt i).2
 ·cases h
theorem C9{x y:AC}(h:∀ l,y≠.lv l)(h2:∀ t l,y≠.fz t l):(AC.seq x y).strip = .seq x.strip y.strip:=by
 cases y<;>first | exact absurd rfl (h _) | exact absurd rfl (h2 _ _) | rw [AC.strip]
 all_goals intros;rename_i e;cases e
theorem Ux{P:Program}{G:Nat→Option (List AV)}{N:Fr}{c:Code}{a:Env}{H:List AObj}{Q Q':iv→Env→List AObj→Prop}(h:AWP P G N c Q a H)
  (hn:∀ a H,Q .normal a H→∃ a' H2,(∀ K act w,Rel N K a H act w→∃ K2,K.le K2∧Rel N K2 a' H2 act w)∧Q' .normal a' H2) (ho:∀ x a H,x≠.normal→Q x a H→Q' x a H):AWP P G N c Q' a H:=fun K act w hg hr=>
 wpIn_mono (h K act w hg hr) fun e _ _ ⟨K',x,a',H',h1,h2,h3,h4⟩=>by
  by_cases hx:x = .normal
  ·subst hx
   obtain ⟨a2,H2,h5,h6⟩:=hn _ _ h4;obtain ⟨K2,h7,h8⟩:=h5 _ _ _ h3;exact ⟨K2,.normal,a2,H2,h1.trans h7,by cases e<;>first | exact (h2:False).elim | trivial,h8,h6⟩
  ·exact ⟨K',x,a',H',h1,h2,h3,ho x a' H' hx h4⟩
theorem NL{K:ak}{tm:Nat→Value}:∀ (l:List Nat) (vs:List AV) (a:Env),(∀ t,V K (dR a t) (tm t))→(∀ (i:Nat) (p:Nat) (v:AV),l[i]?=some p→vs[i]?=some v→V K v (tm p))→∀ t,V K (dR (yz a l vs) t) (tm t)
 |[],_,a,h,_,t=>h t
 |_::_,[],a,h,_,t=>h t
 |p :: l,v::vs,a,h,h2,t=>NL l vs (mE a p v) (fun t=>by
    rw [jV];split
    ·rename_i e;subst e;exact h2 0 _ v rfl rfl
    ·exact h t) (fun i q u hq hu=>h2 (i+1) q u (by simpa using hq) (by simpa using hu)) t
theorem NM{N:Fr}{K:ak}{a a':Env}{H H':List AObj}{act:Act}{w:World}{t:Nat}{l:List Nat}(h:fzR dec t l a H=some (a',H'))(hr:Rel N K a H act w):∃ K2,K.le K2∧Rel N K2 a' H' act w:=by
 unfold fzR at h;split at h
 ·split at h
  ·rename_i n off vs hok _
   split at h
   ·rename_i hlen
    cases h
    let tm:Nat→Value:=fun t=>act.tmps.getD t undef
    have hv:V K (.tuple (l.map (dR a))) (.tuple (l.map tm).toArray):=.tuple _ _ (by simp) fun i av hi=>by
     rw [List.getElem?_map] at hi;cases hl:l[i]? with
     |none=>rw [hl] at hi;cases hi
     |some p=>
      rw [hl] at hi;cases hi
      have:((l.map tm).toArray).getD i undef=tm p:=by simp [Array.getD_eq_getD_getElem?,List.getElem?_map,hl]
      rw [this];exact hr.tmps p
    obtain ⟨K2,h1,h2,h3⟩:=hok K w _ hr.inv hv;refine ⟨K2,h1,⟨h3,hr.defers.mono h1,hr.size, ?_⟩⟩;refine NL (tm:=tm) l vs .leaf (fun t=>by rw [CV];exact .unk _) fun i p v hp hv2 => ?_
    cases h2 with
    |tuple _ _ g1 g2=>
     have:=g2 i v hv2;have e:((l.map tm).toArray).getD i undef=tm p:=by simp [Array.getD_eq_getD_getElem?,List.getElem?_map,hp]
     rwa [e] at this
   ·cases h
  ·cases h
 ·cases h
theorem P8{P:Program}{G:Nat→Option (List AV)}{N:Fr}{c:Code}{a:Env}{H:List AObj}{Q Q':iv→Env→List AObj→Prop}(h:AWP P G N c Q a H)
  (hq:∀ x a H,Q x a H→∃ a',(∀ K act w,Rel N K a H act w→Rel N K a' H act w)∧Q' x a' H):AWP P G N c Q' a H:=fun K act w hg hr=>
 wpIn_mono (h K act w hg hr) fun _ _ _ ⟨K',x,a',H',h1,h2,h3,h4⟩=>by
  obtain ⟨a2,h5,h6⟩:=hq _ _ _ h4;exact ⟨K',x,a2,H',h1,h2,h5 _ _ _ h3,h6⟩
theorem P9{x y:AC}(h:fZ (.seq x y)=true):fZ x=true∧fZ y=true:=by simpa [fZ] using h
theorem NN{c:RX}{x y:AC}(h:fZ (.cond c x y)=true):fZ x=true∧fZ y=true:=by simpa [fZ] using h
theorem Qa:∀ (x:AC),fZ x.strip=fZ x:=by
 intro x
 fun_induction AC.strip x<;>simp_all [fZ]
theorem Bv{P:Program}{G:Nat→Option (List AV)}{m:Nat→Bool}{nt:Nat}:∀ (c:Code) (ac:AC),cO P G m nt c=some ac→∀ l,(Ck ac l=none→findLabel c l=none)∧∀ q,Ck ac l=some q→∃ rest,findLabel c l=some rest∧cO P G m nt rest=some q
 |.seq x y,ac,h,l=>by
  simp only [cO] at h;split at h
  ·rename_i x' hx
   split at h
   ·rename_i y' hy
    cases h;obtain ⟨h1,h2⟩:=Bv x x' hx l;obtain ⟨h3,h4⟩:=Bv y y' hy l;simp only [Ck,findLabel];cases hf:Ck x' l with
    |none=>
     rw [h1 hf];exact ⟨h3,h4⟩
    |some r=>
     obtain ⟨rest,e1,e2⟩:=h2 r hf;rw [e1];refine ⟨fun h=>(by cases h),fun q hq => ?_⟩;cases hq;exact ⟨_,rfl,by simp only [cO,e2,hy]⟩
   ·cases h
  ·cases h
 |.label l',ac,h,l=>by
  simp only [cO,Option.some.injEq] at h;subst h;simp only [Ck,findLabel];split
  ·exact ⟨fun h=>(by cases h),fun q hq=>by cases hq;exact ⟨.skip,rfl,rfl⟩⟩
  ·exact ⟨fun _=>rfl,fun q hq=>by cases hq⟩
 |.skip,ac,h,l=>by simp only [cO,Option.some.injEq] at h;subst h;exact ⟨fun _=>rfl,fun q hq=>by cases hq⟩
 |.exit _,ac,h,l=>by simp only [cO,Option.some.injEq] at h;subst h;exact ⟨fun _=>rfl,fun q hq=>by cases hq⟩
 |.ret,ac,h,l=>by simp only [cO,Option.some.injEq] at h;subst h;exact ⟨fun _=>rfl,fun q hq=>by cases hq⟩
 |.refuse _,ac,h,l=>by simp only [cO,Option.some.injEq] at h;subst h;exact ⟨fun _=>rfl,fun q hq=>by cases hq⟩
 |.goto _,ac,h,l=>by simp only [cO,Option.some.injEq] at h;subst h;exact ⟨fun _=>rfl,fun q hq=>by cases hq⟩
 |.cond _ _ _,ac,h,l=>by
  simp only [cO] at h;split at h
  ·split at h
   ·cases h;exact ⟨fun _=>rfl,fun q hq=>by cases hq⟩
   ·cases h
  ·cases h
 |.block _ _,ac,h,l=>by
  simp only [cO] at h;split at h
  ·cases h;exact ⟨fun _=>rfl,fun q hq=>by cases hq⟩
  ·cases h
 |.loop _,ac,h,l=>by
  simp only [cO] at h;split at h
  ·cases h;exact ⟨fun _=>rfl,fun q hq=>by cases hq⟩
  ·cases h
 |.scope _,ac,h,l=>by
  simp only [cO] at h;split at h
  ·cases h;exact ⟨fun _=>rfl,fun q hq=>by cases hq⟩
  ·cases h
 |.rangeFunc _ _ _ _,ac,h,l=>by
  simp only [cO] at h;split at h
  ·split at h
   ·split at h
    ·cases h;exact ⟨fun _=>rfl,fun q hq=>by cases hq⟩
    ·cases h
   ·cases h
  ·cases h
 |.region _ ops draw,ac,h,l=>by
  simp only [cO] at h;split at h
  ·rename_i ros hros
   split at h
   ·obtain ⟨q,sc,s,cl,ord,_,_,_,_,hac,_⟩:=C8 h
    rw [hac];exact ⟨fun _=>rfl,fun q hq=>by cases hq⟩
   ·cases h;exact ⟨fun _=>rfl,fun q hq=>by cases hq⟩
  ·cases h
theorem findT_strip:∀ (t:AC) (l:Nat) (r:AC),sX t l=some r→sX t.strip l=some r.strip
 |.tab l' r' t,l,r,h=>by
  simp only [sX,AC.strip] at h ⊢;split at h
  ·rename_i e;cases h;rw [if_pos e]
  ·rename_i e;rw [if_neg e];exact findT_strip t l r h
 |.skip,_,_,h=>by cases h
 |.exit _,_,_,h=>by cases h
 |.ret,_,_,h=>by cases h
 |.seq ..,_,_,h=>by cases h
 |.cond ..,_,_,h=>by cases h
 |.block ..,_,_,h=>by cases h
 |.loop ..,_,_,h=>by cases h
 |.ops ..,_,_,h=>by cases h
 |.dops ..,_,_,h=>by cases h
 |.lv ..,_,_,h=>by cases h
 |.bad,_,_,h=>by cases h
 |.lbl ..,_,_,h=>by cases h
 |.goto ..,_,_,h=>by cases h
 |.scope ..,_,_,h=>by cases h
 |.rfn ..,_,_,h=>by cases h
theorem FY{x:AC}:∀ (ls:List Nat) (l:Nat) (q:AC),sX (KL x ls) l=some q→Ck x l=some q
 |[],l,q,h=>by cases h
 |l'::ls,l,q,h=>by
  unfold KL at h;split at h
  ·rename_i r hr
   unfold sX at h;split at h
   ·rename_i e;cases h;rw [← e];exact hr
   ·exact FY ls l q h
  ·exact FY ls l q h
theorem KR:∀ (t:AC) (l:Nat) (r:AC),sX t l=some r→fZ t=true→fZ r=true
 |.tab l' r' t,l,r,h,hn=>by
  simp only [sX] at h;simp only [fZ,Bool.and_eq_true] at hn;split at h
  ·cases h;exact hn.1
  ·exact KR t l r h hn.2
 |.skip,_,_,h,_=>by cases h
 |.exit _,_,_,h,_=>by cases h
 |.ret,_,_,h,_=>by cases h
 |.seq ..,_,_,h,_=>by cases h
 |.cond ..,_,_,h,_=>by cases h
 |.block ..,_,_,h,_=>by cases h
 |.loop ..,_,_,h,_=>by cases h
 |.ops ..,_,_,h,_=>by cases h
 |.dops ..,_,_,h,_=>by cases h
 |.lv ..,_,_,h,_=>by cases h
 |.bad,_,_,h,_=>by cases h
 |.lbl ..,_,_,h,_=>by cases h
 |.goto ..,_,_,h,_=>by cases h
 |.scope ..,_,_,h,_=>by cases h
 |.rfn ..,_,_,h,_=>by cases h
theorem Is{P:Program}{G:Nat→Option (List AV)}{m:Nat→Bool}{nt:Nat}:∀ (c:Code) (ac:AC) (l:List (List RO)),cO P G m nt c=some ac→Jt ac=some l →
  (∃ id ops ros,c = .region id ops false∧l=[ros]∧Cj P G (m id) nt ops ops.toList=some ros)∨∃ x y x' y' l1 l2,c = .seq x y∧cO P G m nt x=some x'∧cO P G m nt y=some y'∧Jt x'=some l1∧Jt y'=some l2∧l=l1++l2:=by
 intro c ac l h ha;cases c with
 |region id ops draw=>
  simp only [cO] at h;split at h
  ·rename_i ros hros
   cases draw with
   |false=>simp only [Bool.false_eq_true,if_false,Option.some.injEq] at h;subst h;cases ha;exact .inl ⟨id,ops,ros,rfl,rfl,hros⟩
   |true=>
    simp only [if_true] at h;obtain ⟨q,sc,s,cl,ord,_,_,_,_,hac,_⟩:=C8 h;rw [hac] at ha;cases ha
  ·cases h
 |seq x y=>
  simp only [cO] at h;split at h
  ·rename_i x' hx
   split at h
   ·rename_i y' hy
    cases h;simp only [Jt] at ha;split at ha
    ·rename_i l1 l2 e1 e2
     cases ha;exact .inr ⟨x,y,x',y',l1,l2,rfl,hx,hy,e1,e2,rfl⟩
    ·cases ha
   ·cases h
  ·cases h
 |_=>
  simp only [cO] at h
  repeat' split at h
  all_goals first | (cases h;done) | (cases h;cases ha)
theorem KS(k:List Fra):∀ l:List (List RO),kA (l.map (fun l=>Fra.c (.ops l))++k)=kA k
 |[]=>rfl
 |_::l=>KS k l
theorem SA(hE:E.Ok){n:Nat}(hC:∀ j,j<n→vg dec E j){fn:AFn}{H0:List AObj}{r:Out}{N:Fr}{m:Nat→Bool}{nt:Nat}(hnt:nt≤N.n){K:ak}(hg:K.glob=E.G)
  (hpan:∀ (j:Nat) (k:List Fra) (a:Env) (v:AV) (H:List AObj),kA k=some .nilp→ga dec E (ev dec E j) fn H0 k a v H=none) (y:Code) :
  ∀ (Qn:Act→World→Prop) (ac:AC) (l:List (List RO)) (k:List Fra) (j:Nat) (K':ak) (a:Env) (H:List AObj) (act:Act) (w:World),cO E.P E.G m nt y=some ac→Jt ac=some l→kA k=some .nilp→j≤n →
   ev dec E j fn H0 (l.map (fun l=>Fra.c (.ops l))++k) a H=some r→K.le K'→Rel N K' a H act w →
   (∀ (j':Nat) (K2:ak) (a2:Env) (H2:List AObj) (act2:Act) (w2:World),j'<j→K.le K2→Rel N K2 a2 H2 act2 w2→ev dec E j' fn H0 k a2 H2=some r→Qn act2 w2) →
   y.wpIn N.F 0 E.P (Exit.then Qn (fun _ _ _=>False)) act w:=by
 have reg:∀ (id:Nat) (ops:Array Oper) (ros:List RO) (Qn:Act→World→Prop) (k:List Fra) (j:Nat) (K':ak) (a:Env) (H:List AObj) (act:Act) (w:World),Cj E.P E.G (m id) nt ops ops.toList=some ros→kA k=some .nilp→j≤n →
   ev dec E j fn H0 (.c (.ops ros)::k) a H=some r→K.le K'→Rel N K' a H act w →
   (∀ (j':Nat) (K2:ak) (a2:Env) (H2:List AObj) (act2:Act) (w2:World),j'<j→K.le K2→Rel N K2 a2 H2 act2 w2→ev dec E j' fn H0 k a2 H2=some r→Qn act2 w2) →
   (Code.region id ops false).wpIn N.F 0 E.P (Exit.then Qn (fun _ _ _=>False)) act w:=fun id ops ros Qn k j K' a H act w hros hk hj hev hle hr hq=>by
  refine wpIn_region ?_;have hrun:=zK hE (n:=j) (fun i hi=>hC i (by omega)) (N:=N) hnt hg (l2:=[]) (Qc:=Exit.then Qn (fun _ _ _=>False)) (k:=k) (r:=r) ?_ ?_ ops.toList ros (List.range ops.size) j K' a H act w (Nat.le_refl j) hev hros (If ops) hle hr
  ·rwa [List.append_nil] at hrun
  ·intro j' K2 a2 H2 act2 w2 hj' hk2 hr2 hev2
   exact hq j' K2 a2 H2 act2 w2 hj' hk2 hr2 hev2
  ·intro j' K2 a2 H2 act2 w2 v cv hj' hk2 hv hr2 hx
   rw [hpan _ _ _ _ _ hk] at hx;cases hx
 induction y
 case seq x y ihx ihy=>
  intro Qn ac l k j K' a H act w hc ha hk hj hev hle hr hq;rcases Is _ _ _ hc ha with ⟨_,_,_,h1,_⟩ | ⟨x',y',ax,ay,l1,l2,h1,hx,hy,e1,e2,rfl⟩
  ·cases h1
  cases h1
  refine wpIn_seq (wpIn_mono (ihx (y.wpIn N.F 0 E.P (Exit.then Qn (fun _ _ _=>False))) ax l1 (l2.map (fun l=>Fra.c (.ops l))++k) j K' a H act w hx e1 ((KS k l2).trans hk) hj (by rw [List.map_append,List.append_assoc] at hev;exact hev) hle hr
   fun j' K2 a2 H2 act2 w2 hj' hk2 hr2 hev2=>ihy Qn ay l2 k j' K2 a2 H2 act2 w2 hy e2 hk (by omega) hev2 hk2 hr2 fun j3 K3 a3 H3 act3 w3 h3=>hq j3 K3 a3 H3 act3 w3 (by omega)) ?_)
  intro e a3 w3 hp;cases e<;>first | exact hp | exact hp.elim
 all_goals
  intro Qn ac l k j K' a H act w hc ha hk hj hev hle hr hq;rcases Is _ _ _ hc ha with ⟨id,ops,ros,h1,rfl,hros⟩ | ⟨x',y',ax,ay,l1,l2,h1,_⟩
  ·first
   |(cases h1;done)
   |(cases h1;exact reg _ _ ros Qn k j K' a H act w hros hk hj hev hle hr hq)
  ·cases h1
theorem D6{K:ak}:∀ (ps:List Nat) (xs:List AV) (a:Env) (tmps:Array Value),(∀ v∈xs,My v=true)→(∀ p∈ps,p<tmps.size)→(∀ t,V K (dR a t) (tmps.getD t undef)) →
  ((ps.zip (xs.map Cq)).foldl (fun t (p,v)=>t.setIfInBounds p v) tmps).size=tmps.size∧∀ t,V K (dR (yz a ps xs) t) (((ps.zip (xs.map Cq)).foldl (fun t (p,v)=>t.setIfInBounds p v) tmps).getD t undef)
 |[],xs,a,tmps,_,_,h=>by simpa [yz] using h
 |p::ps,[],a,tmps,_,_,h=>by simpa [yz] using h
 |p::ps,v::xs,a,tmps,hv,hp,h=>by
  simp only [List.map_cons,List.zip_cons_cons,List.foldl_cons,yz];have hlt:=hp p (by simp)
  obtain ⟨h1,h2⟩:=D6 ps xs (mE a p v) (tmps.setIfInBounds p (Cq v)) (fun u hu=>hv u (by simp [hu])) (fun q hq=>by simpa using hp q (by simp [hq])) (fun t=>by
   rw [jV];split
   ·rename_i e;subst e
    simpa [Array.getD_eq_getD_getElem?,hlt] using Ut (hv v (by simp))
   ·rename_i e
    have:=h t;simpa [Array.getD_eq_getD_getElem?,Array.getElem?_setIfInBounds_ne (fun h=>e h.symm)] using this)
  exact ⟨by simpa using h1,h2⟩
theorem FZ:∀ {H H':List AObj},Mv H H'=true→∀ (i:Nat) (s:List UInt8) (p:Nat),H'[i]?=some (.siter s p)→∃ s' p',H[i]?=some (.siter s' p')
 |_,[],_,i,s,p,h=>by simp at h
 |[],x::l,hn,i,s,p,h=>by
  simp only [Mv,Bool.and_eq_true] at hn;cases i with
  |zero=>simp at h;subst h;simp [Ov] at hn
  |succ i=>obtain ⟨_,_,h2⟩:=FZ hn.2 i s p (by simpa using h);simp at h2
 |y::H,x::l,hn,i,s,p,h=>by
  simp only [Mv,Bool.and_eq_true] at hn;cases i with
  |zero=>
   simp at h;subst h
   have:Ov y=true:=by simpa [Ov] using hn.1
   cases y<;>first | (cases this;done) | exact ⟨_,_,rfl⟩
  |succ i=>obtain ⟨s',p',h2⟩:=FZ hn.2 i s p (by simpa using h);exact ⟨s',p',by simpa using h2⟩
theorem Ox{n:Nat}(hC:∀ j,j<n+1→vg dec E j)(hE:E.Ok)(IH:∀ j,j<n+1→Bh dec E j){fn:AFn}{H0:List AObj}{g:Operand}{ps:Array Tmp}{l:List (List RO)}{ay az:AC}{y z:Code}{k:List Fra}{a:Env}{H:List AObj}{r:Out}
  (h:ev dec E (n+1) fn H0 (.c (.rfn (cx0 E.G g) ps.toList l az)::k) a H=some r) {N:Fr}{m:Nat→Bool}{nt:Nat} (hN:fn.dfr=none→(N.rd=none∧N.mks=true)∨fZ (.rfn (cx0 E.G g) ps.toList l az)=true) (hnt:nt≤N.n)
  (hy:cO E.P E.G m nt y=some ay) (hya:Jt ay=some l) (hz:cO E.P E.G m nt z=some az.strip) (hps:ps.all (· < nt)=true):AWP E.P E.G N (.rangeFunc g ps y z) (HD dec E (n+1) fn H0 k r) a H:=by
 simp only [ev] at h;split at h
 ·rename_i gf cap hgx hdf
  obtain ⟨hrd,hmk⟩:N.rd=none∧N.mks=true:=(hN hdf).resolve_right (by simp [fZ]);split at h
  ·rename_i xs L hsq
   have hF:N.F=Fence.wide:=by unfold Fr.F;rw [hrd];rfl
   obtain ⟨res,hres,hcont⟩:∃ res:Option AC×List AObj,pq dec (ev dec E n) (zH fn) ps.toList l az a L H xs H=some res ∧
     (match res with | (none,H')=>ev dec E n fn H0 k a H'=some r | (some j,H')=>ev dec E n fn H0 (.c j::k) a H'=some r):=by
    split at h
    ·split at h
     ·rename_i H' e;exact ⟨_,e,h⟩
     ·rename_i j H' e;exact ⟨_,e,h⟩
     ·cases h
    ·cases h
   have har:E.sar gf=ps.toList.length:=by
    split at h
    ·rename_i e;exact Nat.eq_of_beq_eq_true e
    ·cases h
   obtain ⟨hplain,henter,hsw⟩:=hE.seq gf cap H xs L hsq;intro K act w hg hr;rw [hF];have hfv:=jX hg hr g;rw [hgx] at hfv;obtain ⟨vs,us,hfe,hv1,hv2⟩:=hfv.fn_inv;have hvs:vs = #[]:=Array.size_eq_zero_iff.1 hv1.size.symm;subst hvs;have hSW:=hsw K w us hg hr.inv hv2;have hbase:∀ b,w.heap.size≤b→K.base b:=hr.inv.base;have hKsh:∀ b s,K.shape b=some s→b<w.heap.size:=fun b s hs=>hr.inv.shape_lt hs
   have lowOf:∀ {K':ak}{H':List AObj}{W:World},K.le K'→Mv H H'=true→Inv K' H' W→Low w.heap.size (K'.dim w.heap.size) H':=fun {K' H' W} hk hn hi=>⟨fun id b s p hx hb=>by
    obtain ⟨s',p',h1⟩:=FZ hn id s p hx;obtain ⟨b',h2,_,h3,_⟩:=hr.inv.obj id _ h1;have h4:=hk.loc id b' h2;have hb':K'.loc[id]?=some b:=hb;rw [h4] at hb';cases hb';exact (Array.getElem?_eq_some_iff.1 h3).1,fun b o hs=>(NI hs).1⟩
   have hlow0:Low w.heap.size K H:=⟨fun id b s p hx hb=>by
    obtain ⟨b',h2,_,h3,_⟩:=hr.inv.obj id _ hx;rw [hb] at h2;cases h2;exact (Array.getElem?_eq_some_iff.1 h3).1,fun b o hs=>hKsh b _ hs⟩
   have bs:∀ {K':ak},K.le K'→∀ b,w.heap.size≤b→K'.base b:=fun hk b hb=>by rw [hk.base];exact hbase b hb
   have hRel:∀ {K':ak}{H':List AObj}{W:World}{D:Nat},w.heap.size≤D→K.le K'→Inv K' H' W→Low w.heap.size K' H'→W.heap[D]?=some (.deferred (some [])) →
     ∃ K2,K.le K2∧Rel N K2 a H' { act with defers:=Oe D::act.defers } W:=fun {K' H' W D} hD hk hi hl hW=>by
    have hsD:K'.shape D=none:=by
     cases e:K'.shape D with
     |none=>rfl
     |some s=>
      have:=hi.shape D s e;cases s with
      |rows n=>obtain ⟨vs,T,f,h1,_⟩:=this;rw [hW] at h1;cases h1
      |mapv es=>obtain ⟨c,h1⟩:=this;rw [hW] at h1;cases h1
      |fix o=>have:=hl.fix D o e;omega
    have hp:=hi.pin hl;have hkp:=PY hi hl (bs hk);have hpD:=JA (K:=K') hD hW rfl;refine ⟨_,hk.trans hkp,hp, ?_,hr.size,fun t=>(hr.tmps t).mono (hk.trans hkp)⟩;obtain ⟨⟨ms,h1,h2,h3,h4⟩,h5⟩:=hr.defers;refine ⟨⟨D::ms,List.nodup_cons.2 ⟨fun hm => ?_,h1⟩,fun D' hD' => ?_,fun e => ?_, ?_⟩,fun b hb=>h5 b ?_⟩
    ·have:=hKsh D _ (h2 D hm).1;omega
    ·rcases List.mem_cons.1 hD' with rfl | hD'
     ·exact ⟨hpD,bs (hk.trans hkp) _ hD,h5 _ (by
       cases e:K.shape D' with
       |none=>rfl
       |some s=>have:=hKsh _ s e;omega)⟩
     ·obtain ⟨g1,g2,g3⟩:=h2 D' hD'
      exact ⟨(hk.trans hkp).shape _ _ g1,by rw [(hk.trans hkp).base];exact g2,g3⟩
    ·rw [hmk] at e;cases e
    ·simp [h4]
    ·cases e:K.shape b with
     |none=>rfl
     |some s=>rw [(hk.trans hkp).shape _ _ e] at hb;cases hb
   refine P0 (g:=g) (Kp:=fun _ W3 => ∃ K' H',K.le K'∧Inv K' H' W3∧Low w.heap.size K' H'∧∀ id∈L,id<H.length→H'[id]?=H[id]?) hfe henter (xs:=xs.map fun x=>(x.map Cq).toArray)
    (fun l W J Jx hgr hJ hJx hsz hY h0=>hSW l W J Jx (hr.inv.grown hlow0 hbase hgr (fun r e=>by cases e)) hJ hJx hsz (fun i x W1 hx hj => ?_) h0) (fun x hx => ?_)
    (fun i W => ∃ K' H',K.le K'∧Inv K' H' W∧Low w.heap.size K' H'∧pq dec (ev dec E n) (zH fn) ps.toList l az a L H (xs.drop i) H'=some res)
    (fun c W => ∃ K' H' jc,K.le K'∧Inv K' H' W∧Low w.heap.size K' H'∧res=(some jc,H')∧((c = .ret∧jc = .ret)∨∃ id,c = .exit id∧jc = .exit id))
    (fun i W W' row hs hgr ht => ?_) (fun c W W' row hs hgr ht => ?_) ⟨K,H,.refl K,hr.inv,hlow0,hres⟩ (fun W W3 l r o' hl hW hk => ?_) (fun l' D i x W ra rb hD hl' hDl hWl hWD hx hI => ?_) (fun D W hD hI hW => ?_) (fun D c W hD hI hW => ?_)
   ·obtain ⟨fn2,t2,a2,b2,e1,e2⟩:=hY i x W1 hx hj
    refine ⟨fn2,t2,a2,b2,e1,e2.mono ?_⟩;rintro e W' (⟨h1,h2,h3,K',H',h4,h5,_,h6⟩ | h)
    ·exact .inl ⟨h1,h2,h3,K',H',h4,h5,h6⟩
    ·exact .inr h
   ·obtain ⟨xa,hxa,rfl⟩:=List.mem_map.1 hx
    simp [(hplain xa hxa).1,har]
   ·obtain ⟨K',H',h1,h2,h3,h4⟩:=hs
    exact ⟨K',H',h1,h2.grown h3 (bs h1) hgr ht,h3,h4⟩
   ·obtain ⟨K',H',jc,h1,h2,h3,h4⟩:=hs
    exact ⟨K',H',jc,h1,h2.grown h3 (bs h1) hgr ht,h3,h4⟩
   ·obtain ⟨K',H',h1,h2,h3,h4⟩:=hk
    exact ⟨K',H',h1,h2.grown h3 (bs h1) (grownBy_putObj' W3 l _) (fun r e=>by cases e;exact ⟨hl,_,hW,rfl⟩),h3,h4⟩
   ·
    rw [List.getElem?_map,Option.map_eq_some_iff] at hx;obtain ⟨xa,hxa,rfl⟩:=hx;obtain ⟨K1,H1,hk1,hi1,hl1,hrnd⟩:=hI
    have hdrop:xs.drop i=xa::xs.drop (i+1):=by
     have hlt:=(List.getElem?_eq_some_iff.1 hxa).1;rw [List.drop_eq_getElem_cons hlt,(List.getElem?_eq_some_iff.1 hxa).2]
    rw [hdrop] at hrnd;simp only [pq] at hrnd;split at hrnd
    ·rename_i v H2 hev
     split at hrnd
     ·rename_i hid hno _
      have hi2:=hi1.pin hl1;have hk2:K.le (K1.pin w.heap.size W):=hk1.trans (PY hi1 hl1 (bs hk1));have hpl:=JA (K:=K1) hl' hWl rfl;have hpD:=JA (K:=K1) hD hWD rfl
      obtain ⟨hsz,htm⟩:=D6 (K:=K1.pin w.heap.size W) ps.toList xa a act.tmps (hplain xa (List.mem_of_getElem? hxa)).2 (fun p hp=>by
       have:=Array.all_eq_true_iff_forall_mem.1 hps p (by simpa using hp);rw [hr.size];have h2:p<nt:=by simpa using this
       omega) (fun t=>(hr.tmps t).mono hk2)
      have hzip:(ps.zip (xa.map Cq).toArray).foldl (fun t (p,v)=>t.setIfInBounds p v) act.tmps=(ps.toList.zip (xa.map Cq)).foldl (fun t (p,v)=>t.setIfInBounds p v) act.tmps:=by
       rw [← Array.foldl_toList];simp
      have hrel:Rel { n:=N.n,rd:=some l',mks:=false } (K1.pin w.heap.size W) (yz a ps.toList xa) H1 { tmps:=(ps.zip (xa.map Cq).toArray).foldl (fun t (p,v)=>t.setIfInBounds p v) act.tmps,defers:=[] } W:=
       ⟨hi2,.none fun _ _=>trivial,by rw [hzip];exact hsz.trans hr.size,by rw [hzip];exact htm⟩
      have noPan:∀ (j:Nat) (k:List Fra) (a:Env) (v:AV) (H':List AObj),kA k=some .nilp→ga dec E (ev dec E j) (zH fn) H1 k a v H'=none:=fun j k a v H' hk=>by
       simp only [ga,zH,hk,mJ]
      have hKl:K.shape l'=none:=by
       cases e:K.shape l' with
       |none=>rfl
       |some s=>have:=hKsh _ s e;omega
      refine SA hE (n:=n) (fun j hj=>hC j (by omega)) (N := { n:=N.n,rd:=some l',mks:=false }) hnt (K:=K1.pin w.heap.size W) (hk2.glob.trans hg) noPan y _ ay l [.c az,.dr .nilp] n _ _ H1 _ W hy hya rfl (Nat.le_refl n) hev (.refl _) hrel ?_;intro j K3 a3 H3 act3 W3 hj hk3 hr3 hev3;have hl3:=(hr3.inv.shape l' _ (hk3.shape _ _ hpl)).1;have hD3:=(hr3.inv.shape D _ (hk3.shape _ _ hpD)).1;refine ⟨hl3,hD3, ?_⟩
      have hb3:K3.base l':=bs (hk2.trans hk3) l' hl';have hk4:=PZ (hk2.trans hk3) (o:=.loop rb) hb3 hKl
      have hr4:Rel { n:=N.n,rd:=some l',mks:=false } (K3.refix l' (.loop rb)) a3 H3 act3 (W3.putObj l' (.loop rb)):=
       ⟨hr3.inv.refix (hk3.shape _ _ hpl) hb3 rfl,by rw [hr3.defers.bare rfl];exact .none fun _ _=>trivial,hr3.size,fun t=>(hr3.tmps t).turned (Cr (hk3.shape _ _ hpl))⟩
      have hw4:=IH j (by omega) (zH fn) H1 az [.dr .nilp] a3 H3 (.ret v,H2) hev3 { n:=N.n,rd:=some l',mks:=false } m nt z (fun e=>by cases e) hnt hz (K3.refix l' (.loop rb)) act3 _ (hk4.glob.trans hg) hr4;refine wpIn_mono hw4 ?_;rintro e act5 W5 ⟨K5,x,a5,H5,hk5,hxe,hr5,j5,hj5,hx5⟩;have hl5:=(hr5.inv.shape l' _ (hk5.shape _ _ (if_pos rfl))).1;have hD5:=(hr5.inv.shape D _ (hk5.shape _ _ ((if_neg hDl).trans (hk3.shape _ _ hpD)))).1
      have hk6:K.le K5:=hk4.trans hk5;have hk7:K.le (K5.dim w.heap.size):=Uu hk6 hKsh (bs hk6)
      have hkept:NH w.heap.size W W5:=fun b s p hb hs=>by
       have h1:=JA (K:=K1) hb hs rfl;have hne:b≠l':=fun e=>by subst e;rw [hWl] at hs;cases hs
       exact (hr5.inv.shape b _ (hk5.shape _ _ ((if_neg hne).trans (hk3.shape _ _ h1)))).1
      cases x with
      |normal=>
       cases e<;>first | exact (hxe:False).elim | skip
       have hx':ev dec E j5 (zH fn) H1 [.dr .nilp] a5 H5=some (.ret v,H2):=hx5;cases j5 with
       |zero=>cases hx'
       |succ j5=>
        simp only [ev,Option.some.injEq,Prod.mk.injEq,qh.ret.injEq] at hx';obtain ⟨rfl,rfl⟩:=hx';exact ⟨hl5,hD5,⟨_,_,hk7,hr5.inv.dim _,lowOf hk6 hno hr5.inv,hrnd⟩,hkept,_,_,hk7,hr5.inv.dim _,lowOf hk6 hno hr5.inv,hid⟩
      |exit id=>
       cases e<;>first | exact (hxe:False).elim | skip
       cases hxe;simp only [evX,unw,D3,kA,if_true,Option.some.injEq,Prod.mk.injEq,qh.ret.injEq] at hx5;obtain ⟨rfl,rfl⟩:=hx5;simp only [Int.toNat_natCast,Option.some.injEq] at hrnd;exact ⟨hl5,hD5,_,_,_,hk7,hr5.inv.dim _,lowOf hk6 hno hr5.inv,hrnd.symm,.inr ⟨id,rfl,rfl⟩⟩
      |ret=>
       cases e<;>first | exact (hxe:False).elim | skip
       simp only [evX,pr,zH,kA,Option.some.injEq,Prod.mk.injEq,qh.ret.injEq] at hx5;obtain ⟨rfl,rfl⟩:=hx5;simp only [Option.some.injEq] at hrnd;exact ⟨hl5,hD5,_,_,_,hk7,hr5.inv.dim _,lowOf hk6 hno hr5.inv,hrnd.symm,.inl ⟨rfl,rfl⟩⟩
      |panic v=>
       simp only [evX] at hx5;rw [noPan _ _ _ _ _ rfl] at hx5;cases hx5
      |goto l=>simp [evX,jmp] at hx5
     ·cases hrnd
    ·cases hrnd
   ·obtain ⟨K',H',h1,h2,h3,h4⟩:=hI
    rw [List.length_map,List.drop_length] at h4;cases h4;obtain ⟨K2,h5,h6⟩:=hRel hD h1 h2 h3 hW;exact ⟨K2,.normal,a,H',h5,trivial,h6,n,Nat.lt_succ_self n,hcont⟩
   ·obtain ⟨K',H',jc,h1,h2,h3,rfl,h4⟩:=hI
    obtain ⟨K2,h5,h6⟩:=hRel hD h1 h2 h3 hW
    have hcl:∀ c,cO E.P E.G m nt c=some jc.strip→fZ jc=true→c.wpIn Fence.wide 0 E.P (Ht N K (HD dec E (n+1) fn H0 k r)) { act with defers:=Oe D::act.defers } W:=fun c hc hn=>by
     have:=IH n (Nat.lt_succ_self n) fn H0 jc k a H' r hcont N m nt c (fun _=>.inr hn) hnt hc K2 _ W (h5.glob.trans hg) h6;rw [hF] at this;exact wpIn_mono this fun _ _ _ hl=>hl.mono h5 fun _ _ _ ⟨j,hj,h⟩=>⟨j,by omega,h⟩
    rcases h4 with ⟨rfl,rfl⟩ | ⟨id,rfl,rfl⟩
    ·exact hcl _ rfl rfl
    ·exact hcl _ rfl rfl
  ·cases h
 ·cases h
theorem ME{n:Nat}(hC:∀ j,j<n→vg dec E j)(hE:E.Ok)(IH:∀ j,j<n→Bh dec E j):Bh dec E n:=by
  intro fn H0 ac k a H r h N m nt c hN hnt hc;cases n with
  |zero=>cases h
  |succ n=>
   by_cases hlv:∃ ax l,ac = .seq ax (.lv l)
   ·obtain ⟨ax,l,rfl⟩:=hlv
    have hc':cO E.P E.G m nt c=some ax.strip:=by simpa [AC.strip] using hc
    have h1:ev dec E n fn H0 (.c ax :: .c (.lv l)::k) a H=some r:=h;refine P8 ((IH n (Nat.lt_succ_self n) fn H0 ax (.c (.lv l)::k) a H r h1 N m nt c (fun e=>(hN e).imp id fun h=>by simpa [fZ] using h) hnt hc')) fun e a' H' hp => ?_
    by_cases he:e = .normal
    ·subst he
     obtain ⟨j,hj,h2⟩:=hp;have h2':ev dec E j fn H0 (.c (.lv l)::k) a' H'=some r:=h2;cases j with
     |zero=>cases h2'
     |succ j=>exact ⟨pj a' l,fun K act w hr=>hr.keep l,j,by omega,h2'⟩
    ·exact ⟨a',fun K act w hr=>hr,uY (n':=n+1) (k':=k) (Nat.le_succ n) (fun x a H m hx=>P6 hx) he hp⟩
   by_cases hfz:∃ ax t l,ac = .seq ax (.fz t l)
   ·obtain ⟨ax,t,l,rfl⟩:=hfz
    have hc':cO E.P E.G m nt c=some ax.strip:=by simpa [AC.strip] using hc
    have h1:ev dec E n fn H0 (.c ax :: .c (.fz t l)::k) a H=some r:=h;refine Ux ((IH n (Nat.lt_succ_self n) fn H0 ax (.c (.fz t l)::k) a H r h1 N m nt c (fun e=>(hN e).imp id fun h=>by simpa [fZ] using h) hnt hc')) (fun a' H' hp => ?_) (fun x a' H' hx hp=>uY (n':=n+1) (k':=k) (Nat.le_succ n) (fun x a H m hx=>P6 hx) hx hp);obtain ⟨j,hj,h2⟩:=hp;have h2':ev dec E j fn H0 (.c (.fz t l)::k) a' H'=some r:=h2
    cases j with
    |zero=>cases h2'
    |succ j=>
     simp only [ev] at h2';split at h2'
     ·rename_i a2 H2 hf
      exact ⟨a2,H2,fun K act w hr=>NM hf hr,j,by omega,h2'⟩
     ·cases h2'
   have hseq:∀ x y,ac = .seq x y→ac.strip = .seq x.strip y.strip:=fun x y e=>by
    rw [e];exact C9 (fun l hl=>hlv ⟨x,l,by rw [e,hl]⟩) (fun t l hl=>hfz ⟨x,t,l,by rw [e,hl]⟩)
   cases c with
   |skip=>
    have:ac.strip = .skip:=by simpa [cO] using hc.symm
    cases ac<;>(try rw [hseq _ _ rfl] at this)<;>simp [AC.strip] at this
    exact Pz ⟨n,Nat.lt_succ_self n,h⟩
   |label l=>
    have:ac.strip = .lbl l:=by simpa [cO] using hc.symm
    cases ac<;>(try rw [hseq _ _ rfl] at this)<;>simp [AC.strip] at this
    exact Of ⟨n,Nat.lt_succ_self n,h⟩
   |goto l=>
    have:ac.strip = .goto l:=by simpa [cO] using hc.symm
    cases ac<;>(try rw [hseq _ _ rfl] at this)<;>simp [AC.strip] at this
    subst this;exact PB ⟨n,Nat.lt_succ_self n,h⟩
   |exit id=>
    have:ac.strip = .exit id:=by simpa [cO] using hc.symm
    cases ac<;>(try rw [hseq _ _ rfl] at this)<;>simp [AC.strip] at this
    subst this;exact PA ⟨n,Nat.lt_succ_self n,h⟩
   |refuse s=>
    have:ac.strip = .bad:=by simpa [cO] using hc.symm
    cases ac<;>(try rw [hseq _ _ rfl] at this)<;>simp [AC.strip] at this
    cases h
   |ret=>
    have:ac.strip = .ret:=by simpa [cO] using hc.symm
    cases ac<;>(try rw [hseq _ _ rfl] at this)<;>simp [AC.strip] at this
    exact Si ⟨n,Nat.lt_succ_self n,h⟩
   |seq x y=>
    simp only [cO] at hc;split at hc
    ·rename_i x' hx
     split at hc
     ·rename_i y' hy
      simp only [Option.some.injEq] at hc;cases ac<;>(try rw [hseq _ _ rfl] at hc)<;>simp [AC.strip] at hc
      rename_i ax ay;obtain ⟨rfl,rfl⟩:=hc;have h1:ev dec E n fn H0 (.c ax :: .c ay::k) a H=some r:=h;refine Sj ((IH n (Nat.lt_succ_self n) fn H0 ax (.c ay::k) a H r h1 N m nt x (fun e=>(hN e).imp id fun h=>(P9 h).1) hnt hx).mono fun e a' H' hp => ?_)
      by_cases he:e = .normal
      ·subst he
       obtain ⟨j,hj,h2⟩:=hp;exact (IH j (by omega) fn H0 ay k a' H' r h2 N m nt y (fun e=>(hN e).imp id fun h=>(P9 h).2) hnt hy).mono fun e2 a2 H2 ⟨j2,hj2,h3⟩=>⟨j2,by omega,h3⟩
      ·have:=uY (n':=n+1) (k':=k) (Nat.le_succ n) (fun x a H m hx=>P6 hx) he hp
       cases e<;>first | exact absurd rfl he | exact this
     ·cases hc
    ·cases hc
   |cond cx x y=>
    simp only [cO] at hc;split at hc
    ·rename_i x' hx
     split at hc
     ·rename_i y' hy
      simp only [Option.some.injEq] at hc;cases ac<;>(try rw [hseq _ _ rfl] at hc)<;>simp [AC.strip] at hc
      rename_i ax ay;obtain ⟨rfl,rfl,rfl⟩:=hc;simp only [ev] at h;split at h
      ·rename_i b hb
       rw [KC] at hb;refine PC hb ?_;split at h
       ·rename_i e
        rw [if_pos e];exact (IH n (Nat.lt_succ_self n) fn H0 _ k a H r h N m nt x (fun e=>(hN e).imp id fun h=>(NN h).1) hnt hx).mono fun e2 a2 H2 ⟨j2,hj2,h3⟩=>⟨j2,by omega,h3⟩
       ·rename_i e
        rw [if_neg e];exact (IH n (Nat.lt_succ_self n) fn H0 _ k a H r h N m nt y (fun e=>(hN e).imp id fun h=>(NN h).2) hnt hy).mono fun e2 a2 H2 ⟨j2,hj2,h3⟩=>⟨j2,by omega,h3⟩
      ·cases h
     ·cases hc
    ·cases hc
   |block id x=>
    simp only [cO] at hc;split at hc
    ·rename_i x' hx
     simp only [Option.some.injEq] at hc;cases ac<;>(try rw [hseq _ _ rfl] at hc)<;>simp [AC.strip] at hc
     rename_i ax;obtain ⟨rfl,rfl⟩:=hc;have h1:ev dec E n fn H0 (.c ax :: .blk id::k) a H=some r:=h;refine Og ((IH n (Nat.lt_succ_self n) fn H0 ax (.blk id::k) a H r h1 N m nt x (fun e=>(hN e).imp (fun h=>h) fun h=>h) hnt hx).mono fun e a' H' hp => ?_);obtain ⟨j,hj,h2⟩:=hp;cases e with
     |normal=>
      have h2':ev dec E j fn H0 (.blk id::k) a' H'=some r:=h2;cases j with
      |zero=>cases h2'
      |succ j=>exact ⟨j,by omega,h2'⟩
     |exit id'=>
      simp only [evX,unw] at h2;show if id'=id then _ else _
      by_cases e:id'=id
      ·rw [if_pos e]
       rw [if_pos e.symm] at h2;exact ⟨j,by omega,h2⟩
      ·rw [if_neg e]
       rw [if_neg (fun h=>e h.symm)] at h2;exact ⟨j,by omega,h2⟩
     |ret=>exact ⟨j,by omega,h2⟩
     |panic v=>exact ⟨j,by omega,h2⟩
     |goto l=>exact ⟨j,by omega,h2⟩
    ·cases hc
   |loop x=>
    simp only [cO] at hc;split at hc
    ·rename_i x' hx
     simp only [Option.some.injEq] at hc;cases ac<;>(try rw [hseq _ _ rfl] at hc)<;>simp [AC.strip] at hc
     rename_i lh ax;subst hc;have h1:ev dec E n fn H0 (.c ax :: .lp lh ax (po lh a H).2::k) (po lh a H).1 (po lh a H).2=some r:=h;refine Sy (a':=(po lh a H).1) (H':=(po lh a H).2) (fun K act w hr=>Jz lh hr) ?_;refine Jy (fun j a H=>j≤n∧ev dec E j fn H0 (.c ax :: .lp lh ax H::k) a H=some r) n ⟨Nat.le_refl n,h1⟩ ?_;rintro j a1 H1 ⟨hj,h2⟩;refine (IH j (by omega) fn H0 ax (.lp lh ax H1::k) a1 H1 r h2 N m nt x (fun e=>(hN e).imp id fun h=>h) hnt hx).mono fun e a' H' hp => ?_
     by_cases he:e = .normal
     ·subst he
      obtain ⟨j2,hj2,h3⟩:=hp;have h3':ev dec E j2 fn H0 (.lp lh ax H1::k) a' H'=some r:=h3;cases j2 with
      |zero=>cases h3'
      |succ j2=>
       simp only [ev] at h3';split at h3'
       ·rename_i a2 H2 hb
        exact ⟨j2,a2,H2,by omega,⟨by omega,h3'⟩,FQ hb⟩
       ·cases h3'
     ·have:=uY (n':=n+1) (k':=k) (by omega) (fun x a H m hx=>Uw hx) he hp
      cases e<;>first | exact absurd rfl he | exact this
    ·cases hc
   |region id ops draw=>
    simp only [cO] at hc;split at hc
    ·rename_i ros hros
     cases draw with
     |false=>
      simp only [Bool.false_eq_true,if_false,Option.some.injEq] at hc;cases ac<;>(try rw [hseq _ _ rfl] at hc)<;>simp [AC.strip] at hc
      subst hc;intro K act w hg hr;exact wpIn_region (Sz hE (n:=n+1) hC hnt hg ops.toList ros (List.range ops.size) (n+1) K a H act w (Nat.le_refl _) h hros (If ops) (.refl K) hr)
     |true=>
      simp only [if_true] at hc;obtain ⟨q,sc,s,cl,ord,hq,hu,hlen,hlex,hac,hok⟩:=C8 hc
      have hac2:ac = .dops s [] [] (ord.map fun k=>(ros.getD k default,cl k)):=by
       cases ac<;>(try rw [hseq _ _ rfl] at hac)<;>simp [AC.strip] at hac
       obtain ⟨rfl,rfl,rfl,rfl⟩:=hac;rfl
      subst hac2;obtain ⟨Tf,Lf,_,_,_,_,h5⟩:=zL hE (n:=n+1) hC hnt hros hok.base hok.piv hok.trk hok.scs ord [] [] (n+1) a H hok.stp (NK hlex) (Nat.le_refl _) h;exact Ou cl (VU hnt hq hros hu hok.base) (KpT Tf) ord KpT.trans hE.mixed hlen hlex (h5 (.inl rfl))
    ·cases hc
   |scope x=>
    simp only [cO] at hc;split at hc
    ·rename_i x' hx
     simp only [Option.some.injEq] at hc;cases ac<;>(try rw [hseq _ _ rfl] at hc)<;>simp [AC.strip] at hc
     rename_i ax t;obtain ⟨rfl,ht⟩:=hc;have h1:ev dec E n fn H0 (.c ax :: .sc t::k) a H=some r:=h;have hNx:fn.dfr=none→(N.rd=none∧N.mks=true)∨fZ ax=true:=fun e=>(hN e).imp id fun h=>by simp [fZ] at h;exact h.1
     have hNt:∀ l r',sX t l=some r'→fn.dfr=none→(N.rd=none∧N.mks=true)∨fZ r'=true:=fun l r' hf e=>(hN e).imp id fun h=>by
      simp only [fZ,Bool.and_eq_true] at h;exact KR t l r' hf h.2
     have post:∀ (j:Nat) (e:iv) (a':Env) (H':List AObj),j≤n→HD dec E j fn H0 (.sc t::k) r e a' H'→match e with
       |.goto l => ∃ m',m'<j∧∃ r',sX t l=some r'∧ev dec E m' fn H0 (.c r' :: .sc t::k) a' H'=some r
       |e=>HD dec E (n+1) fn H0 k r e a' H':=fun j e a' H' hj hp=>by
      obtain ⟨j2,hj2,h2⟩:=hp;cases e with
      |normal=>
       have h2':ev dec E j2 fn H0 (.sc t::k) a' H'=some r:=h2;cases j2 with
       |zero=>cases h2'
       |succ j2=>exact ⟨j2,by omega,h2'⟩
      |goto l=>
       simp only [evX,jmp] at h2;split at h2
       ·rename_i k' hk'
        split at hk'
        ·rename_i r' hr'
         cases hk';exact ⟨j2,hj2,r',hr',h2⟩
        ·cases hk'
       ·cases h2
      |exit id=>exact ⟨j2,by omega,h2⟩
      |ret=>exact ⟨j2,by omega,h2⟩
      |panic v=>exact ⟨j2,by omega,h2⟩
     refine Oh (fun j l a H=>j≤n∧∃ r',sX t l=some r'∧ev dec E j fn H0 (.c r' :: .sc t::k) a H=some r) n ?_ ?_
     ·refine (IH n (Nat.lt_succ_self n) fn H0 ax (.sc t::k) a H r h1 N m nt x hNx hnt hx).mono fun e a' H' hp => ?_
      have:=post n e a' H' (Nat.le_refl n) hp;cases e<;>first | exact this | (obtain ⟨m',h2,h3⟩:=this;exact ⟨m',by omega,by omega,h3⟩)
     ·rintro j l a1 H1 ⟨hj,r',hf,h2⟩
      obtain ⟨rest,e1,e2⟩:=(Bv x _ hx l).2 _ (FY (Js ax.strip).eraseDups l _ (by rw [ht];exact findT_strip t l r' hf));refine ⟨rest,e1,(IH j (by omega) fn H0 r' (.sc t::k) a1 H1 r h2 N m nt rest (hNt l r' hf) hnt e2).mono fun e a' H' hp => ?_⟩;have:=post j e a' H' hj hp;cases e<;>first | exact this | (obtain ⟨m',h2,h3⟩:=this;exact ⟨m',h2,by omega,h3⟩)
    ·cases hc
   |rangeFunc g ps y z=>
    simp only [cO] at hc;split at hc
    ·rename_i y' hy
     split at hc
     ·rename_i l' z' hya hz
      split at hc
      ·rename_i hps
       simp only [Option.some.injEq] at hc;cases ac<;>(try rw [hseq _ _ rfl] at hc)<;>simp [AC.strip] at hc
       rename_i gx ps' ay az;obtain ⟨rfl,rfl,rfl,rfl⟩:=hc;exact Ox hC hE IH h hN hnt hy hya hz hps
      ·cases hc
     ·cases hc
    ·cases hc
end
def KT:List Code→Code→Code
 |[],R=>R
 |A::l,R=>.seq A (KT l R)
theorem Qb{c:Code}{id:Nat}{ops:Array Oper}{os:List Oper}{o:Oper}(h:Up c=some (id,ops,os,o)):c = .region id ops false∧ops.toList=os++[o]:=by
 unfold Up at h;split at h
 ·split at h
  ·rename_i o' os' hrev
   split at h
   ·simp only [Option.some.injEq,Prod.mk.injEq] at h
    obtain ⟨rfl,rfl,rfl,rfl⟩:=h;refine ⟨rfl, ?_⟩;have:=congrArg List.reverse hrev;simpa using this
   ·cases h
  ·cases h
 ·cases h
theorem MF:∀ {c:Code}{l:List Code}{B:Code}{id:Nat}{ops:Array Oper}{os:List Oper}{o:Oper},Ju c=some (l,id,ops,os,o,B)→c=KT l (.seq (.region id ops false) B)∧ops.toList=os++[o]:=by
 intro c;induction c with
 |seq A c _ ih=>
  intro l B id ops os o h;unfold Ju at h;split at h
  ·rename_i hd
   simp only [Option.some.injEq,Prod.mk.injEq] at h;obtain ⟨rfl,rfl,rfl,rfl,rfl,rfl⟩:=h;obtain ⟨rfl,h2⟩:=Qb hd;exact ⟨rfl,h2⟩
  ·split at h
   ·rename_i l2 x hs
    simp only [Option.some.injEq,Prod.mk.injEq] at h;obtain ⟨rfl,rfl⟩:=h;obtain ⟨e1,e2⟩:=ih hs;exact ⟨by rw [e1];rfl,e2⟩
   ·cases h
 |_=>intro l B id ops os o h;cases h
section
variable{dec:Dec}{E:bc}
theorem Oy{P:Program}{G:Nat→Option (List AV)}{m:Nat→Bool}{n:Nat}{A:List Code}{B:Code}{id:Nat}{ops:Array Oper}{os:List Oper}{o:Oper}{a b:AC}{l:List RO}{x:RX}
  (h:PQ P G m n (A,id,ops,os,o,B)=some (a,l,x,b)):∃ c f,o.op = .defer c∧c.callee = .value f∧o.guard=none∧o.dst=none∧c.args = #[]∧compL P G m n A=some a∧Cj P G (m id) n ops os=some l∧cO P G m n B=some b∧x=cx0 G f:=by
 unfold PQ at h;simp only at h;split at h
 ·rename_i c hop
  split at h
  ·rename_i f hcal
   split at h
   ·rename_i hc
    simp only [Bool.and_eq_true,Option.isNone_iff_eq_none,Array.isEmpty_iff] at hc;split at h
    ·rename_i a' l' b' e1 e2 e3
     simp only [Option.some.injEq,Prod.mk.injEq] at h;obtain ⟨rfl,rfl,rfl,rfl⟩:=h;exact ⟨c,f,hop,hcal,hc.1.1,hc.1.2,hc.2,e1,e2,e3,rfl⟩
    ·cases h
   ·cases h
  ·cases h
 ·cases h
theorem KU(hE:E.Ok){n:Nat}(hCl:Bh dec E n){g:FuncId}{args:List AV}{d:Nat}{fn':AFn}(hd:E.dfn g=some (d,fn')){p:AV}{H H':List AObj}{r:AV}
  (h:ev dec E n fn' H [.c fn'.c] (D0 (mE (env args) d p) p fn'.muts) H=some (.ret r,H')) {K:ak}{w:World}{cargs:Array Value} (hg:K.glob=E.G) (hi:Inv K H w) (hv:Vs K args cargs) {u u':FrameMode}{pv:Value} (hp:V K p pv)
  (hrec:∀ (c₀:Frame) (cs:List Frame),c₀.mode=u→(recoverD (c₀::cs)=some (pv,{ c₀ with mode:=u' }::cs))∨(recoverD (c₀::cs)=none∧pv = .nilIface∧c₀::cs = { c₀ with mode:=u' }::cs)) :
  CallsD E.P g cargs u w fun e u2 w2 => ∃ v,e = .returned v∧u2=u'∧∃ K2,K.le K2∧Inv K2 H' w2:=by
 obtain ⟨hcomp,hdf⟩:=hE.dfn g d fn' hd;unfold Io at hcomp;split at hcomp
 ·cases hcomp
 ·rename_i fnc hf
  split at hcomp
  ·cases hcomp
  ·split at hcomp
   ·rename_i id ops B hb
    split at hcomp
    ·rename_i o os hops
     split at hcomp
     ·rename_i c d' hop hdst
      split at hcomp
      ·rename_i hcal
       split at hcomp
       ·rename_i hcond
        simp only [Bool.and_eq_true,Option.isNone_iff_eq_none,decide_eq_true_eq] at hcond;split at hcomp
        ·rename_i b rs ms hB hrs hms
         split at hcomp
         case isFalse=>cases hcomp
         rename_i hnr;simp only [Option.some.injEq,Prod.mk.injEq] at hcomp;obtain ⟨rfl,rfl,h2,h3,h4⟩:=hcomp;rw [← h4] at h;have hw:=hCl fn' H fn'.c [] _ H (.ret r,H') h { n:=args.length+(fnc.ntmps-args.length),free:=fun b=>K.shape b=none,mks:=false } _ fnc.ntmps B (fun _=>.inr (by rw [← Qa];exact hnr)) (show fnc.ntmps≤args.length+(fnc.ntmps-args.length) from by omega) hB;refine callsD_of_wpS hf hb fun c₀ cs hm=>wpS_seq (wpS_region ?_)
         have ho:ops[0]?=some o:=by rw [← Array.getElem?_toList,hops];rfl
         have hrun:∀ (act:Act),(execOp act.eval o).run E.P w = .ok .recover w:=fun act=>by
          unfold execOp;simp only [hop,resolve,hcal,pure_bind,invoke];rfl
         have run:∀ act,Rel { n:=args.length+(fnc.ntmps-args.length),free:=fun b=>K.shape b=none,mks:=false } K (D0 (mE (env args) d' p) p ms) H act w→∀ cs',cs' = { c₀ with mode:=u' }::cs→B.wpS E.P (bodyPostS E.P fnc c₀ cs fun e u2 w2 => ∃ v,e = .returned v∧u2=u'∧∃ K2,K.le K2∧Inv K2 H' w2) act cs' w:=by
          rintro act hra cs' rfl;refine wpS_of_wp ((wpIn_wide (n:=0)).1 (wpIn_mono (hw K act w hg hra) ?_));rintro e act w' ⟨K',x,a',H2,hk,he,hr,m,hm2,hx⟩;cases x with
          |normal=>
           cases e<;>first | exact (he:False).elim | skip
           have hx':ev dec E m fn' H [] a' H2=some (.ret r,H'):=hx;cases m with
           |zero=>cases hx'
           |succ m=>
            simp only [ev,hdf] at hx';obtain ⟨cv,h5,K2,r2,H3,h6,h7,h8,h9,h10⟩:=vZ h3 hrs hi hk hr hx';subst h10;exact ⟨hr.defers.bare rfl,u',rfl,cv,h5,cv,rfl,rfl,K2,h6,h8⟩
          |ret=>
           cases e<;>first | exact (he:False).elim | skip
           simp only [evX,pr,hdf] at hx;obtain ⟨cv,h5,K2,r2,H3,h6,h7,h8,h9,h10⟩:=vZ h3 hrs hi hk hr hx;subst h10;exact ⟨hr.defers.bare rfl,u',rfl,cv,h5,cv,rfl,rfl,K2,h6,h8⟩
          |panic v=>
           simp only [evX,ga,hdf] at hx;unfold Cn at hx;split at hx<;>cases hx
          |exit id=>simp [evX,unw,D3,kA] at hx
          |goto l=>simp [evX,jmp] at hx
         have h0:Rel { n:=args.length+(fnc.ntmps-args.length),free:=fun b=>K.shape b=none,mks:=false } K (env args) H { tmps:=cargs++Array.replicate (fnc.ntmps-cargs.size) undef,defers:=[] } w:=
          ⟨hi,.none fun _ h=>h,by simp [← hv.size],fun t=>C2 hv _ t⟩
         have h1:Rel { n:=args.length+(fnc.ntmps-args.length),free:=fun b=>K.shape b=none,mks:=false } K (mE (env args) d' p) H (({ tmps:=cargs++Array.replicate (fnc.ntmps-cargs.size) undef,defers:=[] }:Act).put o.dst pv) w:=by
          rw [hdst];exact h0.put (.refl K) hi (dst:=some d') hp (fun d e=>by cases e;exact Nat.lt_of_lt_of_le hcond.2 (show fnc.ntmps≤args.length+(fnc.ntmps-args.length) from by omega))
         cases os with
         |nil=>
          cases hms;have hsz:ops.size=1:=by rw [← Array.length_toList,hops];rfl
          rw [hsz,show List.range 1=[0] from rfl];simp only [wpOpsS,ho,Region.wanted,hcond.1,if_true,hrun];rcases hrec c₀ cs hm with h1' | ⟨h1',h2',h3'⟩
          ·rw [h1']
           exact run _ h1 _ rfl
          ·rw [h1']
           subst h2';exact run _ h1 _ h3'
         |cons o2 os=>
          cases os with
          |cons=>cases hms
          |nil=>
           unfold TW at hms;simp only at hms;split at hms
           ·rename_i x2 e2 hx2 he2
            split at hms
            ·rename_i hc2
             cases hms;simp only [Bool.and_eq_true,Option.isNone_iff_eq_none,decide_eq_true_eq] at hc2;obtain ⟨⟨hg2,hlt2⟩,hxt⟩:=hc2
             have hxt2:cx0 E.G x2 = .t d':=by
              cases hcx:cx0 E.G x2 with
              |t t=>rw [hcx] at hxt;rw [Nat.eq_of_beq_eq_true hxt]
              |c v=>rw [hcx] at hxt;cases hxt
             have hsz:ops.size=2:=by rw [← Array.length_toList,hops];rfl
             have ho2:ops[1]?=some o2:=by rw [← Array.getElem?_toList,hops];rfl
             have hrun2:∀ (act:Act),(execOp act.eval o2).run E.P w = .ok (.value (act.eval x2)) w:=fun act=>by
              unfold TV at hx2;split at hx2
              ·rename_i e;cases hx2;unfold execOp;simp only [e];rfl
              ·rename_i e;cases hx2;unfold execOp;simp only [e];rfl
              ·cases hx2
             have fin2:∀ cs',cs' = { c₀ with mode:=u' }::cs→B.wpS E.P (bodyPostS E.P fnc c₀ cs fun e u2 w2 => ∃ v,e = .returned v∧u2=u'∧∃ K2,K.le K2∧Inv K2 H' w2) ((({ tmps:=cargs++Array.replicate (fnc.ntmps-cargs.size) undef,defers:=[] }:Act).put o.dst pv).put o2.dst ((({ tmps:=cargs++Array.replicate (fnc.ntmps-cargs.size) undef,defers:=[] }:Act).put o.dst pv).eval x2)) cs' w:=by
              refine run _ ?_;have hvx:=jX hg h1 x2;rw [hxt2] at hvx;have hvp:rx (mE (env args) d' p) (.t d')=p:=by simp [rx,jV]
              rw [hvp] at hvx;rw [he2];exact h1.put (.refl K) hi (dst:=some e2) hvx (fun d e=>by cases e;exact Nat.lt_of_lt_of_le hlt2 (show fnc.ntmps≤args.length+(fnc.ntmps-args.length) from by omega))
             rw [hsz,show List.range 2=[0,1] from rfl];simp only [wpOpsS,ho,ho2,Region.wanted,hcond.1,hg2,if_true,hrun,hrun2,Oper.upon];rcases hrec c₀ cs hm with h1' | ⟨h1',h2',h3'⟩
             ·rw [h1']
              exact fin2 _ rfl
             ·rw [h1']
              subst h2';exact fin2 _ h3'
            ·cases hms
           ·cases hms
        ·cases hcomp
       ·cases hcomp
      ·cases hcomp
     ·cases hcomp
    ·cases hcomp
   ·cases hcomp
end
section
variable{dec:Dec}{E:bc}
theorem KV{P:Program}{G:Nat→Option (List AV)}{g:FuncId}{x:Nat×AC×Nat×List uy×List Nat}(h:Io P G g=some x)(args:Array Value)(w:World):(callFunc g args).run P w = .ok (.enter g args) w:=by
 unfold Io at h;split at h
 ·cases h
 ·rename_i fn hf
  split at h
  ·cases h
  ·rename_i hn
   split at h
   ·rename_i hb
    exact pw hf (by simpa using hn) (by rw [hb];rfl) args w
   ·cases h
theorem D7(hE:E.Ok){n:Nat}(hCl:Bh dec E n){fn':AFn}{fnc:Func}{rs:List uy}(h3:rs=fn'.res)(hrs:yG E.P fnc.results.toList=some rs){N:Fr}{K K':ak}{H H2 H3:List AObj}{w w':World}{a':Env}{act:Act}{r:qh}{H':List AObj}
  (hi:Inv K H w) (hk:K.le K') (hr:Rel N K' a' H2 act w') {v p:AV} (hcall:mJ E (ev dec E n) v p H2=some H3) (hf:fin dec fn' H a' H3=some (r,H')) (hg:K.glob=E.G) {g2:FuncId}{vs us:Array Value} (hv:V K' v (.func (.func g2) vs us)) {pv:Value} (hp:V K' p pv) {u u':FrameMode}
  (hu:u≠.run) (hrec:∀ (c₀:Frame) (cs:List Frame),c₀.mode=u→(recoverD (c₀::cs)=some (pv,{ c₀ with mode:=u' }::cs))∨(recoverD (c₀::cs)=none∧pv = .nilIface∧c₀::cs = { c₀ with mode:=u' }::cs)) (hs:settle u' = .returning) :
  Leaves E.P fnc act.tmps (A8 K fun r2 H2=>r2=r∧H2=H') [{ target:=.fn (.func g2) us,args:=vs }] u w':=by
 unfold mJ at hcall;split at hcall
 ·rename_i g first cap
  split at hcall
  ·rename_i d fd hd
   split at hcall
   ·rename_i rv H4 hev
    cases hcall;obtain ⟨vs',us',hve,h1,h2⟩:=hv.fn_inv;cases hve;obtain ⟨hcomp,hdf⟩:=hE.dfn _ d fd hd;have hargs:=h1.append h2;refine leaves_cons hu (f:=g2) (args:=vs++us) ?_ ?_
    ·have:=KV hcomp (vs++us) w'
     exact this
    ·refine (KU hE hCl hd hev (hk.glob.trans hg) hr.inv hargs hp hrec).mono ?_
     rintro e u2 w2 ⟨v2,rfl,rfl,K2,hk2,hi2⟩;simp only [hs];have hr2:Rel N K2 a' _ act w2:=⟨hi2,hr.defers.mono hk2,hr.size,fun t=>(hr.tmps t).mono hk2⟩
     obtain ⟨cv,h5,h6⟩:=vZ h3 hrs hi (hk.trans hk2) hr2 hf;exact ⟨cv,h5,h6⟩
   ·cases hcall
  ·cases hcall
 ·cases hcall
def F0(dec:Dec)(E:bc)(n:Nat)(fn':AFn)(H0:List AObj)(r:Out)(N:Fr)(m:Nat→Bool)(nt:Nat)(K:ak)(R:Code)(Q:Exit→Act→World→Prop)(As:List Code)(c:AC):Prop:=
 ∀ (kk:List Fra),(∀ id,unw id kk=none)→kA kk=none→(∀ l,jmp l kk=none)→compL E.P E.G m nt As=some c.strip→∀ (j:Nat),j≤n→∀ (K':ak) (a:Env) (H:List AObj) (act:Act) (w:World),ev dec E j fn' H0 (.c c::kk) a H=some r→K.le K'→Rel N K' a H act w →
  (∀ (j:Nat),j≤n→∀ (K':ak) (act:Act) (w:World) (a:Env) (H:List AObj),K.le K'→Rel N K' a H act w→ev dec E j fn' H0 kk a H=some r→R.wpIn N.F 0 E.P Q act w) →
  (∀ (K':ak) (act:Act) (w:World) (a:Env) (H:List AObj),K.le K'→Rel N K' a H act w→fin dec fn' H0 a H=some r→Q .ret act w)→(KT As R).wpIn N.F 0 E.P Q act w
theorem KW{n:Nat}{fn':AFn}{H0:List AObj}{r:Out}{N:Fr}{m:Nat→Bool}{nt:Nat}{K:ak}{R:Code}{Q:Exit→Act→World→Prop}{As:List Code}{c:AC}(h:F0 dec E n fn' H0 r N m nt K R Q As c)(l:List Nat):F0 dec E n fn' H0 r N m nt K R Q As (.seq c (.lv l)):=by
 intro kk hu hdr hj hA j hjn K' a H act w hev hk hr hcont hret;cases j with
 |zero=>cases hev
 |succ j=>
  simp only [ev] at hev;refine h (.c (.lv l)::kk) (fun id=>by simp [unw,hu]) (by simp [kA,hdr]) (fun l=>by simp [jmp,hj]) hA j (by omega) K' a H act w hev hk hr (fun j2 hj2 K2 act2 w2 a2 H2 hk2 hr2 hx2 => ?_) hret;cases j2 with
  |zero=>cases hx2
  |succ j2=>
   simp only [ev] at hx2;exact hcont j2 (by omega) K2 act2 w2 _ H2 hk2 (hr2.keep l) hx2
theorem KX{n:Nat}{fn':AFn}{H0:List AObj}{r:Out}{N:Fr}{m:Nat→Bool}{nt:Nat}{K:ak}{R:Code}{Q:Exit→Act→World→Prop}{As:List Code}{c:AC}(h:F0 dec E n fn' H0 r N m nt K R Q As c)(t:Nat)(l:List Nat):F0 dec E n fn' H0 r N m nt K R Q As (.seq c (.fz t l)):=by
 intro kk hu hdr hj hA j hjn K' a H act w hev hk hr hcont hret;cases j with
 |zero=>cases hev
 |succ j=>
  simp only [ev] at hev;refine h (.c (.fz t l)::kk) (fun id=>by simp [unw,hu]) (by simp [kA,hdr]) (fun l=>by simp [jmp,hj]) hA j (by omega) K' a H act w hev hk hr (fun j2 hj2 K2 act2 w2 a2 H2 hk2 hr2 hx2 => ?_) hret;cases j2 with
  |zero=>cases hx2
  |succ j2=>
   simp only [ev] at hx2;split at hx2
   ·rename_i a3 H3 hf
    obtain ⟨K3,g1,g2⟩:=NM hf hr2;exact hcont j2 (by omega) K3 act2 w2 a3 H3 (hk2.trans g1) g2 hx2
   ·cases hx2
theorem Oz{n:Nat}(hc:∀ j,j≤n→Bh dec E j){fn':AFn}{H0:List AObj}{r:Out}(hdn:fn'.dfr≠none){N:Fr}{m:Nat→Bool}{nt:Nat}(hnt:nt≤N.n){K:ak}(hg:K.glob=E.G){R:Code}{Q:Exit→Act→World→Prop} :
  ∀ (As:List Code) (c:AC),F0 dec E n fn' H0 r N m nt K R Q As c:=by
 have one:∀ (A:Code) (c:AC) (k2:List Fra) (R2:Code),(∀ id,unw id k2=none)→kA k2=none→(∀ l,jmp l k2=none)→cO E.P E.G m nt A=some c.strip→∀ (j:Nat),j≤n→∀ (K':ak) (a:Env) (H:List AObj) (act:Act) (w:World),ev dec E j fn' H0 (.c c::k2) a H=some r→K.le K'→Rel N K' a H act w →
  (∀ (j:Nat),j≤n→∀ (K':ak) (act:Act) (w:World) (a:Env) (H:List AObj),K.le K'→Rel N K' a H act w→ev dec E j fn' H0 k2 a H=some r→R2.wpIn N.F 0 E.P Q act w) →
  (∀ (K':ak) (act:Act) (w:World) (a:Env) (H:List AObj),K.le K'→Rel N K' a H act w→fin dec fn' H0 a H=some r→Q .ret act w)→(Code.seq A R2).wpIn N.F 0 E.P Q act w:=by
  intro A c k2 R2 hu hdr hj hA j hjn K' a H act w h hk hr hcont hret;refine wpIn_seq (wpIn_mono (hc j hjn fn' H0 c k2 a H r h N m nt A (fun e=>absurd e hdn) hnt hA K' act w (hk.glob.trans hg) hr) ?_);rintro e act2 w2 ⟨K2,xe,a2,H2,hk2,he,hr2,m2,hm2,hx⟩;obtain ⟨d,hd⟩:=Option.ne_none_iff_exists'.1 hdn;cases xe with
  |normal=>
   cases e<;>first | exact (he:False).elim | skip
   exact hcont m2 (by omega) K2 act2 w2 a2 H2 (hk.trans hk2) hr2 hx
  |ret=>
   cases e<;>first | exact (he:False).elim | skip
   simp only [evX,pr,hd,hdr] at hx;exact hret K2 act2 w2 a2 H2 (hk.trans hk2) hr2 hx
  |panic v=>simp [evX,ga,hd,hdr] at hx
  |exit id=>simp [evX,hu,D3,hdr] at hx
  |goto l=>simp [evX,hj] at hx
 intro As;induction As with
 |nil=>
  intro c;induction c with
  |seq x y ih _=>
   by_cases hlv:∃ l,y = .lv l
   ·obtain ⟨l,rfl⟩:=hlv
    exact KW ih l
   ·by_cases hfz:∃ t l,y = .fz t l
    ·obtain ⟨t,l,rfl⟩:=hfz
     exact KX ih t l
    ·intro kk _ _ _ hA
     rw [C9 (fun l hl=>hlv ⟨l,hl⟩) (fun t l hl=>hfz ⟨t,l,hl⟩)] at hA;cases hA
  |skip=>
   intro kk hu hdr hj hA j hjn K' a H act w h hk hr hcont hret;cases j with
   |zero=>cases h
   |succ j=>
    simp only [ev] at h;exact hcont j (by omega) K' act w a H hk hr h
  |_=>intro kk _ _ _ hA;simp [compL,AC.strip] at hA
 |cons A l ih=>
  cases l with
  |nil=>intro c kk hu hdr hj hA j hjn K' a H act w h hk hr hcont hret;exact one A c kk R hu hdr hj hA j hjn K' a H act w h hk hr hcont hret
  |cons A2 l=>
   intro c
   have hcL:∀ c:AC,compL E.P E.G m nt (A::A2::l)=some c→∃ a b,c = .seq a b∧cO E.P E.G m nt A=some a∧compL E.P E.G m nt (A2::l)=some b:=fun c h=>by
    rw [compL] at h;split at h
    ·rename_i a1 b1 e1 e2
     cases h;exact ⟨_,_,rfl,e1,e2⟩
    ·cases h
   induction c with
   |seq x y ihx _=>
    by_cases hlv:∃ l,y = .lv l
    ·obtain ⟨l,rfl⟩:=hlv
     exact KW ihx l
    ·by_cases hfz:∃ t l,y = .fz t l
     ·obtain ⟨t,l,rfl⟩:=hfz
      exact KX ihx t l
     ·intro kk hu hdr hj hA j hjn K' a H act w h hk hr hcont hret
      rw [C9 (fun l hl=>hlv ⟨l,hl⟩) (fun t l hl=>hfz ⟨t,l,hl⟩)] at hA;obtain ⟨a1,b1,e0,e1,e2⟩:=hcL _ hA;cases e0;cases j with
      |zero=>cases h
      |succ j=>
       simp only [ev] at h;exact one A x (.c y::kk) (KT (A2::l) R) (fun id=>by simp [unw,hu]) (by simp [kA,hdr]) (fun l=>by simp [jmp,hj]) e1 j (by omega) K' a H act w h hk hr (fun j2 hj2 K2 act2 w2 a2 H2 hk2 hr2 hx2=>ih y kk hu hdr hj e2 j2 hj2 K2 a2 H2 act2 w2 hx2 hk2 hr2 hcont hret) hret
   |_=>intro kk _ _ _ hA;obtain ⟨_,_,e0,_⟩:=hcL _ hA;simp [AC.strip] at e0
theorem Qd(hE:E.Ok){n:Nat}(hC:∀ j,j<n→vg dec E j)(hc:∀ j,j≤n→Bh dec E j){g:FuncId}{fn':AFn}{fnc:Func}{rs:List uy}{args:List AV}{H:List AObj}{r:qh}{H':List AObj}
  {l:List RO}{x:RX}{aB:AC} (hdf:fn'.dfr=some (l,x,aB)) (hf:E.P.funcs[g]?=some fnc)
  (hname:(fnc.name == "runtime.NumGoroutine")=false) {As:List Code}{B:Code}{id:Nat}{ops:Array Oper}{os:List Oper}{o:Oper} (hb:fnc.body=some (KT As (.seq (.region id ops false) B))) (hops:ops.toList=os++[o])
  (h3:rs=fn'.res) (hrs:yG E.P fnc.results.toList=some rs) (hA:compL E.P E.G (fn'.muts.contains ·) fnc.ntmps As=some fn'.c.strip) (hB:cO E.P E.G (fn'.muts.contains ·) fnc.ntmps B=some aB.strip)
  (hros:Cj E.P E.G (fn'.muts.contains id) fnc.ntmps ops os=some l) {c:Call}{f:Operand} (hop:o.op = .defer c) (hcal:c.callee = .value f) (hgd:o.guard=none) (hdst:o.dst=none) (hca:c.args = #[]) (hx:x=cx0 E.G f)
  (h:ev dec E n fn' H [.c fn'.c,.c (.ops l),.df x aB] (env args) H=some (r,H')):cT E.P E.G g args H fun r2 H2=>r2=r∧H2=H':=by
 have hnt:fnc.ntmps≤args.length+(fnc.ntmps-args.length):=by omega
 intro K w cargs hg hi hv;refine .inl ⟨pw hf hname (by simp [hb]) cargs w, ?_⟩;refine calls_of_wp_defers hf hb ((wpIn_wide (n:=0)).1 (Oz hc (fun e=>by rw [hdf] at e;cases e) (N := { n:=args.length+(fnc.ntmps-args.length),mks:=false }) hnt hg As fn'.c [.c (.ops l),.df x aB] (fun id=>rfl) rfl (fun l=>rfl) hA n (Nat.le_refl n) K _ _ _ w h (ak.le.refl _) ⟨hi,.none fun _ _=>trivial,by simp [← hv.size],fun t=>C2 hv _ t⟩ ?_ ?_))
 ·intro m hm K' act w' a' H2 hk hr hx2
  refine wpIn_seq (wpIn_region ?_)
  have hsz:List.range ops.size=List.range os.length++[os.length]:=by
   rw [← Array.length_toList,hops];simp [List.range_succ]
  rw [hsz];refine zK hE (n:=n) hC (N := { n:=args.length+(fnc.ntmps-args.length),mks:=false }) hnt hg (l2:=[os.length]) ?_ ?_ os l (List.range os.length) m K' a' H2 act w' (by omega) hx2 hros ?_ hk hr
  ·
   intro j K1 a1 H1 act1 w1 hj hk1 hr1 hev;cases j with
   |zero=>cases hev
   |succ j=>
    simp only [ev] at hev;split at hev
    ·rename_i g2 first cap hfe
     split at hev
     ·rename_i hsome
      have ho:ops[os.length]?=some o:=by rw [← Array.getElem?_toList,hops];simp
      rw [wpOpsIn_cons,wpOpIn,ho];have hfv:=jX (hk1.glob.trans hg) hr1 f;rw [← hx,hfe] at hfv;obtain ⟨vs,us,hfv2,h1,h2⟩:=hfv.fn_inv
      have hrun:(execOp act1.eval o).run E.P w1 = .ok (.defer { target:=.fn (.func g2) us,args:=vs }) w1:=by
       unfold execOp;simp only [hop,resolve,hcal,hfv2,hca,pure_bind,Deferred.ofValue,Array.map_empty,Array.append_empty];rfl
      simp only [Region.wanted,hgd,if_true];refine ⟨fun f _=>trivial, ?_⟩;rw [show Oper.semAt (Fence.round _) act1.eval o=execOp act1.eval o from rfl,hrun,Oper.uponIn_defer,hdst];have hd0:act1.defers=[]:=hr1.defers.bare rfl
      have hr2:Rel { n:=args.length+(fnc.ntmps-args.length),mks:=false,ds:=[{ target:=.fn (.func g2) us,args:=vs }] } K1 a1 H1 (({ act1 with defers := { target:=.fn (.func g2) us,args:=vs }::act1.defers }:Act).put none undef) w1:=
       ⟨hr1.inv,by rw [hd0];exact .none fun _ _=>trivial,hr1.size,hr1.tmps⟩
      show Code.wpIn Fence.wide 0 E.P B _ _ w1;refine wpIn_mono (hc j (by omega) fn' H aB [.dr (.fn (.func g2) first cap)] a1 H1 (r,H') hev _ _ fnc.ntmps B (fun e=>by rw [hdf] at e;cases e) hnt hB K1 _ w1 (hk1.glob.trans hg) hr2) ?_;rintro e act2 w2 ⟨K2,x2,a2,H3,hk2,he2,hr3,m2,hm2,hx3⟩
      have hfv3:V K2 (.fn (.func g2) first cap) (.func (.func g2) vs us):=by
       rw [← hfv2];exact hfv.mono hk2
      have hds:act2.defers=[{ target:=.fn (.func g2) us,args:=vs }]:=hr3.defers.bare rfl;have hk3:=hk1.trans hk2
      have plain:∀ m3,m3≤n→pr dec E (ev dec E m3) fn' H [.dr (.fn (.func g2) first cap)] a2 H3=some (r,H')→Leaves E.P fnc act2.tmps (A8 K fun r2 H2=>r2=r∧H2=H') act2.defers .returning w2:=fun m3 hm3 hx4=>by
       simp only [pr,hdf,kA] at hx4;split at hx4
       ·rename_i H4 hcl
        rw [hds];refine D7 hE (hc m3 hm3) h3 hrs hi hk3 hr3 hcl hx4 hg hfv3 (.nilif) (u:=.returning) (u':=.returning) (by simp) (fun c₀ cs hm=>.inr ⟨by simp [recoverD,hm],rfl,by rw [← hm]⟩) rfl
       ·cases hx4
      cases x2 with
      |normal=>
       cases e<;>first | exact (he2:False).elim | skip
       have hx4:ev dec E m2 fn' H [.dr (.fn (.func g2) first cap)] a2 H3=some (r,H'):=hx3;cases m2 with
       |zero=>cases hx4
       |succ m2=>exact plain m2 (by omega) hx4
      |ret=>
       cases e<;>first | exact (he2:False).elim | skip
       exact plain m2 (by omega) hx3
      |panic v=>
       cases e<;>first | exact (he2:False).elim | skip
       obtain ⟨cv,rfl,hcv⟩:=he2;simp only [evX,ga,hdf,kA] at hx3;split at hx3
       ·rename_i H4 hcl
        show Leaves E.P fnc act2.tmps _ act2.defers _ w2;rw [hds];refine D7 hE (hc m2 (by omega)) h3 hrs hi hk3 hr3 hcl hx3 hg hfv3 hcv (u:=.panicking [{ v:=cv,recovered:=false }]) (u':=.panicking [{ v:=cv,recovered:=true }]) (by simp) (fun c₀ cs hm=>.inl (by simp [recoverD,hm])) rfl
       ·cases hx3
      |exit id=>simp [evX,unw,D3,kA] at hx3
      |goto l=>simp [evX,jmp] at hx3
     ·cases hev
    ·cases hev
  ·intro j K1 a1 H1 act1 w1 v cv hj hk1 hv1 hr1 hev
   simp [ga,hdf,kA] at hev
  ·refine List.ext_getElem? fun i => ?_
   rw [List.getElem?_map,List.getElem?_map]
   by_cases hi':i<os.length
   ·rw [List.getElem?_range hi']
    simp only [Option.map_some];rw [← Array.getElem?_toList,hops,List.getElem?_append_left hi',List.getElem?_eq_getElem hi'];rfl
   ·rw [List.getElem?_eq_none (by simp;omega),List.getElem?_eq_none (by omega)]
    rfl
 ·intro K' act w' a' H2 hk hr hx2
  show Leaves E.P fnc act.tmps (A8 K fun r2 H2=>r2=r∧H2=H') act.defers .returning w';have hd0:act.defers=[]:=hr.defers.bare rfl;rw [hd0];exact vZ h3 hrs hi hk hr hx2
theorem OA(hE:E.Ok){n:Nat}(hC:∀ j,j<n→vg dec E j)(hc:∀ j,j≤n→Bh dec E j):vg dec E n:=by
 intro g args H r H' h;unfold zI vY at h;split at h
 ·rename_i fn' hfn
  have hcomp:=hE.fn g fn' hfn;unfold NC at hcomp;split at hcomp
  ·cases hcomp
  ·rename_i fnc hf
   split at hcomp
   ·cases hcomp
   ·rename_i hname
    split at hcomp
    ·cases hcomp
    ·rename_i c hb
     split at hcomp
     ·cases hcomp
     ·rename_i rs hrs
      split at hcomp
      ·rename_i hsp
       split at hcomp
       ·cases hcomp
       ·rename_i ac hac
        simp only [Option.some.injEq,Prod.mk.injEq] at hcomp;obtain ⟨rfl,h2,h3,h4⟩:=hcomp
        have hdf:fn'.dfr=none:=by
         cases hd:fn'.dfr with
         |none=>rfl
         |some x=>rw [hd] at h4;cases h4
        simp only [hdf] at h;exact Mz (hc n (Nat.le_refl n)) hdf hf (by simpa using hname) hb h3 hrs hac h
      ·rename_i x hsp
       split at hcomp
       ·cases hcomp
       ·rename_i ac l y B hcd
        simp only [Option.some.injEq,Prod.mk.injEq] at hcomp;obtain ⟨rfl,h2,h3,h4⟩:=hcomp;obtain ⟨A0,id,ops,os,o,B0⟩:=x;obtain ⟨rfl,hops⟩:=MF hsp;obtain ⟨cc,f,e1,e2,e3,e4,e5,e6,e7,e8,e9⟩:=Oy hcd;cases hd:fn'.dfr with
        |none=>rw [hd] at h4;cases h4
        |some x=>
         obtain ⟨l',x',aB⟩:=x;rw [hd] at h4;simp only [Option.map_some,Option.some.injEq,Prod.mk.injEq] at h4;obtain ⟨rfl,rfl,rfl⟩:=h4;simp only [hd] at h;exact Qd hE hC hc hd hf (by simpa using hname) hb hops h3 hrs e6 e8 e7 e1 e2 e3 e4 e5 e9 h
 ·exact hE.orc g args H r H' h
theorem v7(hE:E.Ok):∀ n,Bh dec E n∧vg dec E n:=by
 intro n;induction n using Nat.strongRecOn with
 |ind n ih=>
  have h1:=ME (fun j hj=>(ih j hj).2) hE (fun j hj=>(ih j hj).1)
  exact ⟨h1,OA hE (fun j hj=>(ih j hj).2) fun j hj=>by
   rcases Nat.lt_or_eq_of_le hj with h | rfl
   ·exact (ih j h).1
   ·exact h1⟩
end
mutual
def AV.eqb:AV→AV→Bool
 |.unk,.unk=>true
 |.bool a,.bool b=>a == b
 |.int k m,.int k' n=>decide (k=k')&&decide (m=n)
 |.str s,.str t=>decide (s=t)
 |.nilp,.nilp=>true
 |.ptr i o,.ptr i' o'=>Nat.beq i i'&&Nat.beq o o'
 |.vptr e r i o,.vptr e' r' i' o'=>Nat.beq e e'&&AV.eqbR r r'&&Nat.beq i i'&&Nat.beq o o'
 |.slice t e r,.slice t' e' r'=>decide (t=t')&&Nat.beq e e'&&AV.eqbR r r'
 |.rslice i o l e r,.rslice i' o' l' e' r'=>Nat.beq i i'&&Nat.beq o o'&&Nat.beq l l'&&Nat.beq e e'&&r == r'
 |.nilmap,.nilmap=>true
 |.map i,.map i'=>Nat.beq i i'
 |.vmap es,.vmap es'=>AV.eqbE es es'
 |.sdp t r,.sdp t' r'=>Nat.beq t t'&&AV.eqbR r r'
 |.fn (.func g) a b,.fn (.func g') a' b'=>Nat.beq g g'&&AV.eqbL a a'&&AV.eqbL b b'
 |.nilfn,.nilfn=>true
 |.iface t v,.iface t' v'=>Nat.beq t t'&&AV.eqb v v'
 |.nilif,.nilif=>true
 |.agg a,.agg b=>AV.eqbL a b
 |.tuple a,.tuple b=>AV.eqbL a b
 |_,_=>false
def AV.eqbL:List AV→List AV→Bool
 |[],[]=>true
 |x::l,y::m=>AV.eqb x y&&AV.eqbL l m
 |_,_=>false
def AV.eqbR:List (List AV)→List (List AV)→Bool
 |[],[]=>true
 |x::l,y::m=>AV.eqbL x y&&AV.eqbR l m
 |_,_=>false
def AV.eqbE:List (AV×AV)→List (AV×AV)→Bool
 |[],[]=>true
 |x::l,y::m=>AV.eqbP x y&&AV.eqbE l m
 |_,_=>false
def AV.eqbP:AV×AV→AV×AV→Bool
 |(x,y),(x',y')=>AV.eqb x x'&&AV.eqb y y'
end
mutual
theorem AV.eqb_eq:∀ {x y:AV},AV.eqb x y=true→x=y
 |.unk,y,h=>by cases y<;>simp [AV.eqb] at h;rfl
 |.bool a,y,h=>by cases y<;>simp [AV.eqb] at h;rw [h]
 |.int k m,y,h=>by cases y<;>simp [AV.eqb] at h;rw [h.1,h.2]
 |.str s,y,h=>by cases y<;>simp [AV.eqb] at h;rw [h]
 |.nilp,y,h=>by cases y<;>simp [AV.eqb] at h;rfl
 |.ptr i o,y,h=>by cases y<;>simp [AV.eqb] at h;rw [h.1,h.2]
 |.vptr e r i o,y,h=>by
  cases y<;>simp [AV.eqb] at h
  obtain ⟨⟨⟨h1,h2⟩,h3⟩,h4⟩:=h;rw [h1,AV.eqbR_eq h2,h3,h4]
 |.slice t e r,y,h=>by
  cases y<;>simp [AV.eqb] at h
  obtain ⟨⟨h1,h2⟩,h3⟩:=h;rw [h1,h2,AV.eqbR_eq h3]
 |.rslice i o l e r,y,h=>by
  cases y<;>simp [AV.eqb] at h
  obtain ⟨⟨⟨⟨h1,h2⟩,h3⟩,h4⟩,h5⟩:=h;rw [h1,h2,h3,h4,h5]
 |.nilmap,y,h=>by cases y<;>simp [AV.eqb] at h;rfl
 |.map i,y,h=>by cases y<;>simp [AV.eqb] at h;rw [h]
 |.vmap es,y,h=>by cases y<;>simp [AV.eqb] at h;rw [AV.eqbE_eq h]
 |.sdp t r,y,h=>by
  cases y<;>simp [AV.eqb] at h
  rw [h.1,AV.eqbR_eq h.2]
 |.fn (.func g) a b,.fn (.func g') a' b',h=>by
  simp [AV.eqb] at h;obtain ⟨⟨h1,h2⟩,h3⟩:=h;rw [h1,AV.eqbL_eq h2,AV.eqbL_eq h3]
 |.fn (.func g) a b,.fn (.method _) a' b',h=>by simp [AV.eqb] at h
 |.fn (.func g) a b,.fn (.methodOf _ _) a' b',h=>by simp [AV.eqb] at h
 |.fn (.func g) a b,.fn (.via _ _ _ _) a' b',h=>by simp [AV.eqb] at h
 |.fn (.func g) a b,.fn (.yield _) a' b',h=>by simp [AV.eqb] at h
 |.fn (.method _) a b,y,h=>by simp [AV.eqb] at h
 |.fn (.methodOf _ _) a b,y,h=>by simp [AV.eqb] at h
 |.fn (.via _ _ _ _) a b,y,h=>by simp [AV.eqb] at h
 |.fn (.yield _) a b,y,h=>by simp [AV.eqb] at h
 |.fn (.func g) a b,.unk,h=>by simp [AV.eqb] at h
 |.fn (.func g) a b,.bool _,h=>by simp [AV.eqb] at h
 |.fn (.func g) a b,.int _ _,h=>by simp [AV.eqb] at h
 |.fn (.func g) a b,.str _,h=>by simp [AV.eqb] at h
 |.fn (.func g) a b,.nilp,h=>by simp [AV.eqb] at h
 |.fn (.func g) a b,.ptr _ _,h=>by simp [AV.eqb] at h
 |.fn (.func g) a b,.vptr _ _ _ _,h=>by simp [AV.eqb] at h
 |.fn (.func g) a b,.slice _ _ _,h=>by simp [AV.eqb] at h
 |.fn (.func g) a b,.rslice _ _ _ _ _,h=>by simp [AV.eqb] at h
 |.fn (.func g) a b,.nilmap,h=>by simp [AV.eqb] at h
 |.fn (.func g) a b,.map _,h=>by simp [AV.eqb] at h
 |.fn (.func g) a b,.vmap _,h=>by simp [AV.eqb] at h
 |.fn (.func g) a b,.sdp _ _,h=>by simp [AV.eqb] at h
 |.fn (.func g) a b,.nilfn,h=>by simp [AV.eqb] at h
 |.fn (.func g) a b,.iface _ _,h=>by simp [AV.eqb] at h
 |.fn (.func g) a b,.nilif,h=>by simp [AV.eqb] at h
 |.fn (.func g) a b,.agg _,h=>by simp [AV.eqb] at h
 |.fn (.func g) a b,.tuple _,h=>by simp [AV.eqb] at h
 |.nilfn,y,h=>by cases y<;>simp [AV.eqb] at h;rfl
 |.iface t v,y,h=>by
  cases y<;>simp [AV.eqb] at h
  rw [h.1,AV.eqb_eq h.2]
 |.nilif,y,h=>by cases y<;>simp [AV.eqb] at h;rfl
 |.agg a,y,h=>by cases y<;>simp [AV.eqb] at h;rw [AV.eqbL_eq h]
 |.tuple a,y,h=>by cases y<;>simp [AV.eqb] at h;rw [AV.eqbL_eq h]
theorem AV.eqbL_eq:∀ {x y:List AV},AV.eqbL x y=true→x=y
 |[],y,h=>by cases y<;>simp [AV.eqbL] at h;rfl
 |x::l,y,h=>by
  cases y<;>simp [AV.eqbL] at h
  rw [AV.eqb_eq h.1,AV.eqbL_eq h.2]
theorem AV.eqbR_eq:∀ {x y:List (List AV)},AV.eqbR x y=true→x=y
 |[],y,h=>by cases y<;>simp [AV.eqbR] at h;rfl
 |x::l,y,h=>by
  cases y<;>simp [AV.eqbR] at h
  rw [AV.eqbL_eq h.1,AV.eqbR_eq h.2]
theorem AV.eqbE_eq:∀ {x y:List (AV×AV)},AV.eqbE x y=true→x=y
 |[],y,h=>by cases y<;>simp [AV.eqbE] at h;rfl
 |x::l,y,h=>by
  cases y<;>simp [AV.eqbE] at h
  rw [AV.eqbP_eq h.1,AV.eqbE_eq h.2]
theorem AV.eqbP_eq:∀ {x y:AV×AV},AV.eqbP x y=true→x=y
 |(x,x'),(y,y'),h=>by
  simp [AV.eqbP] at h;rw [AV.eqb_eq h.1,AV.eqb_eq h.2]
end
def AObj.eqb:AObj→AObj→Bool
 |.dead,.dead=>true
 |.cells a T,.cells b T'=>AV.eqbL a b&&Nat.beq T T'
 |.tok n T,.tok n' T'=>Nat.beq n n'&&Nat.beq T T'
 |.siter s n,.siter s' n'=>decide (s=s')&&Nat.beq n n'
 |.map a,.map b=>AV.eqbE a b
 |_,_=>false
theorem AObj.eqb_eq{x y:AObj}(h:AObj.eqb x y=true):x=y:=by
 cases x<;>cases y<;>simp [AObj.eqb] at h<;>try rfl
 ·rw [AV.eqbL_eq h.1,h.2]
 ·rw [h.1,h.2]
 ·rw [h.1,h.2]
 ·rw [AV.eqbE_eq h]
def sd:List AObj→List AObj→Bool
 |[],_=>true
 |x::l,y::m=>AObj.eqb x y&&sd l m
 |_,_=>false
theorem tD:∀ {H H':List AObj},sd H H'=true→H'.take H.length=H
 |[],_,_=>by simp
 |x::l,y,h=>by
  cases y<;>simp [sd] at h
  rw [← AObj.eqb_eq h.1];simp [tD h.2]
def TY(L:List Nat)(H H':List AObj):Bool:=
 L.all fun id=>match H[id]? with
  |none=>true
  |some x=>match H'[id]? with
   |some y=>AObj.eqb x y
   |none=>false
theorem Qe{L:List Nat}{H H':List AObj}(h:TY L H H'=true):∀ id∈L,id<H.length→H'[id]?=H[id]? := fun id hid hlt=>by
 have:=List.all_eq_true.1 h id hid;rw [List.getElem?_eq_getElem hlt] at this ⊢;simp only at this;split at this
 ·rename_i y hy;rw [hy,AObj.eqb_eq this]
 ·cases this
def turned:Nat→List AObj→List AObj→Option (List Nat)
 |_,[],_=>some []
 |_,_::_,[]=>none
 |i,x::H,y::H'=>match turned (i+1) H H' with
  |some l=>bif sd [x] [y] then some l else some (i::l)
  |none=>none
theorem Da:∀ (H H':List AObj) (i:Nat) (l:List Nat),turned i H H'=some l→H.length≤H'.length∧∀ j,j<H.length→i+j ∉ l→H'[j]?=H[j]?
 |[],H',i,l,_=>⟨Nat.zero_le _,fun j hj=>absurd hj (Nat.not_lt_zero _)⟩
 |_::_,[],_,_,h=>by cases h
 |x::H,y::H',i,l,h=>by
  simp only [turned] at h;split at h
  ·rename_i l2 h2
   obtain ⟨h3,h4⟩:=Da H H' (i+1) l2 h2;refine ⟨by simpa using h3,fun j hj hn => ?_⟩;cases j with
   |zero=>
    cases hb:sd [x] [y] with
    |true=>
     have:=tD hb;simp at this;simp [this]
    |false=>
     rw [hb] at h;simp only [cond_false,Option.some.injEq] at h;subst h;simp at hn
   |succ j=>
    simp only [List.getElem?_cons_succ];refine h4 j (by simpa using hj) (fun hm=>hn ?_);have e:i+(j+1)=i+1+j:=by omega
    rw [e];cases hb:sd [x] [y] with
    |true=>rw [hb] at h;simp only [cond_true,Option.some.injEq] at h;rw [← h];exact hm
    |false=>rw [hb] at h;simp only [cond_false,Option.some.injEq] at h;rw [← h];exact List.mem_cons_of_mem _ hm
  ·cases h
def SB:Dec where
 frz _ _ _ _:=.no
 deep _ _ _:=none
 hand _ _ _:=.no
 back _ _ _ _:=.no
 ap T L:=if h:L.all (fun x => !T.contains x)=true then .yes (fun x hx ht=>by
   have:=List.all_eq_true.1 h x hx;simp [ht] at this) else .no
 wide _ _ _ _ _ _:=.no
 same H H':=if h:(sd H H'&&Nat.beq H.length H'.length)=true then .yes (by
   simp only [Bool.and_eq_true,Nat.beq_eq] at h;have:=tD h.1;rwa [h.2,List.take_length] at this) else .no
 keep H H':=if h:sd H H'=true then .yes (tD h) else .no
 ids L H H':=if h:TY L H H'=true then .yes (Qe h) else .no
 turn H H':=match h:turned 0 H H' with
  |some l=>some ⟨l,(Da H H' 0 l h).1,fun i hi hn=>(Da H H' 0 l h).2 i hi (by simpa using hn)⟩
  |none=>none
 fzp _ _ _:=none
def sel{α:Type}(b:Bool)(x y:α):α:=
 match b with
 |true=>x
 |false=>y
def SC(x:Option (AV×List AObj)):Option Out:=
 match x with
 |some (v,H)=>some (.ret v,H)
 |none=>none
def OB(x:AV)(H:List AObj):Option Out:=
 match x with
 |.iface t v=>some (.panic (.iface t v),H)
 |_=>none
def nk(E:bc)(f:Rec)(x:AV)(args:List AV)(H:List AObj):Option Out:=
 match x with
 |.fn (.func g) first cap=>vY E f g (first++args++cap) H
 |_=>none
def rr(E:bc)(f:Rec)(a:Env)(H:List AObj)(s:RS):Option Out:=
 match s with
 |.op op=>SC (rop a H op)
 |.call x args=>nk E f (rx a x) (args.map (rx a)) H
 |.panic x=>OB (rx a x) H
 |.inv x m args=>nk E f (Mu E (rx a x) m) (args.map (rx a)) H
def zM{α:Type}(v:AV)(w:Bool)(x u:Option α):Option α:=
 match v with
 |.bool b=>sel (b == w) x u
 |.tuple _=>u
 |_=>none
def iN{α:Type}(a:Env)(g:Option (Nat×Bool))(u x:Option α):Option α:=
 match g with
 |none=>x
 |some (t,w)=>zM (dR a t) w x u
def aft(dec:Dec)(E:bc)(f:Rec)(fn:AFn)(H0:List AObj)(os:List RO)(k:List Fra)(a:Env)(d:Option Nat)(r:Option Out):Option Out:=
 match r with
 |some (.ret v,H)=>f fn H0 (.c (.ops os)::k) (iz a d v) H
 |some (.panic v,H)=>ga dec E f fn H0 k a v H
 |none=>none
abbrev Db:=AV×List AObj×List Nat×List Nat
def OC(x:Option (AV×List AObj))(y:Option (List Nat×List Nat)):Option Db:=
 match x,y with
 |some (v,H),some (T,L)=>some (v,H,T,L)
 |_,_=>none
def KY(dec:Dec)(c:Cl)(v:AV)(H H':List AObj)(T L:List Nat):Option Db:=
 match FL dec c H H' T with
 |some T'=>some (v,H',T',L)
 |none=>none
def oZ(dec:Dec)(E:bc)(c:Cl)(x:AV)(args:List AV)(H:List AObj)(T L:List Nat)(r:Option Out):Option Db:=
 match x,r with
 |.fn (.func g) first cap,some (.ret v,H')=>if n8 dec E c g (first++args++cap) H v H' then some (v,H',T,L) else KY dec c v H H' T L
 |_,_=>none
def iC(E:bc)(c:Cl)(x:AV)(args:List AV)(H:List AObj):Option (AV×List Nat):=
 match x with
 |.fn (.func g) first cap=>FK E c g (first++args++cap) H
 |_=>none
def zN(w:Option (AV×List Nat))(H:List AObj)(T L:List Nat)(r:Option Db):Option Db:=
 match w with
 |some (v,L1)=>some (v,H,T,L1++L)
 |none=>r
def qp(dec:Dec)(E:bc)(f:Rec)(a:Env)(H:List AObj)(s:Bool)(T L:List Nat)(c:Cl)(x:RS):Option Db:=
 match x with
 |.op op=>OC (rop a H op) (nB s c a op T L)
 |.call x args=>zN (iC E c (rx a x) (args.map (rx a)) H) H T L <| oZ dec E c (rx a x) (args.map (rx a)) H T L (nk E f (rx a x) (args.map (rx a)) H)
 |.panic _=>none
 |.inv .. => none
def Cs(f:Rec)(fn:AFn)(H0:List AObj)(s:Bool)(l:List (RO×Cl))(k:List Fra)(a:Env)(d:Option Nat)(r:Option Db):Option Out:=
 match r with
 |some (v,H,T,L)=>f fn H0 (.c (.dops s T L l)::k) (iz a d v) H
 |none=>none
def D8(f:Rec)(fn:AFn)(H0:List AObj)(x y:AC)(k:List Fra)(a:Env)(H:List AObj)(c:AV):Option Out:=
 match c with
 |.bool b=>sel b (f fn H0 (.c x::k) a H) (f fn H0 (.c y::k) a H)
 |_=>none
def dfR(E:bc)(f:Rec)(fn:AFn)(H0:List AObj)(B:AC)(k:List Fra)(a:Env)(H:List AObj)(v:AV):Option Out:=
 match v with
 |.fn (.func g) first cap=>if (E.dfn g).isSome then f fn H0 (.c B :: .dr (.fn (.func g) first cap)::k) a H else none
 |_=>none
def emR(dec:Dec)(fn:AFn)(H0:List AObj)(a:Env)(H:List AObj):Option Out:=
 match fn.dfr with
 |none=>fin dec fn H0 a H
 |some _=>none
def Ei(f:Rec)(fn:AFn)(H0:List AObj)(a:Env)(H:List AObj)(j:Option Out)(k:Option (List Fra)):Option Out:=
 match k with
 |some k=>f fn H0 k a H
 |none=>j
def Qf(id:Nat)(k:List Fra)(H:List AObj):Option Out:=if D3 k=true then some (.ret (.int .i64 id),H) else none
def drR(dec:Dec)(E:bc)(f:Rec)(fn:AFn)(H0:List AObj)(k:List Fra)(a:Env)(H:List AObj)(v:AV):Option Out:=
 match v with
 |.nilp=>some (.ret .nilp,H)
 |v=>pr dec E f fn H0 (.dr v::k) a H
def MG(f:Rec)(fn:AFn)(H0:List AObj)(k:List Fra)(a:Env)(r:Option (Option AC×List AObj)):Option Out:=
 match r with
 |some (none,H)=>f fn H0 k a H
 |some (some j,H)=>f fn H0 (.c j::k) a H
 |none=>none
def SD(dec:Dec)(E:bc)(f:Rec)(fn:AFn)(H0:List AObj)(ps:List Nat)(y:List (List RO))(z:AC)(k:List Fra)(a:Env)(H:List AObj)(x:AV)(d:Option (List RO×RX×AC)):Option Out:=
 match x,d with
 |.fn (.func g) [] cap,none=>match E.seq g cap H with
  |some (xs,L)=>if Nat.beq (E.sar g) ps.length=true then MG f fn H0 k a (pq dec f (zH fn) ps y z a L H xs H) else none
  |none=>none
 |_,_=>none
def D9(f:Rec)(fn:AFn)(H0:List AObj)(h:LH)(x:AC)(k:List Fra)(r:Option (Env×List AObj)):Option Out:=
 match r with
 |some (a,H)=>f fn H0 (.c x :: .lp h x H::k) a H
 |none=>none
def inR(f:Rec)(fn:AFn)(H0:List AObj)(h:LH)(x:AC)(k:List Fra)(r:Env×List AObj):Option Out:=f fn H0 (.c x :: .lp h x r.2::k) r.1 r.2
def se(dec:Dec)(T L:List Nat)(r:Option Out):Option Out:=
 match dec.ap T L with
 |.yes _=>r
 |.no=>none
def pnR(dec:Dec)(fn:AFn)(H0:List AObj)(T L:List Nat)(r:Option Out)(x:Option Out):Option Out:=
 match r with
 |some (.panic p,H)=>Mw dec .stop none fn H0 T L p H
 |some (.ret _,_)=>x
 |none=>none
def pnL(dec:Dec)(E:bc)(f:Rec)(fn:AFn)(H0:List AObj)(k:List Fra)(a:Env)(T L:List Nat)(r:Option Out)(x:Option Out):Option Out:=
 match r with
 |some (.panic p,H)=>Bt dec E f .last none fn H0 k a T L p H
 |some (.ret _,_)=>x
 |none=>none
def pnX(dec:Dec)(E:bc)(f:Rec)(k:List Fra)(a:Env)(c:Cl)(g:Option (Nat×Bool))(fn:AFn)(H0:List AObj)(T L:List Nat)(r:Option Out)(x:Option Out):Option Out:=
 match c with
 |.stop=>match g with
  |none=>pnR dec fn H0 T L r x
  |some _=>x
 |.last=>match g with
  |none=>pnL dec E f fn H0 k a T L r x
  |some _=>x
 |_=>x
def pnS(dec:Dec)(E:bc)(f:Rec)(fn:AFn)(H0:List AObj)(k:List Fra)(a:Env)(H:List AObj)(T L:List Nat)(o:RO)(c:Cl)(x:Option Out):Option Out:=
 match o.s with
 |.call y args=>pnX dec E f k a c o.g fn H0 T L (nk E f (rx a y) (args.map (rx a)) H) x
 |_=>x
def fzS(f:Rec)(fn:AFn)(H0:List AObj)(k:List Fra)(r:Option (Env×List AObj)):Option Out:=
 match r with
 |some (a',H')=>f fn H0 k a' H'
 |none=>none
def fx(dec:Dec)(E:bc)(f:Rec)(fn:AFn)(H0:List AObj)(k:List Fra)(a:Env)(H:List AObj):Option Out:=
 match k with
 |[]=>emR dec fn H0 a H
 |.df x B::k=>dfR E f fn H0 B k a H (rx a x)
 |.dr v::k=>drR dec E f fn H0 k a H v
 |.blk _::k=>f fn H0 k a H
 |.sc _::k=>f fn H0 k a H
 |.lp h x He::k=>D9 f fn H0 h x k (pn dec h He a H)
 |.c ac::k=>match ac with
  |.skip=>f fn H0 k a H
  |.exit id=>Ei f fn H0 a H (Qf id k H) (unw id k)
  |.lbl _=>f fn H0 k a H
  |.goto l=>Ei f fn H0 a H none (jmp l k)
  |.scope x t=>f fn H0 (.c x :: .sc t::k) a H
  |.tab .. => none
  |.rfn x ps y z=>SD dec E f fn H0 ps y z k a H (rx a x) fn.dfr
  |.ret=>pr dec E f fn H0 k a H
  |.seq x y=>f fn H0 (.c x :: .c y::k) a H
  |.lv l=>f fn H0 k (pj a l) H
  |.fz t l=>fzS f fn H0 k (fzR dec t l a H)
  |.bad=>none
  |.cond c x y=>D8 f fn H0 x y k a H (rx a c)
  |.block id x=>f fn H0 (.c x :: .blk id::k) a H
  |.loop h x=>inR f fn H0 h x k (po h a H)
  |.ops []=>f fn H0 k a H
  |.ops (o::os)=>aft dec E f fn H0 os k a o.d (iN a o.g (some (.ret gH,H)) (rr E f a H o.s))
  |.dops _ T L []=>se dec T L (f fn H0 k a H)
  |.dops s T L ((o,c)::l)=>pnS dec E f fn H0 k a H T L o c (Cs f fn H0 s l k a o.d (iN a o.g (some (gH,H,T,L)) (qp dec E f a H s T L c o.s)))
section
variable{dec:Dec}{E:bc}
theorem Ct{α:Type}(a:Env)(o:RO)(u x:Option α):iN a o.g u x=match zG a o with
  |none=>none
  |some false=>u
  |some true=>x:=by
 unfold iN zG;cases o.g with
 |none=>rfl
 |some g=>
  simp only [zM];cases dR a g.1<;>simp only
  rename_i b;cases hb:(b == g.2)<;>simp [sel]
theorem JE(n:Nat)(fn:AFn)(H0:List AObj)(k:List Fra)(a:Env)(H:List AObj):ev dec E (n+1) fn H0 k a H=fx dec E (ev dec E n) fn H0 k a H:=by
 match k with
 |[]=>
  simp only [ev,fx,emR];cases fn.dfr<;>rfl
 |.df x B::k=>
  simp only [ev,fx,dfR];cases rx a x with
  |fn f first cap=>cases f<;>rfl
  |_=>rfl
 |.dr v::k=>cases v<;>rfl
 |.blk _::k=>rfl
 |.sc _::k=>rfl
 |.lp h x He::k=>simp only [ev,fx,D9];cases pn dec h He a H<;>rfl
 |.c .skip::k=>rfl
 |.c (.exit id)::k=>simp only [ev,fx,Ei,Qf];cases unw id k<;>rfl
 |.c (.lbl _)::k=>rfl
 |.c (.goto l)::k=>simp only [ev,fx,Ei];cases jmp l k<;>rfl
 |.c (.scope x t)::k=>rfl
 |.c (.tab ..)::k=>rfl
 |.c (.rfn x ps y z)::k=>
  simp only [ev,fx];generalize rx a x=v;generalize fn.dfr=d;cases v<;>rfl
 |.c .ret::k=>rfl
 |.c (.seq x y)::k=>rfl
 |.c (.lv l)::k=>rfl
 |.c (.fz t l)::k=>simp only [ev,fx,fzS];cases fzR dec t l a H<;>rfl
 |.c .bad::k=>rfl
 |.c (.cond c x y)::k=>
  simp only [ev,fx,D8];cases rx a c<;>simp only
  rename_i b;cases b<;>rfl
 |.c (.block id x)::k=>rfl
 |.c (.loop h x)::k=>rfl
 |.c (.ops [])::k=>rfl
 |.c (.ops (o::os))::k=>
  simp only [ev,fx];rw [Ct];cases hw:zG a o with
  |none=>rfl
  |some b=>
   cases b with
   |false=>rfl
   |true=>
    simp only [rr];cases o.s with
    |op op=>simp only;cases rop a H op<;>rfl
    |call f args=>
     simp only [nk];cases rx a f with
     |fn f first cap=>
      cases f with
      |func g=>
       simp only [vY];cases E.fn g with
       |none=>
        simp only;cases E.orc g (first++args.map (rx a)++cap) H with
        |none=>rfl
        |some r=>obtain ⟨r,H'⟩:=r;cases r<;>rfl
       |some fn'=>
        simp only;cases fn'.dfr with
        |none=>
         simp only;cases ev dec E n fn' H [.c fn'.c] (env (first++args.map (rx a)++cap)) H with
         |none=>rfl
         |some r=>obtain ⟨r,H'⟩:=r;cases r<;>rfl
        |some q=>
         simp only;cases ev dec E n fn' H [.c fn'.c,.c (.ops q.1),.df q.2.1 q.2.2] (env (first++args.map (rx a)++cap)) H with
         |none=>rfl
         |some r=>obtain ⟨r,H'⟩:=r;cases r<;>rfl
      |_=>rfl
     |_=>rfl
    |panic x=>simp only [OB];cases rx a x<;>rfl
    |inv x m args=>
     simp only [nk];cases Mu E (rx a x) m with
     |fn f first cap=>
      cases f with
      |func g=>
       simp only [vY];cases E.fn g with
       |none=>
        simp only;cases E.orc g (first++args.map (rx a)++cap) H with
        |none=>rfl
        |some r=>obtain ⟨r,H'⟩:=r;cases r<;>rfl
       |some fn'=>
        simp only;cases fn'.dfr with
        |none=>
         simp only;cases ev dec E n fn' H [.c fn'.c] (env (first++args.map (rx a)++cap)) H with
         |none=>rfl
         |some r=>obtain ⟨r,H'⟩:=r;cases r<;>rfl
        |some q=>
         simp only;cases ev dec E n fn' H [.c fn'.c,.c (.ops q.1),.df q.2.1 q.2.2] (env (first++args.map (rx a)++cap)) H with
         |none=>rfl
         |some r=>obtain ⟨r,H'⟩:=r;cases r<;>rfl
      |_=>rfl
     |_=>rfl
 |.c (.dops s T L [])::k=>rfl
 |.c (.dops s T L ((⟨d,g,x⟩,c)::l))::k=>
  cases g with
  |some g=>
   have hp:∀ y,pnS dec E (ev dec E n) fn H0 k a H T L ⟨d,some g,x⟩ c y=y:=fun y=>by
    cases x<;>first | rfl | (cases c<;>rfl)
   simp only [ev,fx,hp];rw [Ct a ⟨d,some g,x⟩];cases hw:zG a ⟨d,some g,x⟩ with
   |none=>rfl
   |some b=>
    cases b with
    |false=>rfl
    |true=>
     simp only [qp];cases x with
     |op op=>simp only [OC];cases rop a H op<;>cases nB s c a op T L<;>rfl
     |call f args=>
      simp only [nk,oZ,zN,iC];cases rx a f with
      |fn f first cap=>
       cases f with
       |func g=>
        simp only;cases FK E c g (first++args.map (rx a)++cap) H with
        |some v=>rfl
        |none=>
         simp only;cases vY E (fun fn H0 k a H=>ev dec E n fn H0 k a H) g (first++args.map (rx a)++cap) H with
         |none=>rfl
         |some r=>
          obtain ⟨r,H'⟩:=r;cases r with
          |ret v=>
           simp only [PS,KY];cases n8 dec E c g (first++args.map (rx a)++cap) H v H' with
           |true=>rfl
           |false=>cases FL dec c H H' T<;>rfl
          |panic v=>cases c<;>rfl
       |_=>rfl
      |_=>rfl
     |panic x=>rfl
     |inv x m args=>rfl
  |none=>
   simp only [ev,fx,iN,zG];cases x with
   |op op=>simp only [qp,pnS,OC];cases rop a H op<;>cases nB s c a op T L<;>rfl
   |call f args=>
    simp only [qp,pnS,nk,oZ,zN,iC];cases rx a f with
    |fn f first cap=>
     cases f with
     |func g=>
      simp only;cases hwv:FK E c g (first++args.map (rx a)++cap) H with
      |some v=>
       have hc:c = .wide:=by
        unfold FK at hwv;split at hwv
        ·rfl
        ·cases hwv
       subst hc;rfl
      |none=>
       simp only;cases vY E (fun fn H0 k a H=>ev dec E n fn H0 k a H) g (first++args.map (rx a)++cap) H with
       |none=>cases c<;>rfl
       |some r=>
        obtain ⟨r,H'⟩:=r;cases r with
        |ret v=>
         have hp:∀ y,pnX dec E (ev dec E n) k a c none fn H0 T L (some (.ret v,H')) y=y:=fun y=>by cases c<;>rfl
         simp only [PS,KY,hp];cases n8 dec E c g (first++args.map (rx a)++cap) H v H' with
         |true=>rfl
         |false=>cases FL dec c H H' T<;>rfl
        |panic v=>cases c<;>rfl
     |_=>cases c<;>rfl
    |_=>cases c<;>rfl
   |panic x=>rfl
   |inv x m args=>rfl
def RLe(f g:Rec):Prop:=∀ fn H0 k a H r,f fn H0 k a H=some r→g fn H0 k a H=some r
theorem OD{f g:Rec}(h:RLe f g){x:FuncId}{args:List AV}{H:List AObj}{r:Out}(hr:vY E f x args H=some r):vY E g x args H=some r:=by
 unfold vY at hr ⊢;split at hr
 ·rename_i fn' he
  split at hr<;>exact h _ _ _ _ _ _ hr
 ·exact hr
theorem callDE_mono{f g:Rec}(h:RLe f g){v p:AV}{H H':List AObj}(hr:mJ E f v p H=some H'):mJ E g v p H=some H':=by
 unfold mJ at hr ⊢;split at hr
 ·split at hr
  ·split at hr
   ·rename_i he;rw [h _ _ _ _ _ _ he];exact hr
   ·cases hr
  ·cases hr
 ·cases hr
theorem F4{f g:Rec}(h:RLe f g){fn:AFn}{H0:List AObj}{k:List Fra}{a:Env}{H:List AObj}{r:Out}(hr:pr dec E f fn H0 k a H=some r):pr dec E g fn H0 k a H=some r:=by
 unfold pr at hr ⊢;split at hr
 ·exact hr
 ·split at hr
  ·exact hr
  ·split at hr
   ·rename_i he;rw [callDE_mono h he];exact hr
   ·cases hr
  ·exact hr
theorem zO{f g:Rec}(h:RLe f g){fn:AFn}{H0:List AObj}{k:List Fra}{a:Env}{p:AV}{H:List AObj}{r:Out}(hr:ga dec E f fn H0 k a p H=some r):ga dec E g fn H0 k a p H=some r:=by
 unfold ga at hr ⊢;split at hr
 ·exact hr
 ·split at hr
  ·split at hr
   ·rename_i he;rw [callDE_mono h he];exact hr
   ·cases hr
  ·cases hr
theorem tE{f g:Rec}(h:RLe f g){x:AV}{args:List AV}{H:List AObj}{r:Out}(hr:nk E f x args H=some r):nk E g x args H=some r:=by
 unfold nk at hr ⊢;split at hr
 ·exact OD h hr
 ·cases hr
theorem F5{f g:Rec}(h:RLe f g){a:Env}{H:List AObj}{s:RS}{r:Out}(hr:rr E f a H s=some r):rr E g a H s=some r:=by
 unfold rr at hr ⊢;cases s with
 |op op=>exact hr
 |call x args=>exact tE h hr
 |panic x=>exact hr
 |inv x m args=>exact tE h hr
theorem Bw{f g:Rec}(h:RLe f g){a:Env}{H:List AObj}{b:Bool}{T L:List Nat}{c:Cl}{s:RS}{r:Db}(hr:qp dec E f a H b T L c s=some r):qp dec E g a H b T L c s=some r:=by
 unfold qp at hr ⊢;cases s with
 |op op=>exact hr
 |call x args=>
  simp only at hr ⊢;unfold zN at hr ⊢;split at hr
  ·exact hr
  ·cases hv:nk E f (rx a x) (args.map (rx a)) H with
   |none=>rw [hv] at hr;unfold oZ at hr;split at hr<;>rename_i he<;>first | (cases he;done) | (cases hr;done)
   |some q=>rw [hv] at hr;rw [tE h hv];exact hr
 |panic x=>exact hr
 |inv x m args=>exact hr
theorem It{f g:Rec}(h:RLe f g){c:Cl}{gd:Option (Nat×Bool)}{fn:AFn}{H0:List AObj}{k:List Fra}{a:Env}{T L:List Nat}{p:AV}{H:List AObj}{r:Out}(hr:Bt dec E f c gd fn H0 k a T L p H=some r):Bt dec E g c gd fn H0 k a T L p H=some r:=by
 cases c<;>simp only [Bt] at hr ⊢ <;> first | exact hr | skip
 split at hr
 ·split at hr
  ·exact zO h hr
  ·cases hr
 ·cases hr
theorem Qg{f g:Rec}(h:RLe f g){fn:AFn}{H0:List AObj}{k:List Fra}{a:Env}{H:List AObj}{T L:List Nat}{o:RO}{c:Cl}{x y:Option Out}(hx:∀ r,x=some r→y=some r){r:Out}(hr:pnS dec E f fn H0 k a H T L o c x=some r):pnS dec E g fn H0 k a H T L o c y=some r:=by
 obtain ⟨d,gd,z⟩:=o;cases z with
 |call z args=>
  simp only [pnS] at hr ⊢;cases c<;>simp only [pnX] at hr ⊢ <;> first | exact hx r hr | skip
  all_goals
   cases gd with
   |some _=>exact hx r hr
   |none=>
    simp only at hr ⊢;cases hv:nk E f (rx a z) (args.map (rx a)) H with
    |none=>rw [hv] at hr;cases hr
    |some q=>
     rw [hv] at hr;rw [tE h hv];obtain ⟨q,H'⟩:=q;cases q with
     |ret v=>exact hx r hr
     |panic p=>first | exact It (c:=.last) (gd:=none) h (show Bt dec E f .last none fn H0 k a T L p H'=some r from hr) | exact hr
 |_=>exact hx r hr
theorem px{α:Type}{a:Env}{g:Option (Nat×Bool)}{u x y:Option α}{r:α}(h:∀ r,x=some r→y=some r)(hr:iN a g u x=some r):iN a g u y=some r:=by
 unfold iN at hr ⊢;cases g with
 |none=>exact h r hr
 |some g=>
  simp only [zM] at hr ⊢;split at hr
  ·rename_i b hb
   cases hc:(b == g.2)<;>rw [hc] at hr<;>simp only [sel] at hr ⊢
   ·exact hr
   ·exact h r hr
  ·exact hr
  ·cases hr
theorem rounds_mono{f g:Rec}(h:RLe f g){rf:AFn}{ps:List Nat}{y:List (List RO)}{z:AC}{a:Env}{L:List Nat}{H0:List AObj}:∀ (xs:List (List AV)) (H:List AObj) (r:Option AC×List AObj),pq dec f rf ps y z a L H0 xs H=some r→pq dec g rf ps y z a L H0 xs H=some r
 |[],_,_,hr=>hr
 |x::xs,H,r,hr=>by
  simp only [pq] at hr ⊢;split at hr
  ·rename_i v H' he
   rw [h _ _ _ _ _ _ he];simp only;split at hr
   ·split at hr
    ·exact rounds_mono h xs _ _ hr
    ·exact hr
    ·exact hr
    ·cases hr
   ·cases hr
  ·cases hr
theorem F6{f g:Rec}(h:RLe f g):RLe (fx dec E f) (fx dec E g):=by
 intro fn H0 k a H r hr
 match k with
 |[]=>exact hr
 |.df x B::k=>
  simp only [fx,dfR] at hr ⊢;split at hr
  ·split at hr
   ·rename_i hs;simp only [hs,if_true];exact h _ _ _ _ _ _ hr
   ·cases hr
  ·cases hr
 |.dr v::k=>
  simp only [fx,drR] at hr ⊢;split at hr
  ·exact hr
  ·exact F4 h hr
 |.blk _::k=>exact h _ _ _ _ _ _ hr
 |.sc _::k=>exact h _ _ _ _ _ _ hr
 |.c (.lbl _)::k=>exact h _ _ _ _ _ _ hr
 |.c (.goto l)::k=>
  simp only [fx,Ei] at hr ⊢;split at hr
  ·exact h _ _ _ _ _ _ hr
  ·cases hr
 |.c (.scope x t)::k=>exact h _ _ _ _ _ _ hr
 |.c (.tab ..)::k=>cases hr
 |.c (.rfn x ps y z)::k=>
  simp only [fx,SD] at hr ⊢;split at hr
  ·split at hr
   ·rename_i xs L hs
    split at hr
    ·rename_i hb
     rw [if_pos hb];unfold MG at hr ⊢;split at hr
     ·rename_i he;rw [rounds_mono h _ _ _ he];exact h _ _ _ _ _ _ hr
     ·rename_i he;rw [rounds_mono h _ _ _ he];exact h _ _ _ _ _ _ hr
     ·cases hr
    ·cases hr
   ·cases hr
  ·cases hr
 |.lp lh x He::k=>
  simp only [fx,D9] at hr ⊢;split at hr
  ·rename_i he;exact h _ _ _ _ _ _ hr
  ·cases hr
 |.c .skip::k=>exact h _ _ _ _ _ _ hr
 |.c (.exit id)::k=>
  simp only [fx,Ei] at hr ⊢;split at hr
  ·exact h _ _ _ _ _ _ hr
  ·exact hr
 |.c .ret::k=>exact F4 h hr
 |.c (.seq x y)::k=>exact h _ _ _ _ _ _ hr
 |.c (.lv l)::k=>exact h _ _ _ _ _ _ hr
 |.c (.fz t l)::k=>
  simp only [fx,fzS] at hr ⊢;split at hr
  ·exact h _ _ _ _ _ _ hr
  ·cases hr
 |.c .bad::k=>cases hr
 |.c (.cond c x y)::k=>
  simp only [fx,D8] at hr ⊢;split at hr
  ·rename_i b he
   cases b<;>simp only [sel] at hr ⊢ <;> exact h _ _ _ _ _ _ hr
  ·cases hr
 |.c (.block id x)::k=>exact h _ _ _ _ _ _ hr
 |.c (.loop lh x)::k=>exact h _ _ _ _ _ _ hr
 |.c (.ops [])::k=>exact h _ _ _ _ _ _ hr
 |.c (.ops (o::os))::k=>
  simp only [fx] at hr ⊢;cases hv:iN a o.g (some (.ret gH,H)) (rr E f a H o.s) with
  |none=>rw [hv] at hr;cases hr
  |some q=>
   rw [hv] at hr;rw [px (fun r=>F5 h) hv];unfold aft at hr ⊢;obtain ⟨q,H'⟩:=q;cases q with
   |ret v=>exact h _ _ _ _ _ _ hr
   |panic v=>exact zO h hr
 |.c (.dops s T L [])::k=>
  simp only [fx,se] at hr ⊢;split at hr
  ·exact h _ _ _ _ _ _ hr
  ·cases hr
 |.c (.dops s T L ((o,c)::l))::k=>
  simp only [fx] at hr ⊢;refine Qg h (fun r hr => ?_) hr;cases hv:iN a o.g (some (gH,H,T,L)) (qp dec E f a H s T L c o.s) with
  |none=>rw [hv] at hr;cases hr
  |some q=>
   rw [hv] at hr;rw [px (fun r=>Bw h) hv];exact h _ _ _ _ _ _ hr
theorem Qh(n:Nat):RLe (ev dec E n) (ev dec E (n+1)):=by
 induction n with
 |zero=>intro fn H0 k a H r hr;cases hr
 |succ n ih=>
  intro fn H0 k a H r hr;rw [JE] at hr ⊢;exact F6 ih fn H0 k a H r hr
theorem jT{n m:Nat}(h:n≤m):RLe (ev dec E n) (ev dec E m):=by
 induction m with
 |zero=>
  have:n=0:=by omega
  subst this;exact fun _ _ _ _ _ _ h=>h
 |succ m ih=>
  by_cases e:n=m+1
  ·subst e;exact fun _ _ _ _ _ _ h=>h
  ·exact fun fn H0 k a H r hr=>Qh m fn H0 k a H r (ih (by omega) fn H0 k a H r hr)
end
structure cE (dec:Dec) (E:bc) where
 go:Rec
 spec:∀ fn H0 k a H r,go fn H0 k a H=some r↔∃ n,ev dec E n fn H0 k a H=some r
theorem KZ(dec:Dec)(E:bc):Nonempty (cE dec E):=by
 have key:∀ (fn:AFn) (H0:List AObj) (k:List Fra) (a:Env) (H:List AObj),∃ o:Option Out,∀ r,o=some r↔∃ n,ev dec E n fn H0 k a H=some r:=by
  intro fn H0 k a H
  by_cases h:∃ n r,ev dec E n fn H0 k a H=some r
  ·obtain ⟨n,r,h⟩:=h
   refine ⟨some r,fun r'=>⟨fun e=>⟨n,by rw [h,e]⟩,fun ⟨m,hm⟩ => ?_⟩⟩;have h1:=jT (Nat.le_max_left n m) fn H0 k a H r h;have h2:=jT (Nat.le_max_right n m) fn H0 k a H r' hm;rw [← h1,← h2]
  ·exact ⟨none,fun r=>⟨fun e=>(by cases e),fun ⟨n,hn⟩=>absurd ⟨n,r,hn⟩ h⟩⟩
 exact ⟨⟨fun fn H0 k a H=>Classical.choose (key fn H0 k a H),fun fn H0 k a H=>Classical.choose_spec (key fn H0 k a H)⟩⟩
section
variable{dec:Dec}{E:bc}
theorem SE{α:Type}{x y:Option α}(h:∀ r,x=some r↔y=some r):x=y:=by
 cases x with
 |none=>
  cases y with
  |none=>rfl
  |some y=>exact ((h y).2 rfl)
 |some x=>exact ((h x).1 rfl).symm
theorem cE.le(M:cE dec E)(n:Nat):RLe (ev dec E n) M.go:=fun fn H0 k a H r h=>(M.spec fn H0 k a H r).2 ⟨n,h⟩
theorem cE.runV_fin(M:cE dec E){x:AV}{args:List AV}{H:List AObj}{r:Out}(h:nk E M.go x args H=some r):∃ n,nk E (ev dec E n) x args H=some r:=by
 unfold nk at h ⊢;split at h
 ·unfold vY at h ⊢
  split at h
  ·split at h<;>exact (M.spec _ _ _ _ _ _).1 h
  ·exact ⟨0,h⟩
 ·cases h
theorem cE.callDE_fin(M:cE dec E){v p:AV}{H H':List AObj}(hr:mJ E M.go v p H=some H'):∃ n,mJ E (ev dec E n) v p H=some H':=by
 unfold mJ at hr ⊢;split at hr
 ·split at hr
  ·split at hr
   ·rename_i he
    obtain ⟨n,hn⟩:=(M.spec _ _ _ _ _ _).1 he;exact ⟨n,by rw [hn];exact hr⟩
   ·cases hr
  ·cases hr
 ·cases hr
theorem cE.finKE_fin(M:cE dec E){fn:AFn}{H0:List AObj}{k:List Fra}{a:Env}{H:List AObj}{r:Out}(hr:pr dec E M.go fn H0 k a H=some r):∃ n,pr dec E (ev dec E n) fn H0 k a H=some r:=by
 unfold pr at hr ⊢;split at hr
 ·exact ⟨0,hr⟩
 ·split at hr
  ·exact ⟨0,hr⟩
  ·split at hr
   ·rename_i he
    obtain ⟨n,hn⟩:=M.callDE_fin he;exact ⟨n,by rw [hn];exact hr⟩
   ·cases hr
  ·exact ⟨0,hr⟩
theorem cE.rounds_fin(M:cE dec E){rf:AFn}{ps:List Nat}{y:List (List RO)}{z:AC}{a:Env}{L:List Nat}{H0:List AObj}:∀ (xs:List (List AV)) (H:List AObj) (r:Option AC×List AObj),pq dec M.go rf ps y z a L H0 xs H=some r→∃ n,pq dec (ev dec E n) rf ps y z a L H0 xs H=some r
 |[],_,_,hr=>⟨0,hr⟩
 |x::xs,H,r,hr=>by
  simp only [pq] at hr ⊢;split at hr
  ·rename_i v H' he
   obtain ⟨n1,h1⟩:=(M.spec _ _ _ _ _ _).1 he;split at hr
   ·rename_i hn hid _
    split at hr
    ·obtain ⟨n2,h2⟩:=M.rounds_fin xs _ _ hr
     refine ⟨max n1 n2, ?_⟩;rw [jT (Nat.le_max_left n1 n2) _ _ _ _ _ _ h1];simp only [*];exact rounds_mono (jT (Nat.le_max_right n1 n2)) _ _ _ h2
    ·exact ⟨n1,by rw [h1];simp only [*]⟩
    ·exact ⟨n1,by rw [h1];simp only [*]⟩
    ·cases hr
   ·cases hr
  ·cases hr
theorem cE.finPKE_fin(M:cE dec E){fn:AFn}{H0:List AObj}{k:List Fra}{a:Env}{p:AV}{H:List AObj}{r:Out}(hr:ga dec E M.go fn H0 k a p H=some r):∃ n,ga dec E (ev dec E n) fn H0 k a p H=some r:=by
 unfold ga at hr ⊢;split at hr
 ·exact ⟨0,hr⟩
 ·split at hr
  ·split at hr
   ·rename_i he
    obtain ⟨n,hn⟩:=M.callDE_fin he;exact ⟨n,by rw [hn];exact hr⟩
   ·cases hr
  ·cases hr
theorem Ea{α:Type}{a:Env}{g:Option (Nat×Bool)}{u x:Option α}{y:Nat→Option α}{r:α}(h:x=some r→∃ n,y n=some r)(hr:iN a g u x=some r):∃ n,iN a g u (y n)=some r:=by
 unfold iN at hr ⊢;cases g with
 |none=>exact h hr
 |some g=>
  simp only [zM] at hr ⊢;split at hr
  ·rename_i b hb
   cases hc:(b == g.2)<;>rw [hc] at hr<;>simp only [sel] at hr ⊢
   ·exact ⟨0,hr⟩
   ·exact h hr
  ·exact ⟨0,hr⟩
  ·cases hr
theorem cE.stepR_fin(M:cE dec E){a:Env}{H:List AObj}{s:RS}{q:Out}(hs:rr E M.go a H s=some q):∃ n,rr E (ev dec E n) a H s=some q:=by
 unfold rr at hs ⊢;cases s with
 |op op=>exact ⟨0,hs⟩
 |call x args=>exact M.runV_fin hs
 |panic x=>exact ⟨0,hs⟩
 |inv x m args=>exact M.runV_fin hs
theorem cE.stepD_fin(M:cE dec E){a:Env}{H:List AObj}{b:Bool}{T L:List Nat}{c:Cl}{s:RS}{q:Db}(hs:qp dec E M.go a H b T L c s=some q):∃ n,qp dec E (ev dec E n) a H b T L c s=some q:=by
 unfold qp at hs ⊢;cases s with
 |op op=>exact ⟨0,hs⟩
 |call x args=>
  simp only at hs ⊢;unfold zN at hs ⊢;split at hs
  ·exact ⟨0,hs⟩
  ·cases hv:nk E M.go (rx a x) (args.map (rx a)) H with
   |none=>rw [hv] at hs;unfold oZ at hs;split at hs<;>rename_i he<;>first | (cases he;done) | (cases hs;done)
   |some q=>
    obtain ⟨n,hn⟩:=M.runV_fin hv;exact ⟨n,by simp only [hn];rw [← hv];exact hs⟩
 |panic x=>cases hs
 |inv x m args=>cases hs
theorem cE.panE_fin(M:cE dec E){c:Cl}{gd:Option (Nat×Bool)}{fn:AFn}{H0:List AObj}{k:List Fra}{a:Env}{T L:List Nat}{p:AV}{H:List AObj}{r:Out}(hr:Bt dec E M.go c gd fn H0 k a T L p H=some r):∃ n,Bt dec E (ev dec E n) c gd fn H0 k a T L p H=some r:=by
 cases c<;>simp only [Bt] at hr ⊢ <;> first | exact ⟨0,hr⟩ | skip
 split at hr
 ·split at hr
  ·rename_i he
   obtain ⟨n,hn⟩:=M.finPKE_fin hr;exact ⟨n,by simpa [he] using hn⟩
  ·cases hr
 ·cases hr
theorem cE.pnS_fin(M:cE dec E){fn:AFn}{H0:List AObj}{k:List Fra}{a:Env}{H:List AObj}{T L:List Nat}{o:RO}{c:Cl}{x:Option Out}{y:Nat→Option Out}(hx:∀ r,x=some r→∃ n,y n=some r)(hm:∀ n m,n≤m→∀ r,y n=some r→y m=some r){r:Out}
  (hr:pnS dec E M.go fn H0 k a H T L o c x=some r):∃ n,pnS dec E (ev dec E n) fn H0 k a H T L o c (y n)=some r:=by
 obtain ⟨d,gd,z⟩:=o;cases z with
 |call z args=>
  simp only [pnS] at hr ⊢;cases c<;>simp only [pnX] at hr ⊢ <;> first | exact hx r hr | skip
  all_goals
   cases gd with
   |some _=>exact hx r hr
   |none=>
    simp only at hr ⊢;cases hv:nk E M.go (rx a z) (args.map (rx a)) H with
    |none=>rw [hv] at hr;cases hr
    |some q=>
     rw [hv] at hr;obtain ⟨n1,h1⟩:=M.runV_fin hv;obtain ⟨q,H'⟩:=q;cases q with
     |ret v=>
      obtain ⟨n2,h2⟩:=hx r hr;refine ⟨max n1 n2, ?_⟩;rw [tE (jT (Nat.le_max_left n1 n2)) h1];exact hm _ _ (Nat.le_max_right n1 n2) r h2
     |panic p=>first
      |exact ⟨n1,by rw [h1];exact hr⟩
      |obtain ⟨n2,h2⟩:=M.panE_fin (c:=.last) (gd:=none) (show Bt dec E M.go .last none fn H0 k a T L p H'=some r from hr)
       refine ⟨max n1 n2, ?_⟩;rw [tE (jT (Nat.le_max_left n1 n2)) h1];exact It (c:=.last) (gd:=none) (jT (Nat.le_max_right n1 n2)) h2
 |_=>exact hx r hr
theorem cE.step(M:cE dec E)(fn:AFn)(H0:List AObj)(k:List Fra)(a:Env)(H:List AObj):M.go fn H0 k a H=fx dec E M.go fn H0 k a H:=by
 refine SE fun r=>⟨fun h => ?_,fun h => ?_⟩
 ·obtain ⟨n,hn⟩:=(M.spec _ _ _ _ _ _).1 h
  cases n with
  |zero=>cases hn
  |succ n=>rw [JE] at hn;exact F6 (M.le n) _ _ _ _ _ _ hn
 ·have tail:∀ {fn H0 k a H r},M.go fn H0 k a H=some r→∃ n,ev dec E n fn H0 k a H=some r:=fun h=>(M.spec _ _ _ _ _ _).1 h
  have back:(∃ n,fx dec E (ev dec E n) fn H0 k a H=some r)→M.go fn H0 k a H=some r:=fun ⟨n,hn⟩=>(M.spec _ _ _ _ _ _).2 ⟨n+1,by rw [JE];exact hn⟩
  apply back
  match k with
  |[]=>exact ⟨0,h⟩
  |.df x B::k=>
   simp only [fx,dfR] at h ⊢;split at h
   ·split at h
    ·rename_i hs;simp only [hs,if_true];exact tail h
    ·cases h
   ·cases h
  |.dr v::k=>
   simp only [fx,drR] at h ⊢;split at h
   ·exact ⟨0,h⟩
   ·exact M.finKE_fin h
  |.blk _::k=>exact tail h
  |.sc _::k=>exact tail h
  |.c (.lbl _)::k=>exact tail h
  |.c (.goto l)::k=>
   simp only [fx,Ei] at h ⊢;split at h
   ·exact tail h
   ·cases h
  |.c (.scope x t)::k=>exact tail h
  |.c (.tab ..)::k=>cases h
  |.c (.rfn x ps y z)::k=>
   simp only [fx,SD] at h ⊢;split at h
   ·split at h
    ·rename_i xs L hs
     split at h
     ·rename_i hb
      simp only [hb,if_true];unfold MG at h
      have key:∀ {k2 H2}{q:Option AC×List AObj},pq dec M.go (zH fn) ps y z a L H xs H=some q→M.go fn H0 k2 a H2=some r→(∀ f:Rec,f fn H0 k2 a H2=MG f fn H0 k a (some q))→∃ n,MG (ev dec E n) fn H0 k a (pq dec (ev dec E n) (zH fn) ps y z a L H xs H)=some r:=fun {k2 H2 q} h1 h2 h3=>by
       obtain ⟨n1,g1⟩:=M.rounds_fin _ _ _ h1;obtain ⟨n2,g2⟩:=tail h2;refine ⟨max n1 n2, ?_⟩;rw [rounds_mono (jT (Nat.le_max_left n1 n2)) _ _ _ g1,← h3];exact jT (Nat.le_max_right n1 n2) _ _ _ _ _ _ g2
      split at h
      ·rename_i he;exact key he h fun _=>rfl
      ·rename_i he;exact key he h fun _=>rfl
      ·cases h
     ·cases h
    ·cases h
   ·cases h
  |.lp lh x He::k=>
   simp only [fx,D9] at h ⊢;split at h
   ·rename_i he;exact tail h
   ·cases h
  |.c .skip::k=>exact tail h
  |.c (.exit id)::k=>
   simp only [fx,Ei] at h ⊢;split at h
   ·exact tail h
   ·exact ⟨0,h⟩
  |.c .ret::k=>exact M.finKE_fin h
  |.c (.seq x y)::k=>exact tail h
  |.c (.lv l)::k=>exact tail h
  |.c (.fz t l)::k=>
   simp only [fx,fzS] at h ⊢;split at h
   ·exact tail h
   ·cases h
  |.c .bad::k=>cases h
  |.c (.cond c x y)::k=>
   simp only [fx,D8] at h ⊢;split at h
   ·rename_i b he
    cases b<;>simp only [sel] at h ⊢ <;> exact tail h
   ·cases h
  |.c (.block id x)::k=>exact tail h
  |.c (.loop lh x)::k=>exact tail h
  |.c (.ops [])::k=>exact tail h
  |.c (.ops (o::os))::k=>
   simp only [fx] at h ⊢;cases hv:iN a o.g (some (.ret gH,H)) (rr E M.go a H o.s) with
   |none=>rw [hv] at h;cases h
   |some q=>
    rw [hv] at h;obtain ⟨n1,h1⟩:=Ea (y:=fun n=>rr E (ev dec E n) a H o.s) M.stepR_fin hv;have up:∀ m,n1≤m→iN a o.g (some (.ret gH,H)) (rr E (ev dec E m) a H o.s)=some q:=fun m hm=>px (fun r=>F5 (jT hm)) h1
    obtain ⟨q,H'⟩:=q;cases q with
    |ret v=>
     obtain ⟨n2,h2⟩:=tail h;refine ⟨max n1 n2, ?_⟩;rw [up _ (Nat.le_max_left _ _)];exact jT (Nat.le_max_right _ _) _ _ _ _ _ _ h2
    |panic v=>
     obtain ⟨n2,h2⟩:=M.finPKE_fin h;refine ⟨max n1 n2, ?_⟩;rw [up _ (Nat.le_max_left _ _)];exact zO (jT (Nat.le_max_right _ _)) h2
  |.c (.dops s T L [])::k=>
   simp only [fx,se] at h ⊢;split at h
   ·exact tail h
   ·cases h
  |.c (.dops s T L ((o,c)::l))::k=>
   simp only [fx] at h ⊢;refine M.pnS_fin (fun r h => ?_) (fun n m hnm r hr => ?_) h
   ·cases hv:iN a o.g (some (gH,H,T,L)) (qp dec E M.go a H s T L c o.s) with
    |none=>rw [hv] at h;cases h
    |some q=>
     rw [hv] at h;obtain ⟨n1,h1⟩:=Ea (y:=fun n=>qp dec E (ev dec E n) a H s T L c o.s) M.stepD_fin hv;have up:∀ m,n1≤m→iN a o.g (some (gH,H,T,L)) (qp dec E (ev dec E m) a H s T L c o.s)=some q:=fun m hm=>px (fun r=>Bw (jT hm)) h1
     obtain ⟨n2,h2⟩:=tail h;refine ⟨max n1 n2, ?_⟩;rw [up _ (Nat.le_max_left _ _)];exact jT (Nat.le_max_right _ _) _ _ _ _ _ _ h2
   ·cases hv:iN a o.g (some (gH,H,T,L)) (qp dec E (ev dec E n) a H s T L c o.s) with
    |none=>rw [hv] at hr;cases hr
    |some q=>
     rw [hv] at hr;rw [px (fun r=>Bw (jT hnm)) hv];exact jT hnm _ _ _ _ _ _ hr
def cE.run(M:cE dec E)(f:FuncId)(args:List AV)(H:List AObj):Option Out:=vY E M.go f args H
theorem cE.sound(M:cE dec E)(hE:E.Ok){f:FuncId}{args:List AV}{H:List AObj}{r:qh}{H':List AObj}(h:M.run f args H=some (r,H')):cT E.P E.G f args H fun r2 H2=>r2=r∧H2=H':=by
 have h1:∃ n,zI dec E n f args H=some (r,H'):=by
  unfold cE.run vY at h;unfold zI vY;split at h
  ·split at h<;>exact (M.spec _ _ _ _ _ _).1 h
  ·exact ⟨0,h⟩
 obtain ⟨n,hn⟩:=h1;exact (v7 (dec:=dec) hE n).2 f args H r H' hn
end
section
open Classical in
noncomputable def bT:Dec where
 frz H0 H v v':=if h:Bg H0 H v v' then .yes h else .no
 deep H0 H v:=if h:∃ v',Fz H0.length H v v'∧Bg H0 H v v' then some ⟨Classical.choose h,(Classical.choose_spec h).2⟩ else none
 hand H0 H v:=if h:dP H0 H∧Wk H0.length v (yH v) then .yes h else .no
 back He H a l:=if h:dP He H∧∀ t∈l,Wk He.length (dR a t) (dR a t) then .yes h else .no
 ap T L:=if h:apart T L then .yes h else .no
 wide E g args H v H':=if h:H'=H∧Cm E g args v then .yes h else .no
 same H H':=if h:H'=H then .yes h else .no
 keep H H':=if h:H'.take H.length=H then .yes h else .no
 ids L H H':=if h:∀ id∈L,id<H.length→H'[id]?=H[id]? then .yes h else .no
 turn H H':=if h:H.length≤H'.length then some ⟨(List.range H.length).filter fun i=>decide (H'[i]?≠H[i]?),h,fun i hi hn=>by
  by_cases e:H'[i]?=H[i]?
  ·exact e
  ·exact absurd (List.mem_filter.2 ⟨List.mem_range.2 hi,by simpa using e⟩) hn⟩ else none
 fzp n H v:=if h:∃ v',Fz n H v v'∧ND n H v v' then some ⟨Classical.choose h,(Classical.choose_spec h).2⟩ else none
theorem Qi{H0 H:List AObj}{v v':AV}(h:Bg H0 H v v'):bT.frz H0 H v v' = .yes h:=dif_pos h
theorem OE{H0 H:List AObj}{v:AV}(h1:dP H0 H)(h2:Wk H0.length v (yH v)):bT.hand H0 H v = .yes ⟨h1,h2⟩:=dif_pos (⟨h1,h2⟩:_∧_)
theorem OF{He H:List AObj}{a:Env}{l:List Nat}(h1:dP He H)(h2:∀ t∈l,Wk He.length (dR a t) (dR a t)):bT.back He H a l = .yes ⟨h1,h2⟩:=dif_pos (⟨h1,h2⟩:_∧_)
theorem Cu{T L:List Nat}(h:apart T L):bT.ap T L = .yes h:=dif_pos h
theorem OG{E:bc}{g:FuncId}{args:List AV}{H:List AObj}{v:AV}{H':List AObj}(h1:H'=H)(h2:Cm E g args v):bT.wide E g args H v H' = .yes ⟨h1,h2⟩:=dif_pos (⟨h1,h2⟩:_∧_)
theorem Iu{H H':List AObj}(h:H'.take H.length=H):bT.keep H H' = .yes h:=dif_pos h
def Cv{α β:Type}(o:Option α)(x y:β):β:=
 match o with
 |none=>x
 |some _=>y
theorem dsel_none{α β:Type}(x y:β):Cv (none:Option α) x y=x:=rfl
theorem dsel_some{α β:Type}(o:α)(x y:β):Cv (some o) x y=y:=rfl
theorem aw{α β:Type}{o o':Option α}{x y:β}(h:o=o'):Cv o x y=Cv o' x y:=by rw [h]
def K6(dec:Dec)(fn:AFn)(H0:List AObj)(a:Env)(r:Option (List AObj)):Option Out:=
 match r with
 |some H=>fin dec fn H0 a H
 |none=>none
def F7(dec:Dec)(E:bc)(f:Rec)(fn:AFn)(H0:List AObj)(a:Env)(p:AV)(H:List AObj)(v:Option AV):Option Out:=
 match v with
 |some v=>K6 dec fn H0 a (mJ E f v p H)
 |none=>none
def K7(dec:Dec)(E:bc)(f:Rec)(fn:AFn)(H0:List AObj)(a:Env)(H:List AObj)(v:Option AV):Option Out:=
 match v with
 |some .nilp=>some (.ret (.bool true),H)
 |none=>fin dec fn H0 a H
 |v=>F7 dec E f fn H0 a .nilif H v
theorem dfinK_nil(dec:Dec)(E:bc)(f:Rec)(fn:AFn)(H0:List AObj)(a:Env)(H:List AObj):K7 dec E f fn H0 a H (some .nilp)=some (.ret (.bool true),H):=rfl
theorem dfinK_fn(dec:Dec)(E:bc)(f:Rec)(fn:AFn)(H0:List AObj)(a:Env)(H:List AObj)(g:Fn)(x y:List AV):K7 dec E f fn H0 a H (some (.fn g x y))=F7 dec E f fn H0 a .nilif H (some (.fn g x y)):=rfl
theorem SF(dec:Dec)(E:bc)(f:Rec)(fn:AFn)(H0:List AObj)(k:List Fra)(a:Env)(H:List AObj):pr dec E f fn H0 k a H=Cv fn.dfr (fin dec fn H0 a H) (K7 dec E f fn H0 a H (kA k)):=by
 unfold pr;cases fn.dfr with
 |none=>rfl
 |some x=>
  simp only [Cv,K7];cases kA k with
  |none=>rfl
  |some v=>cases v<;>simp only [F7,K6]<;>split<;>simp_all
theorem K8(dec:Dec)(E:bc)(f:Rec)(fn:AFn)(H0:List AObj)(k:List Fra)(a:Env)(p:AV)(H:List AObj):ga dec E f fn H0 k a p H=Cv fn.dfr (Cn dec fn H0 p H) (F7 dec E f fn H0 a p H (kA k)):=by
 unfold ga;cases fn.dfr with
 |none=>rfl
 |some x=>
  simp only [Cv,F7];cases kA k with
  |none=>rfl
  |some v=>simp only [K6];cases mJ E f v p H<;>rfl
section
variable{dec:Dec}{E:bc}(M:cE dec E)(fn:AFn)(H0:List AObj)(k:List Fra)(a:Env)(H:List AObj)
theorem go_nil:M.go fn H0 [] a H=Cv fn.dfr (fin dec fn H0 a H) none:=by rw [M.step,fx,emR];cases fn.dfr<;>rfl
theorem go_blk(id:Nat):M.go fn H0 (.blk id::k) a H=M.go fn H0 k a H:=M.step _ _ _ _ _
theorem go_lp(h:LH)(x:AC)(He:List AObj):M.go fn H0 (.lp h x He::k) a H=D9 M.go fn H0 h x k (pn dec h He a H):=M.step _ _ _ _ _
theorem go_skip:M.go fn H0 (.c .skip::k) a H=M.go fn H0 k a H:=M.step _ _ _ _ _
theorem go_exit(id:Nat):M.go fn H0 (.c (.exit id)::k) a H=Ei M.go fn H0 a H (Qf id k H) (unw id k):=M.step _ _ _ _ _
theorem go_sc(t:AC):M.go fn H0 (.sc t::k) a H=M.go fn H0 k a H:=M.step _ _ _ _ _
theorem go_lbl(l:Nat):M.go fn H0 (.c (.lbl l)::k) a H=M.go fn H0 k a H:=M.step _ _ _ _ _
theorem go_goto(l:Nat):M.go fn H0 (.c (.goto l)::k) a H=Ei M.go fn H0 a H none (jmp l k):=M.step _ _ _ _ _
theorem go_scope(x t:AC):M.go fn H0 (.c (.scope x t)::k) a H=M.go fn H0 (.c x :: .sc t::k) a H:=M.step _ _ _ _ _
theorem go_rfn(x:RX)(ps:List Nat)(y:List (List RO))(z:AC):M.go fn H0 (.c (.rfn x ps y z)::k) a H=SD dec E M.go fn H0 ps y z k a H (rx a x) fn.dfr:=M.step _ _ _ _ _
theorem go_rnd:M.go fn H0 (.dr .nilp::k) a H=some (.ret .nilp,H):=M.step _ _ _ _ _
theorem go_ret:M.go fn H0 (.c .ret::k) a H=Cv fn.dfr (fin dec fn H0 a H) (K7 dec E M.go fn H0 a H (kA k)):=by rw [M.step];exact SF _ _ _ _ _ _ _ _
theorem go_seq(x y:AC):M.go fn H0 (.c (.seq x y)::k) a H=M.go fn H0 (.c x :: .c y::k) a H:=M.step _ _ _ _ _
theorem go_lv(l:List Nat):M.go fn H0 (.c (.lv l)::k) a H=M.go fn H0 k (pj a l) H:=M.step _ _ _ _ _
theorem go_fz(t:Nat)(l:List Nat):M.go fn H0 (.c (.fz t l)::k) a H=fzS M.go fn H0 k (fzR dec t l a H):=M.step _ _ _ _ _
theorem go_cond(c:RX)(x y:AC):M.go fn H0 (.c (.cond c x y)::k) a H=D8 M.go fn H0 x y k a H (rx a c):=M.step _ _ _ _ _
theorem go_block(id:Nat)(x:AC):M.go fn H0 (.c (.block id x)::k) a H=M.go fn H0 (.c x :: .blk id::k) a H:=M.step _ _ _ _ _
theorem go_loop(h:LH)(x:AC):M.go fn H0 (.c (.loop h x)::k) a H=inR M.go fn H0 h x k (po h a H):=M.step _ _ _ _ _
theorem go_ops0:M.go fn H0 (.c (.ops [])::k) a H=M.go fn H0 k a H:=M.step _ _ _ _ _
theorem go_op(d:Option Nat)(op:ROp)(os:List RO):M.go fn H0 (.c (.ops (⟨d,none,.op op⟩::os))::k) a H=aft dec E M.go fn H0 os k a d (SC (rop a H op)):=M.step _ _ _ _ _
theorem go_opg(d:Option Nat)(t:Nat)(w:Bool)(s:RS)(os:List RO):M.go fn H0 (.c (.ops (⟨d,some (t,w),s⟩::os))::k) a H=aft dec E M.go fn H0 os k a d (zM (dR a t) w (rr E M.go a H s) (some (.ret gH,H))):=M.step _ _ _ _ _
theorem go_call(d:Option Nat)(f:RX)(args:List RX)(os:List RO):M.go fn H0 (.c (.ops (⟨d,none,.call f args⟩::os))::k) a H=aft dec E M.go fn H0 os k a d (nk E M.go (rx a f) (args.map (rx a)) H):=M.step _ _ _ _ _
theorem go_inv(d:Option Nat)(x:RX)(m:String)(args:List RX)(os:List RO):M.go fn H0 (.c (.ops (⟨d,none,.inv x m args⟩::os))::k) a H=aft dec E M.go fn H0 os k a d (nk E M.go (Mu E (rx a x) m) (args.map (rx a)) H):=M.step _ _ _ _ _
theorem go_panic(d:Option Nat)(x:RX)(os:List RO):M.go fn H0 (.c (.ops (⟨d,none,.panic x⟩::os))::k) a H=aft dec E M.go fn H0 os k a d (OB (rx a x) H):=M.step _ _ _ _ _
theorem go_dops0(s:Bool)(T L:List Nat):M.go fn H0 (.c (.dops s T L [])::k) a H=se dec T L (M.go fn H0 k a H):=M.step _ _ _ _ _
theorem go_dop(s:Bool)(T L:List Nat)(d:Option Nat)(op:ROp)(c:Cl)(l:List (RO×Cl)):M.go fn H0 (.c (.dops s T L ((⟨d,none,.op op⟩,c)::l))::k) a H=Cs M.go fn H0 s l k a d (OC (rop a H op) (nB s c a op T L)):=M.step _ _ _ _ _
theorem go_dopg(s:Bool)(T L:List Nat)(d:Option Nat)(t:Nat)(w:Bool)(x:RS)(c:Cl)(l:List (RO×Cl)):M.go fn H0 (.c (.dops s T L ((⟨d,some (t,w),x⟩,c)::l))::k) a H=Cs M.go fn H0 s l k a d (zM (dR a t) w (qp dec E M.go a H s T L c x) (some (gH,H,T,L))):=by
 rw [M.step];cases x<;>first | rfl | (cases c<;>rfl)
theorem go_dcall(s:Bool)(T L:List Nat)(d:Option Nat)(f:RX)(args:List RX)(l:List (RO×Cl)):(M.go fn H0 (.c (.dops s T L ((⟨d,none,.call f args⟩,.pure)::l))::k) a H=Cs M.go fn H0 s l k a d (zN (iC E .pure (rx a f) (args.map (rx a)) H) H T L <| oZ dec E .pure (rx a f) (args.map (rx a)) H T L (nk E M.go (rx a f) (args.map (rx a)) H))) ∧
  (M.go fn H0 (.c (.dops s T L ((⟨d,none,.call f args⟩,.quiet)::l))::k) a H=Cs M.go fn H0 s l k a d (zN (iC E .quiet (rx a f) (args.map (rx a)) H) H T L <| oZ dec E .quiet (rx a f) (args.map (rx a)) H T L (nk E M.go (rx a f) (args.map (rx a)) H))) ∧
  (M.go fn H0 (.c (.dops s T L ((⟨d,none,.call f args⟩,.wide)::l))::k) a H=Cs M.go fn H0 s l k a d (zN (iC E .wide (rx a f) (args.map (rx a)) H) H T L <| oZ dec E .wide (rx a f) (args.map (rx a)) H T L (nk E M.go (rx a f) (args.map (rx a)) H))) ∧
  (M.go fn H0 (.c (.dops s T L ((⟨d,none,.call f args⟩,.keep)::l))::k) a H=Cs M.go fn H0 s l k a d (zN (iC E .keep (rx a f) (args.map (rx a)) H) H T L <| oZ dec E .keep (rx a f) (args.map (rx a)) H T L (nk E M.go (rx a f) (args.map (rx a)) H))) ∧
  (M.go fn H0 (.c (.dops s T L ((⟨d,none,.call f args⟩,.turn)::l))::k) a H=Cs M.go fn H0 s l k a d (zN (iC E .turn (rx a f) (args.map (rx a)) H) H T L <| oZ dec E .turn (rx a f) (args.map (rx a)) H T L (nk E M.go (rx a f) (args.map (rx a)) H))) ∧
  (M.go fn H0 (.c (.dops s T L ((⟨d,none,.call f args⟩,.eff)::l))::k) a H=Cs M.go fn H0 s l k a d (zN (iC E .eff (rx a f) (args.map (rx a)) H) H T L <| oZ dec E .eff (rx a f) (args.map (rx a)) H T L (nk E M.go (rx a f) (args.map (rx a)) H))) ∧
  (M.go fn H0 (.c (.dops s T L ((⟨d,none,.call f args⟩,.stop)::l))::k) a H=pnR dec fn H0 T L (nk E M.go (rx a f) (args.map (rx a)) H) (Cs M.go fn H0 s l k a d (zN (iC E .stop (rx a f) (args.map (rx a)) H) H T L <| oZ dec E .stop (rx a f) (args.map (rx a)) H T L (nk E M.go (rx a f) (args.map (rx a)) H)))) ∧
  (M.go fn H0 (.c (.dops s T L ((⟨d,none,.call f args⟩,.last)::l))::k) a H=pnL dec E M.go fn H0 k a T L (nk E M.go (rx a f) (args.map (rx a)) H) (Cs M.go fn H0 s l k a d (zN (iC E .last (rx a f) (args.map (rx a)) H) H T L <| oZ dec E .last (rx a f) (args.map (rx a)) H T L (nk E M.go (rx a f) (args.map (rx a)) H)))):=
 ⟨M.step _ _ _ _ _,M.step _ _ _ _ _,M.step _ _ _ _ _,M.step _ _ _ _ _,M.step _ _ _ _ _,M.step _ _ _ _ _,M.step _ _ _ _ _,M.step _ _ _ _ _⟩
theorem stepR_op(op:ROp):rr E M.go a H (.op op)=SC (rop a H op):=rfl
theorem stepR_call(f:RX)(args:List RX):rr E M.go a H (.call f args)=nk E M.go (rx a f) (args.map (rx a)) H:=rfl
theorem stepR_inv(x:RX)(m:String)(args:List RX):rr E M.go a H (.inv x m args)=nk E M.go (Mu E (rx a x) m) (args.map (rx a)) H:=rfl
theorem stepR_panic(x:RX):rr E M.go a H (.panic x)=OB (rx a x) H:=rfl
theorem stepD_op(s:Bool)(T L:List Nat)(c:Cl)(op:ROp):qp dec E M.go a H s T L c (.op op)=OC (rop a H op) (nB s c a op T L):=rfl
theorem stepD_call(s:Bool)(T L:List Nat)(c:Cl)(f:RX)(args:List RX):qp dec E M.go a H s T L c (.call f args)=(zN (iC E c (rx a f) (args.map (rx a)) H) H T L <| oZ dec E c (rx a f) (args.map (rx a)) H T L (nk E M.go (rx a f) (args.map (rx a)) H)):=rfl
theorem SG(os:List RO)(d:Option Nat)(v:AV):aft dec E M.go fn H0 os k a d (some (.ret v,H))=M.go fn H0 (.c (.ops os)::k) (iz a d v) H:=rfl
theorem aft_panic(os:List RO)(d:Option Nat)(v:AV):aft dec E M.go fn H0 os k a d (some (.panic v,H))=Cv fn.dfr (Cn dec fn H0 v H) (F7 dec E M.go fn H0 a v H (kA k)):=K8 _ _ _ _ _ _ _ _ _
theorem aftD_some(s:Bool)(l:List (RO×Cl))(d:Option Nat)(v:AV)(T L:List Nat):Cs M.go fn H0 s l k a d (some (v,H,T,L))=M.go fn H0 (.c (.dops s T L l)::k) (iz a d v) H:=rfl
theorem condR_bool(x y:AC)(b:Bool):D8 M.go fn H0 x y k a H (.bool b)=sel b (M.go fn H0 (.c x::k) a H) (M.go fn H0 (.c y::k) a H):=rfl
theorem unwR_some(j:Option Out)(k':List Fra):Ei M.go fn H0 a H j (some k')=M.go fn H0 k' a H:=rfl
theorem unwR_none(j:Option Out):Ei M.go fn H0 a H j none=j:=rfl
theorem jmp_c(l:Nat)(x:AC)(k:List Fra):jmp l (.c x::k)=jmp l k:=rfl
theorem jmp_lp(l:Nat)(h:LH)(x:AC)(He:List AObj)(k:List Fra):jmp l (.lp h x He::k)=jmp l k:=rfl
theorem jmp_blk(l i:Nat)(k:List Fra):jmp l (.blk i::k)=jmp l k:=rfl
def Uy(t:AC)(k:List Fra)(r:Option AC):Option (List Fra):=
 match r with
 |some r=>some (.c r :: .sc t::k)
 |none=>none
theorem Uz(l:Nat)(t:AC)(k:List Fra):jmp l (.sc t::k)=Uy t k (sX t l):=by
 simp only [jmp,Uy];cases sX t l<;>rfl
theorem jmpT_some(t:AC)(k:List Fra)(r:AC):Uy t k (some r)=some (.c r :: .sc t::k):=rfl
theorem unw_sc(i:Nat)(t:AC)(k:List Fra):unw i (.sc t::k)=unw i k:=rfl
theorem findT_same(l:Nat)(r t:AC):sX (.tab l r t) l=some r:=by simp [sX]
theorem rfnC_none:MG M.go fn H0 k a (some (none,H))=M.go fn H0 k a H:=rfl
theorem rfnC_some(j:AC):MG M.go fn H0 k a (some (some j,H))=M.go fn H0 (.c j::k) a H:=rfl
theorem backR_some(h:LH)(x:AC)(a':Env)(H':List AObj):D9 M.go fn H0 h x k (some (a',H'))=M.go fn H0 (.c x :: .lp h x H'::k) a' H':=rfl
theorem fzS_some(a':Env)(H':List AObj):fzS M.go fn H0 k (some (a',H'))=M.go fn H0 k a' H':=rfl
theorem inR_mk(h:LH)(x:AC)(a':Env)(H':List AObj):inR M.go fn H0 h x k (a',H')=M.go fn H0 (.c x :: .lp h x H'::k) a' H':=rfl
theorem SH(g:FuncId)(first cap args:List AV):nk E M.go (.fn (.func g) first cap) args H=M.run g (first++args++cap) H:=rfl
theorem UA{f:FuncId}{fn:AFn}(hf:E.fn f=some fn)(hd:fn.dfr=none)(args:List AV)(H:List AObj):M.run f args H=M.go fn H [.c fn.c] (env args) H:=by
 unfold cE.run vY;rw [hf];simp only [hd]
theorem AN{f:FuncId}(hf:E.fn f=none)(args:List AV)(H:List AObj):M.run f args H=E.orc f args H:=by
 unfold cE.run vY;rw [hf]
theorem retO_some(v:AV)(H:List AObj):SC (some (v,H))=some (.ret v,H):=rfl
theorem ronly_mk(v:AV)(H:List AObj):bH H (some v)=some (v,H):=rfl
theorem runit_mk(H:List AObj):Ce (some H)=some (gH,H):=rfl
theorem gsel_bool{α:Type}(b w:Bool)(x u:Option α):zM (.bool b) w x u=sel (b == w) x u:=rfl
theorem MH{α:Type}(vs:List AV)(w:Bool)(x u:Option α):zM (.tuple vs) w x u=u:=rfl
theorem gsel_undef{α:Type}(w:Bool)(x u:Option α):zM gH w x u=u:=rfl
theorem gsel_sel{α:Type}(b w:Bool)(v v':AV)(x u:Option α):zM (sel b v v') w x u=sel b (zM v w x u) (zM v' w x u):=by cases b<;>rfl
theorem pnR_ret(dec:Dec)(fn:AFn)(H0:List AObj)(T L:List Nat)(v:AV)(H:List AObj)(x:Option Out):pnR dec fn H0 T L (some (.ret v,H)) x=x:=rfl
theorem pnR_pan(dec:Dec)(fn:AFn)(H0:List AObj)(T L:List Nat)(p:AV)(H:List AObj)(x:Option Out):pnR dec fn H0 T L (some (.panic p,H)) x=Mw dec .stop none fn H0 T L p H:=rfl
theorem panD_e(fn:AFn)(H0:List AObj)(L:List Nat)(p:AV)(H:List AObj):Mw bT .stop none fn H0 [] L p H=Cv fn.dfr (Cn bT fn H0 p H) none:=by
 unfold Mw;cases fn.dfr with
 |none=>simp only [Cv,Cu (show apart [] L from fun x _ hx=>by cases hx)]
 |some _=>rfl
theorem n9(dec:Dec)(f:Rec)(fn:AFn)(H0:List AObj)(k:List Fra)(a:Env)(T L:List Nat)(v:AV)(H:List AObj)(x:Option Out):pnL dec E f fn H0 k a T L (some (.ret v,H)) x=x:=rfl
theorem oa(f:Rec)(fn:AFn)(H0:List AObj)(k:List Fra)(a:Env)(L:List Nat)(p:AV)(H:List AObj)(x:Option Out):pnL bT E f fn H0 k a [] L (some (.panic p,H)) x=Cv fn.dfr (Cn bT fn H0 p H) (F7 bT E f fn H0 a p H (kA k)):=by
 show Bt bT E f .last none fn H0 k a [] L p H=_;unfold Bt;simp only [Cu (show apart [] L from fun x _ hx=>by cases hx)];exact K8 _ _ _ _ _ _ _ _ _
theorem aW{dec:Dec}{fn:AFn}{H0:List AObj}{T L:List Nat}{r r':Option Out}{x:Option Out}(hr:r=r'):pnR dec fn H0 T L r x=pnR dec fn H0 T L r' x:=by rw [hr]
theorem dynW_none(H:List AObj)(T L:List Nat)(r:Option Db):zN none H T L r=r:=rfl
theorem dynW_some(H:List AObj)(T L:List Nat)(v:AV)(L1:List Nat)(r:Option Db):zN (some (v,L1)) H T L r=some (v,H,T,L1++L):=rfl
theorem dynV_some(v:AV)(H:List AObj)(T L:List Nat):OC (some (v,H)) (some (T,L))=some (v,H,T,L):=rfl
theorem sel_true{α:Type}(x y:α):sel true x y=x:=rfl
theorem sel_false{α:Type}(x y:α):sel false x y=y:=rfl
theorem sel_self{α:Type}(b:Bool)(x:α):sel b x x=x:=by cases b<;>rfl
theorem sel_some{α:Type}(b:Bool)(x y:α):sel b (some x) (some y)=some (sel b x y):=by cases b<;>rfl
theorem Qj{α β:Type}(b:Bool)(x x':α)(y y':β):sel b (x,y) (x',y')=(sel b x x',sel b y y'):=by cases b<;>rfl
theorem sel_ret(b:Bool)(v v':AV):sel b (qh.ret v) (qh.ret v') = .ret (sel b v v'):=by cases b<;>rfl
theorem sel_bool(b p q:Bool):sel b (AV.bool p) (AV.bool q) = .bool (sel b p q):=by cases b<;>rfl
theorem sel_not{α:Type}(b:Bool)(x y:α):sel (!b) x y=sel b y x:=by cases b<;>rfl
theorem sel_and{α:Type}(b p:Bool)(x y:α):sel b (sel p x y) y=sel (b&&p) x y:=by cases b<;>cases p<;>rfl
theorem sel_b1(b p:Bool):sel b p false=(b&&p):=by cases b<;>rfl
theorem sel_b2(b p:Bool):sel b true p=(b||p):=by cases b<;>rfl
theorem sel_b3(b p:Bool):sel b p true=(!b||p):=by cases b<;>rfl
theorem sel_b4(b p:Bool):sel b false p=(!b&&p):=by cases b<;>rfl
theorem tF{α:Type}{b b':Bool}{x x' y y':α}(hb:b=b')(hx:b'=true→x=x')(hy:b'=false→y=y'):sel b x y=sel b' x' y':=by
 subst hb;cases b
 ·exact hy rfl
 ·exact hx rfl
theorem aA{α:Type}{v v':AV}{w:Bool}{x u:Option α}(h:v=v'):zM v w x u=zM v' w x u:=by rw [h]
theorem bf{fn:AFn}{H0:List AObj}{k:List Fra}{a a':Env}{H H':List AObj}(ha:a=a')(hH:H=H'):M.go fn H0 k a H=M.go fn H0 k a' H':=by rw [ha,hH]
theorem aM{f:Rec}{fn:AFn}{H0:List AObj}{os:List RO}{k:List Fra}{a:Env}{d:Option Nat}{r r':Option Out}(hr:r=r'):aft dec E f fn H0 os k a d r=aft dec E f fn H0 os k a d r':=by rw [hr]
theorem aC{f:Rec}{fn:AFn}{H0:List AObj}{s:Bool}{l:List (RO×Cl)}{k:List Fra}{a:Env}{d:Option Nat}{r r':Option Db}(hr:r=r'):Cs f fn H0 s l k a d r=Cs f fn H0 s l k a d r':=by rw [hr]
theorem ao{f:Rec}{fn:AFn}{H0:List AObj}{x y:AC}{k:List Fra}{a:Env}{H:List AObj}{c c':AV}(hc:c=c'):D8 f fn H0 x y k a H c=D8 f fn H0 x y k a H c':=by rw [hc]
theorem aq{f:Rec}{fn:AFn}{H0:List AObj}{h:LH}{x:AC}{k:List Fra}{r r':Option (Env×List AObj)}(hr:r=r'):D9 f fn H0 h x k r=D9 f fn H0 h x k r':=by rw [hr]
theorem aN{f:Rec}{fn:AFn}{H0:List AObj}{h:LH}{x:AC}{k:List Fra}{r r':Env×List AObj}(hr:r=r'):inR f fn H0 h x k r=inR f fn H0 h x k r':=by rw [hr]
theorem aput_some(n:Nat)(v:AV):iz a (some n) v=mE a n v:=rfl
theorem aput_none(v:AV):iz a none v=a:=rfl
theorem WB(n:Nat):rx a (.t n)=dR a n:=rfl
theorem rx_c(v:AV):rx a (.c v)=v:=rfl
def rpk(c x y:AV):Option AV:=
 match c with
 |.bool b=>some (sel b x y)
 |_=>none
theorem rpk_bool(b:Bool)(x y:AV):rpk (.bool b) x y=some (sel b x y):=rfl
theorem rop_pk(c x y:RX):rop a H (.pk c x y)=bH H (rpk (rx a c) (rx a x) (rx a y)):=by
 simp only [rop,rpk];cases rx a c<;>try rfl
 rename_i b;cases b<;>rfl
theorem rop_mv(x:RX):rop a H (.mv x)=some (rx a x,H):=rfl
end
def at2(b:Bool)(x y:AV):AV:=
 match b with
 |true=>x
 |false=>y
theorem at2_true(x y:AV):at2 true x y=x:=rfl
theorem at2_false(x y:AV):at2 false x y=y:=rfl
theorem aO{b b':Bool}{x y:AV}(h:b=b'):at2 b x y=at2 b' x y:=by rw [h]
theorem fget_at(a:Env)(n m:Nat)(v:AV):dR (mE a n v) m=at2 (m == n) v (dR a m):=by
 rw [jV]
 by_cases h:m=n
 ·subst h;simp [at2]
 ·have:(m == n)=false:=by simpa using h
  rw [if_neg h,this];rfl
theorem aP{dec:Dec}{E:bc}(M:cE dec E){f:FuncId}{fn:AFn}{c:AC}(hf:E.fn f=some fn)(hd:fn.dfr=none)(hc:fn.c=c)(args:List AV)(H:List AObj):M.run f args H=M.go fn H [.c c] (env args) H:=by
 rw [UA M hf hd,hc]
def UB(x:Option (AV×List AObj)):Option Out:=
 match x with
 |some (v,H)=>some (.ret v,H)
 |none=>none
def VV(x:Option (AV×List AObj)):Option Out:=
 match x with
 |some (v,H)=>some (.panic v,H)
 |none=>none
def Qk(dec:Dec)(m:RM)(H0 H:List AObj)(x:Option AV):Option (AV×List AObj):=
 match x with
 |some v=>nA dec m H0 H v
 |none=>none
theorem fin_e(dec:Dec)(fn:AFn)(H0:List AObj)(a:Env)(H:List AObj):fin dec fn H0 a H=UB (Qk dec fn.mode H0 H (FJ a H fn.res)):=by
 unfold fin UB Qk;cases FJ a H fn.res with
 |none=>rfl
 |some v=>rfl
theorem finP_e(dec:Dec)(fn:AFn)(H0:List AObj)(v:AV)(H:List AObj):Cn dec fn H0 v H=VV (nA dec fn.mode H0 H v):=rfl
theorem finV_some(v:AV)(H:List AObj):UB (some (v,H))=some (.ret v,H):=rfl
theorem finW_some(v:AV)(H:List AObj):VV (some (v,H))=some (.panic v,H):=rfl
theorem MI(dec:Dec)(m:RM)(H0 H:List AObj)(v:AV):Qk dec m H0 H (some v)=nA dec m H0 H v:=rfl
theorem handV_keep(dec:Dec)(H0 H:List AObj)(v:AV):nA dec .keep H0 H v=some (v,H):=rfl
theorem handV_drop{H0 H:List AObj}{v:AV}(h1:dP H0 H)(h2:Wk H0.length v (yH v)):nA bT .drop H0 H v=some (yH v,H.take H0.length):=by
 unfold nA;simp only [OE h1 h2]
theorem rres_one(a:Env)(H:List AObj)(r:uy):FJ a H [r]=vX a H r:=rfl
theorem rres1_t(a:Env)(H:List AObj)(n:Nat):vX a H (.t n)=some (dR a n):=rfl
theorem rres1_cell(a:Env)(H:List AObj)(x:Nat)(g:Option Nat):vX a H (.cell x g)=nj g H (dR a x):=rfl
def Ql(x:Option AV)(l:Option (List AV)):Option (List AV):=
 match x,l with
 |some v,some l=>some (v::l)
 |_,_=>none
def VW(l:Option (List AV)):Option AV:=
 match l with
 |some l=>some (.tuple l)
 |none=>none
theorem consO_some(v:AV)(l:List AV):Ql (some v) (some l)=some (v::l):=rfl
theorem tupO_some(l:List AV):VW (some l)=some (.tuple l):=rfl
theorem rresL_nil(a:Env)(H:List AObj):uX a H []=some []:=rfl
theorem rresL_cons(a:Env)(H:List AObj)(r:uy)(l:List uy):uX a H (r::l)=Ql (vX a H r) (uX a H l):=by
 simp only [uX,Ql];cases vX a H r<;>cases uX a H l<;>rfl
theorem rres_two(a:Env)(H:List AObj)(r r':uy)(l:List uy):FJ a H (r::r'::l)=VW (uX a H (r::r'::l)):=rfl
theorem OH(a:Env)(H:List AObj):FJ a H []=some (.tuple []):=rfl
theorem cut_refl(H:List AObj):dP H H:=⟨Nat.le_refl _,fun _ _ _ h=>.inl h⟩
theorem cut_app(H L:List AObj):dP H (H++L):=⟨by simp,fun i x hi h=>.inl (by rwa [List.getElem?_append_left hi] at h)⟩
theorem uZ{n:Nat}{v v':AV}(h:∀ (K K':ak) (x:Value),V K v x→V K' v' x):Wk n v v':=fun K x _ hv=>h K _ x hv
theorem wk_int(n:Nat)(k:IntKind)(i:Int):Wk n (.int k i) (.int k i):=uZ fun _ _ _ h=>by cases h;exact .int _ _
theorem wk_bool(n:Nat)(b:Bool):Wk n (.bool b) (.bool b):=uZ fun _ _ _ h=>by cases h;exact .bool _
theorem wk_str(n:Nat)(s:List UInt8):Wk n (.str s) (.str s):=uZ fun _ _ _ h=>by cases h;exact .str _
theorem wk_unk(n:Nat):Wk n .unk .unk:=uZ fun _ _ _ _=>.unk _
theorem wk_nilp(n:Nat):Wk n .nilp .nilp:=uZ fun _ _ _ h=>by cases h;exact .nilp
theorem wk_nilif(n:Nat):Wk n .nilif .nilif:=uZ fun _ _ _ h=>by cases h;exact .nilif
theorem wk_nilfn(n:Nat):Wk n .nilfn .nilfn:=uZ fun _ _ _ h=>by cases h;exact .nilfn
theorem OI(n:Nat):Wk n .nilmap .nilmap:=uZ fun _ _ _ h=>by cases h;exact .nilmap
section
variable(a:Env)(H:List AObj)
theorem rop_nw(cs:List AV)(e:TypeId):rop a H (.nw cs e)=some (.ptr H.length 0,H++[.cells cs e]):=rfl
theorem rop_bd(z:List AV)(pl:List (Nat×Nat))(ps:List (Nat×RX)):rop a H (.bd z pl ps)=bH H ((jd (pl[·]?) z (ps.map fun p=>(p.1,rx a p.2))).map .agg):=rfl
theorem rop_bs(sz:Nat)(z:List AV)(len:Nat)(ps:List (Nat×RX)):rop a H (.bs sz z len ps)=bH H ((jd (fun i=>some (i*sz,sz)) (zo len z) (ps.map fun p=>(p.1,rx a p.2))).map fun cs=>.slice .full sz (vR sz len (cs.map AV.strip))):=rfl
theorem rop_ld(g:Option Nat)(x:RX):rop a H (.ld g x)=bH H (nj g H (rx a x)):=rfl
theorem rop_st(sz:Nat)(x v:RX):rop a H (.st sz x v)=Ce (C3 sz H (rx a x) (rx a v)):=rfl
theorem rop_ar(op:BinOp)(x y:RX):rop a H (.ar op x y)=bH H (rar op (rx a x) (rx a y)):=rfl
theorem rop_sh(op:BinOp)(x y:RX):rop a H (.sh op x y)=bH H (rsh op (rx a x) (rx a y)):=rfl
theorem rop_an(x y:RX):rop a H (.an x y)=bH H (ran (rx a x) (rx a y)):=rfl
theorem rop_eq(neg:Bool)(k:EK)(x y:RX):rop a H (.eq neg k x y)=bH H ((req k (rx a x) (rx a y)).map fun b=>.bool (if neg then !b else b)):=rfl
theorem rop_un(op:UnOp)(x:RX):rop a H (.un op x)=bH H (Ib op (rx a x)):=rfl
theorem rop_cvi(k:IntKind)(x:RX):rop a H (.cvi k x)=bH H (Uk k (rx a x)):=rfl
theorem rop_cvs(x:RX):rop a H (.cvs x)=bH H (Ul (rx a x)):=rfl
theorem rop_cvbs(x:RX):rop a H (.cvbs x)=bH H (KA H (rx a x)):=rfl
theorem rop_cvsr(x:RX):rop a H (.cvsr x)=bH H (Nu (rx a x)):=rfl
theorem rop_cvrs(x:RX):rop a H (.cvrs x)=bH H (Nv (rx a x)):=rfl
theorem rop_ba(sz:Nat)(z:List AV)(ps:List (Nat×RX)):rop a H (.ba sz z ps)=bH H ((jd (fun i=>some (i*sz,sz)) z (ps.map fun p=>(p.1,rx a p.2))).map .agg):=rfl
theorem rop_bm(e:TypeId)(sz:Nat)(z:List AV)(len:Nat)(ps:List (Nat×RX)):rop a H (.bm e sz z len ps)=rbm H e sz len (jd (fun i=>some (i*sz,sz)) (zo len z) (ps.map fun p=>(p.1,rx a p.2))):=rfl
theorem rop_cvsb(x:RX):rop a H (.cvsb x)=bH H (PI (rx a x)):=rfl
theorem rop_mi(t:TypeId)(x:RX):rop a H (.mi t x)=some (.iface t (rx a x),H):=rfl
theorem rop_ta(T:TypeId)(z:Option AV)(ok:Bool)(x:RX):rop a H (.ta T z ok x)=bH H (rta T z ok (rx a x)):=rfl
theorem rop_mf(f:Fn)(xs ys:List RX):rop a H (.mf f xs ys)=some (.fn f (xs.map (rx a)) (ys.map (rx a)),H):=rfl
theorem rop_sls(x:RX)(l h:Option RX):rop a H (.sls x l h)=bH H (Fx (rx a x) (l.map (rx a)) (h.map (rx a))):=rfl
theorem rop_sll(sz:Nat)(x:RX)(l h m:Option RX):rop a H (.sll sz x l h m)=bH H (zB sz (rx a x) (l.map (rx a)) (h.map (rx a)) (m.map (rx a))):=rfl
theorem rop_sla(n sz:Nat)(x:RX)(l h:Option RX):rop a H (.sla n sz x l h)=bH H (Uj n sz (rx a x) (l.map (rx a)) (h.map (rx a))):=rfl
theorem rop_fa(o:Nat)(x:RX):rop a H (.fa o x)=bH H (rfa o (rx a x)):=rfl
theorem UC(g:Option Nat)(o:Nat)(x:RX):rop a H (.fd g o x)=bH H (rfd g o (rx a x)):=rfl
theorem rop_ias(sz:Nat)(x i:RX):rop a H (.ias sz x i)=bH H (qi sz (rx a x) (rx a i)):=rfl
theorem rop_iaa(n sz:Nat)(x i:RX):rop a H (.iaa n sz x i)=bH H (Uh n sz (rx a x) (rx a i)):=rfl
theorem rop_ixs(x i:RX):rop a H (.ixs x i)=bH H (Kz (rx a x) (rx a i)):=rfl
theorem rop_ixa(n:Nat)(g:Option Nat)(sz:Nat)(x i:RX):rop a H (.ixa n g sz x i)=bH H (Ui n g sz (rx a x) (rx a i)):=rfl
theorem rop_ex(x:RX)(i:Nat):rop a H (.ex x i)=bH H (pa (rx a x) i):=rfl
theorem rop_mm:rop a H (.mm)=some (.map H.length,H++[.map []]):=rfl
theorem rop_ms(e:TypeId)(bytes:Nat)(cs:List AV)(l c:RX):rop a H (.ms e bytes cs l c)=rms H e bytes cs (rx a l) (rx a c):=rfl
theorem rop_mu(kk:CK)(m k v:RX):rop a H (.mu kk m k v)=Ce (rmu H kk (rx a m) (rx a k) (rx a v)):=rfl
theorem rop_lk(kk:CK)(z:Option AV)(ok:Bool)(x k:RX):rop a H (.lk kk z ok x k)=bH H (rlk H kk z ok (rx a x) (rx a k)):=rfl
theorem rop_rg(x:RX):rop a H (.rg x)=rrg H (rx a x):=rfl
theorem UD(x:RX):rop a H (.nx x)=Kx H (rx a x):=rfl
theorem rop_len(k:LK)(x:RX):rop a H (.len k x)=bH H (Bq H k (rx a x)):=rfl
theorem rop_cap(x:RX):rop a H (.cap x)=bH H (PJ (rx a x)):=rfl
theorem rop_ap(m:Bool)(e:TypeId)(sz bytes:Nat)(str:Bool)(s x:RX):rop a H (.ap m e sz bytes str s x)=rap m H e sz bytes str (rx a s) (rx a x):=rfl
theorem rop_cp(sz:Nat)(str:Bool)(d s:RX):rop a H (.cp sz str d s)=rcp H sz str (rx a d) (rx a s):=rfl
theorem rop_mx(x y:RX):rop a H (.mx x y)=bH H (Ko (rx a x) (rx a y)):=rfl
theorem rop_mn(x y:RX):rop a H (.mn x y)=bH H (B2 (rx a x) (rx a y)):=rfl
theorem rbm_some(e:TypeId)(sz len:Nat)(cs:List AV):rbm H e sz len (some cs)=some (.rslice H.length 0 len sz true,H++[.cells cs e]):=rfl
def rbx(H:List AObj)(e:TypeId)(x:Option (List AV)):Option (AV×List AObj):=
 match x with
 |some cs=>some (.ptr H.length 0,H++[.cells cs e])
 |none=>none
theorem rop_bx(e:TypeId)(x:RX):rop a H (.bx e x)=rbx H e (dD (rx a x)):=by
 simp only [rop,rbx];cases dD (rx a x)<;>rfl
theorem rbx_some(e:TypeId)(cs:List AV):rbx H e (some cs)=some (.ptr H.length 0,H++[.cells cs e]):=rfl
def rnc(H:List AObj)(x:AV):Option (AV×List AObj):=
 match x with
 |.ptr i o=>some (.ptr i o,H)
 |.vptr e r i o=>some (.vptr e r i o,H)
 |.fn (.func f) x y=>some (.fn (.func f) x y,H)
 |_=>none
theorem rop_nc(x:RX):rop a H (.nc x)=rnc H (rx a x):=rfl
end
theorem rar_int(op:BinOp)(k:IntKind)(m n:Int):rar op (.int k m) (.int k n)=mF op k m n:=by simp [rar]
theorem SI(op:BinOp)(s t:List UInt8):rar op (.str s) (.str t)=mG op s t:=rfl
end
end Go.Am
