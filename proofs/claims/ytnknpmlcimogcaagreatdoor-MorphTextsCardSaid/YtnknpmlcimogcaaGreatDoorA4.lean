import Derived.Test.YtnknpmlcimogcaaGreatDoorA3
import Derived.Laws.Externs
import Derived.Lib.Bytealg
import Derived.Lib.MakeNoZero
import Derived.Lib.Builder
import Derived.Carry
import Derived.Lib.AtoiAll
import Derived.Shelf.Strconv.AtoiAll
import Derived.Lib.LaidTab
import Derived.Stop.LaidErr
import Derived.Lib.ItoaNum
import Derived.Deep.Slices
import Derived.DataReads
import Derived.SizedLaws
/-
  Part 4 of the tool: an abstract machine over the model, proved sound, and what it says of the functions that the law reaches. Condition: none but those that each theorem names.
-/
set_option linter.unusedVariables false
set_option linter.unusedSimpArgs false
section
namespace Go.Am
open Go.RowKit
theorem E5{a b:Nat}(h:Nat.blt a b=true):a<b:=by rwa [anv] at h
mutual
def wkb(n:Nat):AV→Bool
 |.ZW | .bool _ | .int _ _ | .str _ | .ZB | .ZG | .Zw | .Zr=>true
 |.ptr i _=>Nat.blt i n
 |.Za i _ _ _ _=>Nat.blt i n
 |.map i=>Nat.blt i n
 |.Zu _ r _ _=>ado n r
 |.slice (.own t) _ r=>Nat.blt t n&&ado n r
 |.slice _ _ r=>ado n r
 |.Z2 es=>ad4 n es
 |.sdp t r=>Nat.blt t n&&ado n r
 |.fn _ a b=>aaM n a&&aaM n b
 |.iface _ v=>wkb n v
 |.agg l=>aaM n l
 |.tuple l=>aaM n l
def aaM(n:Nat):List AV→Bool
 |[]=>true
 |x::l=>wkb n x&&aaM n l
def ado(n:Nat):List (List AV)→Bool
 |[]=>true
 |x::l=>aaM n x&&ado n l
def ad4(n:Nat):List (AV×AV)→Bool
 |[]=>true
 |x::l=>ale n x&&ad4 n l
def ale(n:Nat):AV×AV→Bool
 |(x,y)=>wkb n x&&wkb n y
end
theorem pV{n:Nat}:∀ {l:List AV}{i:Nat}{x:AV},aaM n l=true→l[i]?=some x→wkb n x=true
 |[],_,_,_,h=>by simp at h
 |y::l,0,x,h,e=>by simp only [aaM,amb] at h;simp at e;subst e;exact h.1
 |y::l,i+1,x,h,e=>by simp only [aaM,amb] at h;simp at e;exact pV h.2 e
theorem D6{n:Nat}:∀ {l:List (List AV)}{i:Nat}{x:List AV},ado n l=true→l[i]?=some x→aaM n x=true
 |[],_,_,_,h=>by simp at h
 |y::l,0,x,h,e=>by simp only [ado,amb] at h;simp at e;subst e;exact h.1
 |y::l,i+1,x,h,e=>by simp only [ado,amb] at h;simp at e;exact D6 h.2 e
theorem uz{n:Nat}:∀ {l:List (AV×AV)}{i:Nat}{x y:AV},ad4 n l=true→l[i]?=some (x,y)→wkb n x=true∧wkb n y=true
 |[],_,_,_,_,h=>by simp at h
 |e0::l,0,x,y,h,e=>by simp only [ad4,amb] at h;simp at e;subst e;simpa [ale] using h.1
 |e0::l,i+1,x,y,h,e=>by simp only [ad4,amb] at h;simp at e;exact uz h.2 e
def SB(n:Nat):Y4→Bool
 |.cells cs _=>aaM n cs
 |.map es=>ad4 n es
 |_=>true
structure VLe (K K':aC):Prop where
 ZO:∀ b o v,K.ZO b o=some v→K'.ZO b o=some v
 own:∀ b x,K.own b=some x→K'.own b=some x
 loc:∀ (i b:Nat),K.loc[i]?=some b→K'.loc[i]?=some b
 shape:∀ b s,K.shape b=some s→K'.shape b=some s
theorem VLe.lt{K K':aC}(h:VLe K K'){i:Nat}(hi:i<K.loc.length):i<K'.loc.length:=
 (al3.1 (h.loc i _ (al4 hi))).1
theorem V.vle{K K':aC}(h:VLe K K'){a:AV}{v:Value}(hv:V K a v):V K' a v:=by
 induction hv with
 |ZW v=>exact .ZW v
 |bool b=>exact .bool b
 |int k n=>exact .int k n
 |str s=>exact .str s
 |ZB=>exact .ZB
 |ptr id off b hb=>exact .ptr id off b (h.loc _ _ hb)
 |Zu esz rows i off b o vs hl hi hv ih=>exact .Zu esz rows i off b o vs hl (fun i j r av h1 h2=>h.ZO _ _ _ (hi i j r av h1 h2)) ih
 |Zo tag esz a ht=>exact .Zo tag esz a ⟨fun t e=>⟨h.lt (ht.1 t e).1,(ht.1 t e).2⟩,ht.2⟩
 |Zk tag esz a cap h=>exact .Zk tag esz a cap h
 |slice tag esz rows b o cap vs hl hi hv hc ht ih=>
  refine .slice tag esz rows b o cap vs hl (fun i j r av h1 h2=>h.ZO _ _ _ (hi i j r av h1 h2)) ih hc ?_;cases tag with
  |any=>trivial
  |some=>trivial
  |full=>exact ht
  |nil=>exact ht
  |own t=>exact ⟨h.lt ht.1,ht.2.imp id fun h2=>⟨h2.1,h.own _ _ h2.2⟩⟩
 |Za id off len esz room b cap hb hc hs=>exact .Za id off len esz room b cap (h.loc _ _ hb) hc (fun hr=>let ⟨n,h1,h2⟩:=hs hr;⟨n,h.shape _ _ h1,h2⟩)
 |Z2 es b mes hb hl hk hv ih1 ih2=>exact .Z2 es b mes (h.shape _ _ hb) hl ih1 ih2
 |ZG=>exact .ZG
 |map id b hb=>exact .map id b (h.loc _ _ hb)
 |aba t p=>exact .aba t p
 |sdp t rows b cap vs htl ho hl hi hv hc ih=>exact .sdp t rows b cap vs (h.lt htl) (h.own _ _ ho) hl (fun i j r av h1 h2=>h.ZO _ _ _ (hi i j r av h1 h2)) ih hc
 |fn f first captured vs us h1 h2 hv hu ih1 ih2=>exact .fn f first captured vs us h1 h2 ih1 ih2
 |Zw=>exact .Zw
 |iface t v x hx ih=>exact .iface t v x ih
 |Zr=>exact .Zr
 |agg cs vs h1 hv ih=>exact .agg cs vs h1 ih
 |tuple cs vs h1 hv ih=>exact .tuple cs vs h1 ih
theorem zE{K:aC}{n b t m:Nat}(h:K.own b=some (t,m))(hlt:t<n):(K.Zy n).own b=some (t,m):=by
 simp [aC.Zy,h,hlt]
theorem Kl{K:aC}{n:Nat}(hn:n≤K.loc.length){a:AV}{v:Value}(hv:V K a v)(hw:wkb n a=true):V (K.Zy n) a v:=by
 have hlen:(K.Zy n).loc.length=n:=by simp [aC.Zy,aoZ hn]
 induction hv with
 |ZW v=>exact .ZW v
 |bool b=>exact .bool b
 |int k n=>exact .int k n
 |str s=>exact .str s
 |ZB=>exact .ZB
 |ptr id off b hb=>exact .ptr id off b (kD hb (E5 hw))
 |Zu esz rows i off b o vs hl hi hv ih=>exact .Zu esz rows i off b o vs hl (fun i j r av h1 h2=>hi i j r av h1 h2) fun i j r av h1 h2=>ih i j r av h1 h2 (pV (D6 hw h1) h2)
 |Zo tag esz a ht=>
  refine .Zo tag esz a ⟨fun t e=>⟨?_,(ht.1 t e).2⟩,ht.2⟩;subst e;simp only [wkb,amb] at hw;rw [hlen];exact E5 hw.1
 |Zk tag esz a cap h=>exact .Zk tag esz a cap h
 |slice tag esz rows b o cap vs hl hi hv hc ht ih=>
  have hr:ado n rows=true:=by cases tag<;>simp only [wkb,amb] at hw<;>first | exact hw.2 | exact hw
  refine .slice tag esz rows b o cap vs hl (fun i j r av h1 h2=>hi i j r av h1 h2) (fun i j r av h1 h2=>ih i j r av h1 h2 (pV (D6 hr h1) h2)) hc (A8 ht fun t e => ?_);subst e;simp only [wkb,amb] at hw;exact E5 hw.1
 |Za id off len esz room b cap hb hc hs=>exact .Za id off len esz room b cap (kD hb (E5 hw)) hc hs
 |Z2 es b mes hb hl hk hv ih1 ih2=>exact .Z2 es b mes hb hl (fun i k v he=>ih1 i k v he (uz hw he).1) fun i k v he=>ih2 i k v he (uz hw he).2
 |ZG=>exact .ZG
 |map id b hb=>exact .map id b (kD hb (E5 hw))
 |aba t p=>exact .aba t p
 |sdp t rows b cap vs htl ho hl hi hv hc ih=>
  simp only [wkb,amb] at hw;have ht:=E5 hw.1;exact .sdp t rows b cap vs (by rw [hlen];exact ht) (zE ho ht) hl hi (fun i j r av h1 h2=>ih i j r av h1 h2 (pV (D6 hw.2 h1) h2)) hc
 |fn f first captured vs us h1 h2 hv hu ih1 ih2=>
  simp only [wkb,amb] at hw;exact .fn f first captured vs us h1 h2 (fun i av h=>ih1 i av h (pV hw.1 h)) fun i av h=>ih2 i av h (pV hw.2 h)
 |Zw=>exact .Zw
 |iface t v x hx ih=>exact .iface t v x (ih hw)
 |Zr=>exact .Zr
 |agg cs vs h1 hv ih=>exact .agg cs vs h1 fun i av h=>ih i av h (pV hw h)
 |tuple cs vs h1 hv ih=>exact .tuple cs vs h1 fun i av h=>ih i av h (pV hw h)
def Tag.fz:Tag→Tag
 |.nil=>.nil
 |_=>.any
def fzD:Nat→Nat→List Y4→AV→Option AV
 |0,_,_,_=>none
 |k+1,n,H,v=>
  match v with
  |.Za id off len esz _=>bif Nat.blt id n then none else (match H[id]? with
    |some (.cells cs _)=>bif Nat.ble (off+len*esz) cs.length then (match dX (dX (fzD k n H)) (iT esz len (cs.drop off)) with
     |some rows=>some (.slice .any esz rows)
     |none=>none) else none
    |_=>none)
  |.map id=>bif Nat.blt id n then none else (match H[id]? with
    |some (.map es)=>bif ad4 n es then some (.Z2 es) else none
    |_=>none)
  |.slice tag esz rows=>(match dX (dX (fzD k n H)) rows with
    |some rows=>some (.slice tag.fz esz rows)
    |none=>none)
  |.agg cs=>(match dX (fzD k n H) cs with
    |some cs=>some (.agg cs)
    |none=>none)
  |.tuple cs=>(match dX (fzD k n H) cs with
    |some cs=>some (.tuple cs)
    |none=>none)
  |v=>bif wkb n v then some v else none
def fzV(n:Nat)(H:List Y4)(v:AV):Option AV:=fzD 12 n H v
theorem Inv.abD{K:aC}{H:List Y4}{w:World}(hi:Inv K H w){id b:Nat}{x:Y4}(hx:H[id]?=some x)(hl:x.live=true)(hb:K.loc[id]?=some b):K.own b=none:=by
 cases ho:K.own b with
 |none=>rfl
 |some p=>
  obtain ⟨_,fr,us,T,lo,hh,_,g2,_⟩:=hi.own b p.1 p.2 ho;have:=hi.obj id x hx;cases x with
  |dead=>cases hl
  |tok=>cases hl
  |cells cs T0=>
   obtain ⟨b2,vs,T2,h1,h2,h3,h4,h5,h6,h7,h8,h9⟩:=this;rw [hb] at h1;cases h1;rw [ho] at h7;cases h7
  |aaj s p=>obtain ⟨b2,h1,h2,h3,_⟩:=this;rw [hb] at h1;cases h1;rw [g2] at h3;cases h3
  |map es=>obtain ⟨b2,me,cl,h1,h2,h3,_⟩:=this;rw [hb] at h1;cases h1;rw [g2] at h3;cases h3
def vI(w:World)(b:Nat):Option Shp:=
 match w.heap[b]? with
 |some (.cells vs _ _)=>some (.rows vs.size)
 |some (.map es _)=>some (.ac0 es)
 |some o=>some (.fix o)
 |none=>none
theorem D7{w:World}{b:Nat}{s:Shp}(h:vI w b=some s):J0 w b s:=by
 unfold vI at h;split at h
 ·rename_i vs T f hb;cases h;exact ⟨vs,T,f,hb,rfl⟩
 ·rename_i es c hb;cases h;exact ⟨c,hb⟩
 ·rename_i o n1 n2 hb;cases h;exact ⟨hb,by cases o<;>first | rfl | exact (n1 _ _ _ rfl).elim | exact (n2 _ _ rfl).elim⟩
 ·cases h
theorem Io{w:World}{b:Nat}{s:Shp}(h:J0 w b s):vI w b=some s:=by
 cases s with
 |rows n=>obtain ⟨vs,T,f,h1,h2⟩:=h;simp [vI,h1,h2]
 |ac0 es=>obtain ⟨c,h1⟩:=h;simp [vI,h1]
 |fix o=>obtain ⟨h1,h2⟩:=h;cases o<;>first | (cases h2;done) | simp [vI,h1]
section
variable{P:Program}{G:Nat→Option (List AV)}
theorem Inv.akX{K:aC}{H H':List Y4}{w:World}(hi:Inv K H w)(hl:H'.length=H.length)(hs:∀ (i:Nat) (x:Y4),H'[i]?=some x→x = .dead∨H[i]?=some x)
  (ht:∀ (t fr:Nat) (T:TypeId),H[t]?=some (.tok fr T)→H'[t]?=some (.tok fr T)):Inv K H' w:=by
 refine ⟨hi.below,hi.base,hi.ZO,by rw [hi.len,hl],fun id x hx => ?_,fun i j x y hx hy lx ly hij => ?_,fun b t n ho => ?_,hi.ZC,hi.shape⟩
 ·rcases hs id x hx with rfl | h
  ·trivial
  ·exact hi.obj id x h
 ·rcases hs i x hx with rfl | h1
  ·cases lx
  ·rcases hs j y hy with rfl | h2
   ·cases ly
   ·exact hi.inj i j x y h1 h2 lx ly hij
 ·obtain ⟨hb,fr,us,T,lo,hh,g1,g2⟩:=hi.own b t n ho
  exact ⟨hb,fr,us,T,lo,hh,ht t fr T g1,g2⟩
theorem dL.frame{He H1:List Y4}{f:FuncId}{args:List AV}{v0 v:AV}(h:dL P G f args He fun r H'=>r = .ret v0∧H'=H1)(hk1:H1.take He.length=He)
  (hG:∀ n g cs,G g=some cs→aaM n cs=true) (ha:∀ a∈args,wkb He.length a=true) (hH:∀ x∈He,SB He.length x=true) (hf:fzV He.length H1 v0=some v)
  (H2:List Y4) (hm2:He.length≤H2.length) (hag:∀ (i:Nat) (x:Y4),He[i]?=some x→x = .dead∨H2[i]?=some x)
  (htok:∀ (t fr:Nat) (T:TypeId),t<He.length→H2[t]?=some (.tok fr T)→He[t]?=some (.tok fr T)):dL P G f args H2 fun r H'=>r = .ret v∧H'=H2:=by
 classical
 intro K w cargs hg hi hv;generalize hm:He.length=m at *
 have hlen:m≤K.loc.length:=by rw [hi.len];exact hm2
 have hkill:Inv K (He++H2.drop m) w:=by
  refine hi.akX (by simp [hm];omega) (fun i x hx => ?_) (fun t fr T ht => ?_)
  ·by_cases hlt:i<m
   ·rw [al7 (by omega)] at hx;exact hag i x hx
   ·rw [amm (by omega),amM,hm,apb (by omega)] at hx;exact .inr hx
  ·by_cases hlt:t<m
   ·rw [al7 (by omega)];exact htok t fr T hlt ht
   ·rw [amm (by omega),amM,hm,apb (by omega)];exact ht
 have htk:(He++H2.drop m).take m=He:=by rw [← hm];simp
 have hkl:∀ {i:Nat},i<m→(He++H2.drop m)[i]?=He[i]? := fun h=>al7 (by omega)
 have hvis:∀ {i:Nat}{x:Y4},He[i]?=some x→x.live=true→H2[i]?=some x:=fun h hl=>by
  rcases hag _ _ h with rfl | h
  ·cases hl
  ·exact h
 let M2:Nat→Prop:=fun b=>w.heap.size≤b∨(∃ (i:Nat) (x:Y4),He[i]?=some x∧x.live=true∧K.loc[i]?=some b)∨∃ t n,K.own b=some (t,n)∧t<m
 have hlt_of:∀ {i:Nat}{x:Y4},He[i]?=some x→i<m:=fun h=>by have:=(al3.1 h).1;omega
 have hM:∀ b,M2 b→K.base b:=fun b hb=>by
  rcases hb with hb | ⟨i,x,h1,h2,h3⟩ | ⟨t,n,h1,_⟩
  ·exact hi.base b hb
  ·obtain ⟨b',h4,h5,_⟩:=hi.ZF (hvis h1 h2) h2
   rw [h3] at h4;cases h4;exact h5
  ·exact (hi.own b t n h1).1
 have hno:∀ {i b:Nat}{x:Y4},He[i]?≠some x→H2[i]?=some x→x.live=true→K.loc[i]?=some b→¬ M2 b:=fun {i b x} h1 h2 h3 h4 hb=>by
  rcases hb with hb | ⟨j,y,g1,g2,g3⟩ | ⟨t,n,g1,_⟩
  ·obtain ⟨b',h5,_,h6⟩:=hi.ZF h2 h3
   rw [h4] at h5;cases h5;omega
  ·have hj:=hvis g1 g2
   exact hi.inj i j x y h2 hj h3 g2 (fun e=>by subst e;rw [hj] at h2;cases h2;exact h1 g1) (h4.trans g3.symm)
  ·rw [hi.abD h2 h3 h4] at g1;cases g1
 let K2:aC := { K.Zy m with base:=M2,w0:=w }
 have hv2:VLe (K.Zy m) K2:=⟨fun _ _ _ h=>h,fun _ _ h=>h,fun _ _ h=>h,fun _ _ h=>h⟩
 have hglw:∀ (g:Nat) (cs:List AV),K.ZC g=some cs→wkb m (.Zu cs.length [cs] 0 0)=true:=fun g cs hgc=>by
  have:=hG m g cs (by rw [← hg];exact hgc);simp [wkb,ado,this]
 have hit:Inv (K.Zy m) He w:=by
  have:=hkill.Zy m (fun i cs T0 hlt hcs j av x hj hx=>by
   have h1:He[i]?=some (.cells cs T0):=(hkl hlt).symm.trans hcs;exact Kl hlen hx (pV (hH _ (aml h1)) hj)) (fun i es hlt hes j x y z hj=>by
   have h1:He[i]?=some (.map es):=(hkl hlt).symm.trans hes;have h2:=uz (hH _ (aml h1)) hj;exact ⟨fun hx=>Kl hlen hx h2.1,fun hy=>Kl hlen hy h2.2⟩)
   (fun g cs hgc=>Kl hlen (hi.ZC g cs hgc) (hglw g cs hgc))
  rwa [htk] at this
 have hi2:Inv K2 He w:=by
  refine ⟨uu.refl _ _,fun b hb=>.inl hb,hit.ZO,hit.len,fun id x hx => ?_,hit.inj,fun b t n ho => ?_,fun g cs hgc=>(hit.ZC g cs hgc).vle hv2,hit.shape⟩
  ·have:=hit.obj id x hx
   have hMb:∀ b,x.live=true→(K.Zy m).loc[id]?=some b→M2 b:=fun b hl hb=>.inr (.inl ⟨id,x,hx,hl,by
    have h':(K.loc.take m)[id]?=some b:=hb;rwa [amE,if_pos (hlt_of hx)] at h'⟩)
   cases x with
   |dead=>trivial
   |tok=>trivial
   |cells cs T0=>
    obtain ⟨b,vs,T,h1,h2,h3,h4,h5,h6,h7,h8,h9⟩:=this;exact ⟨b,vs,T,h1,hMb b rfl h1,h3,h4,fun i av hh=>(h5 i av hh).vle hv2,h6,h7,h8,h9⟩
   |aaj s p=>obtain ⟨b,h1,h2,h3⟩:=this;exact ⟨b,h1,hMb b rfl h1,h3⟩
   |map es=>
    obtain ⟨b,me,cl,h1,h2,h3,h4,h5,h6⟩:=this;exact ⟨b,me,cl,h1,hMb b rfl h1,h3,h4,fun i k v hh=>let ⟨e,g1,g2,g3⟩:=h5 i k v hh;⟨e,g1,g2.vle hv2,g3.vle hv2⟩,h6⟩
  ·obtain ⟨_,h2⟩:=hit.own b t n ho
   obtain ⟨h3,h4⟩:=aC.abb ho;exact ⟨.inr (.inr ⟨t,n,h3,h4⟩),h2⟩
 have hargs:Vs K2 args cargs:=⟨hv.size,fun i av hh=>(Kl hlen (hv.at_ i av hh) (ha av (aml hh))).vle hv2⟩
 have back:∀ e w',Cz K2 (fun r H'=>r = .ret v0∧H'=H1) e w'→Cz K (fun r H'=>r = .ret v∧H'=H2) e w':=by
  rintro e w' ⟨K3,r,H',hle,hend,hi3,rfl,rfl⟩;have hb3:K3.base=M2:=hle.base
  have hm3:m≤K3.loc.length:=by
   rw [hi3.len];have:=congrArg List.length hk1;simp at this;omega
  have hH1:∀ {i:Nat},i<m→H'[i]?=He[i]? := fun {i} hlt=>by rw [← hk1,amE,if_pos hlt]
  have hloc3:∀ {i b:Nat},i<m→K.loc[i]?=some b→K3.loc[i]?=some b:=fun {i b} hlt hb=>hle.loc i b (by
   show (K.loc.take m)[i]?=_;rw [amE,if_pos hlt];exact hb)
  have hloc3':∀ {i b:Nat},i<m→K3.loc[i]?=some b→K.loc[i]?=some b:=fun {i b} hlt hb=>by
   have h1:K.loc[i]?=some K.loc[i]:=al4 (by omega);rw [hloc3 hlt h1] at hb;rw [h1];exact hb
  let NB:Nat→Prop:=fun b => ∃ (id:Nat) (x:Y4),m≤id∧H'[id]?=some x∧x.live=true∧K3.loc[id]?=some b
  have hNM:∀ b,NB b→M2 b:=fun b ⟨id,x,h1,h2,h3,h4⟩=>by
   obtain ⟨b',h5,h6,_⟩:=hi3.ZF h2 h3;rw [h4] at h5;cases h5;rw [hb3] at h6;exact h6
  have hNO:∀ b,NB b→K3.own b=none:=fun b ⟨id,x,h1,h2,h3,h4⟩=>hi3.abD h2 h3 h4
  have hNI:∀ {i b:Nat}{x:Y4},i<m→H'[i]?=some x→x.live=true→K3.loc[i]?=some b→¬ NB b:=fun {i b x} h1 h2 h3 h4 ⟨id,y,g1,g2,g3,g4⟩=>
   hi3.inj i id x y h2 g2 h3 g3 (by omega) (h4.trans g4.symm)
  let K4:aC := { ZO:=fun b o=>if NB b then w'.cell? ⟨b,o,none⟩ else K3.ZO b o,own:=fun b=>if M2 b then (K3.Zy m).own b else K.own b,loc:=K.loc,base:=K.base,w0:=K.w0,ZC:=K.ZC,shape:=fun b=>if NB b then vI w' b else K3.shape b }
  have imm4:∀ {b o:Nat},¬ NB b→K4.ZO b o=K3.ZO b o:=fun h=>if_neg h
  have hv4:VLe (K3.Zy m) K4:=by
   refine ⟨fun b o x hx => ?_,fun b x hx => ?_,fun i b hb => ?_,fun b s hs => ?_⟩
   ·have hx':K3.ZO b o=some x:=hx
    show (if NB b then _ else _)=_;split
    ·exact hi3.ZO b o x hx'
    ·exact hx'
   ·obtain ⟨t,n⟩:=x
    have h1:=(aC.abb hx).1;have h2:=(hi3.own b t n h1).1;rw [hb3] at h2;show (if M2 b then _ else _)=_;rw [if_pos h2];exact hx
   ·have h':(K3.loc.take m)[i]?=some b:=hb
    rw [amE] at h';split at h'
    ·rename_i hlt;exact hloc3' hlt h'
    ·cases h'
   ·have hs':K3.shape b=some s:=hs
    show (if NB b then _ else _)=_;split
    ·exact Io (hi3.shape b s hs')
    ·exact hs'
  have low4:∀ b,¬ M2 b→(∀ o,K4.ZO b o=K.ZO b o)∧K4.shape b=K.shape b:=fun b hb=>by
   have hnb:¬ NB b:=fun e=>hb (hNM b e)
   have:=hle.low b hb;exact ⟨fun o=>(if_neg hnb).trans (this.1 o),(if_neg hnb).trans this.2⟩
  have hle4:K.le K4:=by
   refine ⟨fun b o x hx=>hv4.ZO b o x (hle.ZO b o x hx),fun b x hx => ?_,fun _ _ h=>h,rfl,rfl,rfl,fun b s hs=>hv4.shape b s (hle.shape b s hs),fun b hb=>low4 b fun e=>hb (hM b e)⟩;obtain ⟨t,n⟩:=x;show (if M2 b then _ else _)=_;split
   ·rename_i hb
    have hlt:t<m:=by
     rcases hb with hb | ⟨i,x,h1,h2,h3⟩ | ⟨t',n',h1,h2⟩
     ·have:=hi.adK hx;omega
     ·rw [hi.abD (hvis h1 h2) h2 h3] at hx;cases hx
     ·rw [hx] at h1;cases h1;exact h2
    exact zE (hle.own b _ (zE hx hlt)) hlt
   ·exact hx
  have vback:∀ {a:AV}{x:Value},V K3 a x→wkb m a=true→V K4 a x:=fun hx hw=>(Kl hm3 hx hw).vle hv4
  have hk3:uu M2 w w':=by
   have:=hi3.below;rw [hb3,hle.w0] at this;exact this
  have hi4:Inv K4 H2 w':=by
   refine ⟨hi.below.trans (hk3.mono hM),fun b hb=>hi.base b (ams hk3.size hb),fun b o x hx => ?_,hi.len,fun id x hx => ?_,hi.inj,fun b t n ho => ?_,fun g cs hgc=>(hi.ZC g cs hgc).mono hle4,fun b s hs => ?_⟩
   ·have hx':(if NB b then w'.cell? ⟨b,o,none⟩ else K3.ZO b o)=some x:=hx
    split at hx'
    ·exact hx'
    ·exact hi3.ZO b o x hx'
   ·by_cases hx1:He[id]?=some x
    ·have hlt:=hlt_of hx1
     have hx3:H'[id]?=some x:=(hH1 hlt).trans hx1;have hcl:=hH x (aml hx1);have:=hi3.obj id x hx3;have hMb:∀ b,K3.base b→M2 b:=fun b hb=>by rwa [hb3] at hb
     cases x with
     |dead=>trivial
     |tok=>trivial
     |cells cs T0=>
      obtain ⟨b,vs,T,h1,h2,h3,h4,h5,h6,h7,h8,h9⟩:=this;have hnb:=hNI hlt hx3 rfl h1;refine ⟨b,vs,T,hloc3' hlt h1,hM b (hMb b h2),h3,h4,fun i av hh=>vback (h5 i av hh) (pV hcl hh),fun o=>(imm4 hnb).trans (h6 o), ?_,(if_neg hnb).trans h8,h9⟩;show (if M2 b then _ else _)=_;rw [if_pos (hMb b h2)];simp [aC.Zy,h7]
     |aaj s p=>obtain ⟨b,h1,h2,h3,h4⟩:=this;exact ⟨b,hloc3' hlt h1,hM b (hMb b h2),h3,(if_neg (hNI hlt hx3 rfl h1)).trans h4⟩
     |map es=>
      obtain ⟨b,me,cl,h1,h2,h3,h4,h5,h6⟩:=this;have hnb:=hNI hlt hx3 rfl h1;exact ⟨b,me,cl,hloc3' hlt h1,hM b (hMb b h2),h3,h4,fun i k v hh=>let ⟨e,g1,g2,g3⟩:=h5 i k v hh;⟨e,g1,vback g2 (uz hcl hh).1,vback g3 (uz hcl hh).2⟩,(if_neg hnb).trans h6⟩
    ·by_cases ly:x.live=true
     ·refine (hi.obj id x hx).mono hle4 (fun b hb _ _=>hk3.block b (hno hx1 hx ly hb)) (fun b hb _ => ?_)
      have hnm:=hno hx1 hx ly hb;have hl:=low4 b hnm;exact ⟨fun o h=>(hl.1 o).trans h,fun h=>(if_neg hnm).trans h,fun h=>hl.2.trans h⟩
     ·cases x<;>first | exact absurd rfl ly | trivial
   ·have ho':(if M2 b then (K3.Zy m).own b else K.own b)=some (t,n):=ho
    split at ho'
    ·rename_i hb
     obtain ⟨h1,h2⟩:=aC.abb ho';obtain ⟨_,fr,us,T,lo,hh,g1,g2,g3,g4,g5⟩:=hi3.own b t n h1;have hnb:¬ NB b:=fun e=>by rw [hNO b e] at h1;cases h1
     exact ⟨hM b hb,fr,us,T,lo,hh,by
      rcases hag t _ ((hH1 h2).symm.trans g1) with h | h
      ·cases h
      ·exact h,g2,g3,g4,fun o x hx=>g5 o x (by rw [← imm4 hnb];exact hx)⟩
    ·rename_i hb
     obtain ⟨h0,fr,us,T,lo,hh,g1,g2,g3,g4,g5⟩:=hi.own b t n ho';exact ⟨h0,fr,us,T,lo,hh,g1,by rw [hk3.block b hb];exact g2,g3,g4,fun o x hx=>g5 o x (by rw [← (low4 b hb).1 o];exact hx)⟩
   ·have hs':(if NB b then vI w' b else K3.shape b)=some s:=hs
    split at hs'
    ·exact D7 hs'
    ·exact hi3.shape b s hs'
  have fzD_ok:∀ (k:Nat) {a a':AV}{x:Value},V K3 a x→fzD k m H' a=some a'→V K4 a' x:=by
   intro k;induction k with
   |zero=>intro a a' x _ he;cases he
   |succ k ih=>
   intro a a' x hx he
   have other:∀ {a'':AV},V K3 a x→(bif wkb m a then some a else none)=some a''→V K4 a'' x:=fun hx he=>by
    cases hw:wkb m a with
    |false=>rw [hw] at he;cases he
    |true=>rw [hw] at he;cases he;exact vback hx hw
   have two:∀ {rows rows':List (List AV)},dX (dX (fzD k m H')) rows=some rows'→rows'.length=rows.length∧(∀ (i:Nat) (r:List AV),rows'[i]?=some r→∃ r0,rows[i]?=some r0∧r.length=r0.length∧∀ (j:Nat) (av:AV),r[j]?=some av→∃ a0,r0[j]?=some a0∧fzD k m H' a0=some av):=fun h=>by
    obtain ⟨g1,g2⟩:=fx h;refine ⟨g1,fun i r hr => ?_⟩;obtain ⟨r0,e1,e2⟩:=g2 i r hr;obtain ⟨e3,e4⟩:=fx e2;exact ⟨r0,e1,e3,e4⟩
   cases hx with
   |Za id off len esz room b cap hb hcap hro=>
    simp only [fzD] at he;cases hlt:Nat.blt id m with
    |true=>rw [hlt] at he;cases he
    |false=>
     rw [hlt,cond_false] at he
     have hge:m≤id:=by
      refine anA fun e => ?_
      rw [← anv,hlt] at e;cases e
     split at he
     ·rename_i cs T0 hc
      cases hcnd:Nat.ble (off+len*esz) cs.length with
      |false=>rw [hcnd] at he;cases he
      |true=>
       rw [hcnd,cond_true] at he;have hsz:=anO hcnd;split at he
       ·rename_i rows' hrows
        cases he;obtain ⟨t1,t2⟩:=two hrows;rw [oC] at t1;obtain ⟨b2,vs,T2,h1,h2,h3,h4,h5,h6,h7,h8,h9⟩:=hi3.obj _ _ hc;rw [hb] at h1;cases h1;have hnb:NB b:=⟨id,_,hge,hc,rfl,hb⟩
        have row:∀ (i j:Nat) (r:List AV) (av:AV),(iT esz len (cs.drop off))[i]?=some r→r[j]?=some av→i<len∧j<esz∧cs[off+i*esz+j]?=some av:=fun i j r av hr hj=>by
         obtain ⟨g1,rfl⟩:=nu esz len (cs.drop off) i r hr;rw [amE] at hj;split at hj
         ·rename_i hlt
          rw [amM,amM] at hj;exact ⟨g1,hlt,by rw [← hj];congr 1;omega⟩
         ·cases hj
        have:=V.slice (K:=K4) .any esz rows' b off cap (fun i j=>vs.getD (off+i*esz+j) undef) (fun r hr => ?_) (fun i j r av hr hj => ?_) (fun i j r av hr hj => ?_) (by rw [t1];exact hcap) trivial
        ·rwa [t1] at this
        ·obtain ⟨i,hi1⟩:=ani.1 hr
         obtain ⟨r0,e1,e2,_⟩:=t2 i r hi1;obtain ⟨g1,rfl⟩:=nu esz len (cs.drop off) i r0 e1
         have:i*esz+esz≤len*esz:=by rw [← am7];exact amR _ g1
         rw [e2];simp;omega
        ·obtain ⟨r0,e1,_,e3⟩:=t2 i r hr
         obtain ⟨a0,e4,e5⟩:=e3 j av hj;obtain ⟨g1,g2,g3⟩:=row i j r0 a0 e1 e4;have hlt:off+i*esz+j<vs.size:=anb (al3.1 g3).1 h4;show (if NB b then _ else _)=_;rw [if_pos hnb,de h3,amz hlt];simp [Array.getD,hlt]
        ·obtain ⟨r0,e1,_,e3⟩:=t2 i r hr
         obtain ⟨a0,e4,e5⟩:=e3 j av hj;obtain ⟨g1,g2,g3⟩:=row i j r0 a0 e1 e4;exact ih (h5 _ _ g3) e5
       ·cases he
     ·cases he
   |map id b hb=>
    simp only [fzD] at he;cases hlt:Nat.blt id m with
    |true=>rw [hlt] at he;cases he
    |false=>
     rw [hlt,cond_false] at he
     have hge:m≤id:=by
      refine anA fun e => ?_
      rw [← anv,hlt] at e;cases e
     split at he
     ·rename_i es hc
      cases hw:ad4 m es with
      |false=>rw [hw] at he;cases he
      |true=>
       rw [hw] at he;cases he;obtain ⟨b2,mes,clock,h1,h2,h3,h4,h5,h6⟩:=hi3.obj _ _ hc;rw [hb] at h1;cases h1;have hnb:NB b:=⟨id,_,hge,hc,rfl,hb⟩
       refine .Z2 es b mes ((if_pos hnb).trans (by simp [vI,h3])) h4 (fun i k v he => ?_) (fun i k v he => ?_)
       ·obtain ⟨e,g1,g2,g3⟩:=h5 i k v he
        rw [show mes.getD i ⟨undef,undef,0⟩=e by simp [amd,g1]];exact vback g2 (uz hw he).1
       ·obtain ⟨e,g1,g2,g3⟩:=h5 i k v he
        rw [show mes.getD i ⟨undef,undef,0⟩=e by simp [amd,g1]];exact vback g3 (uz hw he).2
     ·cases he
   |Zo tag esz a h=>
    cases he;cases tag with
    |nil=>rw [h.2.1 rfl];exact .Zo .nil esz none ⟨fun _ e=>(by cases e),fun _=>rfl,fun e=>(by cases e)⟩
    |some=>exact absurd rfl h.2.2
    |any=>exact .Zo .any esz a ⟨fun _ e=>(by cases e),fun e=>(by cases e),fun e=>(by cases e)⟩
    |full=>exact .Zo .any esz a ⟨fun _ e=>(by cases e),fun e=>(by cases e),fun e=>(by cases e)⟩
    |own t=>exact .Zo .any esz a ⟨fun _ e=>(by cases e),fun e=>(by cases e),fun e=>(by cases e)⟩
   |Zk tag esz a cap h=>
    cases he
    have:tag.fz = .any:=by rcases h with rfl | ⟨rfl,_⟩<;>rfl
    rw [this];exact .Zk .any esz a cap (.inl rfl)
   |slice tag esz rows b o cap vs hl him hvv hc ht=>
    simp only [fzD] at he;split at he
    ·rename_i rows' hrows
     cases he;obtain ⟨t1,t2⟩:=two hrows;have htag:tag.fz = .any:=by cases tag<;>first | rfl | exact (ht:False).elim
     have:=V.slice (K:=K4) .any esz rows' b o cap vs (fun r hr => ?_) (fun i j r av hr hj => ?_) (fun i j r av hr hj => ?_) (by rw [t1];exact hc) trivial
     ·rw [htag];rwa [t1] at this
     ·obtain ⟨i,hi1⟩:=ani.1 hr
      obtain ⟨r0,e1,e2,_⟩:=t2 i r hi1;rw [e2];exact hl r0 (aml e1)
     ·obtain ⟨r0,e1,_,e3⟩:=t2 i r hr
      obtain ⟨a0,e4,e5⟩:=e3 j av hj;exact hv4.ZO _ _ _ (him i j r0 a0 e1 e4)
     ·obtain ⟨r0,e1,_,e3⟩:=t2 i r hr
      obtain ⟨a0,e4,e5⟩:=e3 j av hj;exact ih (hvv i j r0 a0 e1 e4) e5
    ·cases he
   |ZW=>exact other (.ZW _) he
   |bool b=>exact other (.bool b) he
   |int k n=>exact other (.int k n) he
   |str s=>exact other (.str s) he
   |ZB=>exact other .ZB he
   |ptr id off b hb=>exact other (.ptr id off b hb) he
   |Zu esz rows i off b o vs hl hi hv=>exact other (.Zu esz rows i off b o vs hl hi hv) he
   |Z2 es b mes hb hl hk hv=>exact other (.Z2 es b mes hb hl hk hv) he
   |ZG=>exact other .ZG he
   |aba t p=>exact other (.aba t p) he
   |sdp t rows b cap vs htl ho hl hi hv hc=>exact other (.sdp t rows b cap vs htl ho hl hi hv hc) he
   |fn f first captured vs us h1 h2 hv hu=>exact other (.fn f first captured vs us h1 h2 hv hu) he
   |Zw=>exact other .Zw he
   |iface t v x hx=>exact other (.iface t v x hx) he
   |Zr=>exact other .Zr he
   |agg cs vs h1 hv=>
    simp only [fzD] at he;split at he
    ·rename_i cs' hcs
     cases he;obtain ⟨g1,g2⟩:=fx hcs
     exact .agg _ _ (g1.trans h1) fun i av h=>by
      obtain ⟨a0,e1,e2⟩:=g2 i av h;exact ih (hv i a0 e1) e2
    ·cases he
   |tuple cs vs h1 hv=>
    simp only [fzD] at he;split at he
    ·rename_i cs' hcs
     cases he;obtain ⟨g1,g2⟩:=fx hcs
     exact .tuple _ _ (g1.trans h1) fun i av h=>by
      obtain ⟨a0,e1,e2⟩:=g2 i av h;exact ih (hv i a0 e1) e2
    ·cases he
  refine ⟨K4,.ret v,H2,hle4, ?_,hi4,rfl,rfl⟩;cases e with
  |panicked c=>exact hend.elim
  |outgrown=>exact hend.elim
  |returned x=>
   have hx:V K3 v0 x:=hend;show V K4 v x;exact fzD_ok 12 hx hf
 rcases h K2 w cargs hg hi2 hargs with ⟨h1,h2⟩ | ⟨cv,w',h1,h2⟩
 ·exact .inl ⟨h1,h2.mono back⟩
 ·exact .inr ⟨cv,w',h1,back _ _ h2⟩
end
end Go.Am
end
section
namespace Go.Am
open Go.RowKit
theorem yy{α β:Type}{f g:α→Option β}(h:∀ x y,f x=some y→g x=some y):∀ {l:List α}{l':List β},dX f l=some l'→dX g l=some l'
 |[],l',e=>e
 |x::l,l',e=>by
  simp only [dX] at e ⊢;split at e
  ·rename_i a' l2 e1 e2
   cases e;rw [h _ _ e1,yy h e2]
  ·cases e
theorem oE{α β:Type}{x y:Option α}{f:α→β}{r:β}(h:∀ a,x=some a→y=some a)(e:x.map f=some r):y.map f=some r:=by
 cases x with
 |none=>cases e
 |some a=>rw [h a rfl];exact e
theorem Ip{f g:AV→Option AV}(h:∀ x y,f x=some y→g x=some y)(e:AV×AV)(r:AV×AV)(he:((f e.1).bind fun x=>(f e.2).map fun y=>(x,y))=some r):((g e.1).bind fun x=>(g e.2).map fun y=>(x,y))=some r:=by
 cases h1:f e.1 with
 |none=>rw [h1] at he;cases he
 |some x=>
  cases h2:f e.2 with
  |none=>rw [h1,h2] at he;cases he
  |some y=>rw [h1,h2] at he;rw [h _ _ h1,h _ _ h2];exact he
theorem SC:∀ (k n:Nat) (H:List Y4) (v v':AV),Z8 k n H v=some v'→Z8 (k+1) n H v=some v':=by
 intro k;induction k with
 |zero=>intro n H v v' h;cases h
 |succ k ih=>
  intro n H v v' h;have h1:=fun x y=>ih n H x y
  have h2:∀ x y,dX (Z8 k n H) x=some y→dX (Z8 (k+1) n H) x=some y:=fun x y e=>yy h1 e
  have h3:∀ x y,dX (dX (Z8 k n H)) x=some y→dX (dX (Z8 (k+1) n H)) x=some y:=fun x y e=>yy h2 e
  rw [Z8.eq_def] at h ⊢;cases v<;>dsimp only at h ⊢
  case Za id off len esz room=>
   cases hb:Nat.blt id n with
   |true=>rw [hb] at h;exact h
   |false=>
    rw [hb,cond_false] at h;rw [cond_false];split at h
    ·cases hc:Nat.ble _ _ with
     |false=>rw [hc] at h;cases h
     |true=>rw [hc,cond_true] at h;rw [cond_true];exact oE (fun a=>h3 _ a) h
    ·cases h
  case ptr id off=>
   cases hb:Nat.blt id n with
   |true=>rw [hb] at h;exact h
   |false=>
    rw [hb,cond_false] at h;rw [cond_false];split at h
    ·exact oE (fun a=>h2 _ a) h
    ·cases h
  case map id=>
   cases hb:Nat.blt id n with
   |true=>rw [hb] at h;exact h
   |false=>
    rw [hb,cond_false] at h;rw [cond_false];split at h
    ·exact oE (fun a=>yy (Ip h1)) h
    ·cases h
  case slice=>exact oE (fun a=>h3 _ a) h
  case Zu=>exact oE (fun a=>h3 _ a) h
  case Z2=>exact oE (fun a=>yy (Ip h1)) h
  case agg=>exact oE (fun a=>h2 _ a) h
  case tuple=>exact oE (fun a=>h2 _ a) h
  case iface=>exact oE (fun a=>h1 _ a) h
  case fn f a b=>
   cases e1:dX (Z8 k n H) a with
   |none=>rw [e1] at h;cases h
   |some x=>rw [e1] at h;rw [h2 _ _ e1];exact oE (fun a=>h2 _ a) h
  all_goals exact h
theorem SD{k m n:Nat}{H:List Y4}{v v':AV}(hk:k≤m)(h:Z8 k n H v=some v'):Z8 m n H v=some v':=by
 induction hk with
 |refl=>exact h
 |step _ ih=>exact SC _ _ _ _ _ ih
theorem Fz.uniq{n:Nat}{H:List Y4}{v a b:AV}(h1:Fz n H v a)(h2:Fz n H v b):a=b:=by
 obtain ⟨k,h1⟩:=h1;obtain ⟨m,h2⟩:=h2;have e1:=SD (an6 k m) h1;have e2:=SD (an0 k m) h2;rw [e1] at e2;cases e2;rfl
theorem QS{H0 H:List Y4}{v v':AV}(h1:Fz H0.length H v v')(h2:CH H0 H v v'):bM.deep H0 H v=some ⟨v',h2⟩:=by
 have h:∃ v',Fz H0.length H v v'∧CH H0 H v v':=⟨v',h1,h2⟩
 have e:Classical.choose h=v':=Fz.uniq (anh h).1 h1;have d:bM.deep H0 H v=some ⟨Classical.choose h,(anh h).2⟩:=dif_pos h;rw [d];congr 1;exact apw e
theorem eL{α β:Type}{x:Option α}{f:α→β}{r:β}(e:x.map f=some r):∃ a,x=some a∧f a=r:=by
 cases x with
 |none=>cases e
 |some a=>exact ⟨a,rfl,by injection e⟩
theorem pW{f:AV→Option AV}{e r:AV×AV}(he:((f e.1).bind fun x=>(f e.2).map fun y=>(x,y))=some r):f e.1=some r.1∧f e.2=some r.2:=by
 cases h1:f e.1 with
 |none=>rw [h1] at he;cases he
 |some x=>
  cases h2:f e.2 with
  |none=>rw [h1,h2] at he;cases he
  |some y=>rw [h1,h2] at he;cases he;exact ⟨rfl,rfl⟩
theorem Ye{H0 H:List Y4}{v v':AV}(hcut:bY H0 H)(hz:Fz H0.length H v v'):CH H0 H v v':=by
 classical
 intro K K' w w' x hi hi' hk hv;obtain ⟨fu,hz⟩:=hz;obtain ⟨hc1,hc2⟩:=hi.cut hi' hk hcut;generalize hn:H0.length=n at *
 have hnl:n≤K'.loc.length:=by rw [hi'.len];exact hn ▸ hcut.1
 let NB:Nat→Prop:=fun b => ∃ (id:Nat) (x:Y4),n≤id∧H[id]?=some x∧x.live=true∧K'.loc[id]?=some b
 have hNM:∀ b,NB b→K'.base b:=fun b ⟨id,x,h1,h2,h3,h4⟩=>by
  obtain ⟨b',h5,h6,_⟩:=hi'.ZF h2 h3;rw [h4] at h5;cases h5;exact h6
 have hNO:∀ b,NB b→K'.own b=none:=fun b ⟨id,x,h1,h2,h3,h4⟩=>hi'.abD h2 h3 h4
 have hNI:∀ {i b:Nat}{x:Y4},i<n→H[i]?=some x→x.live=true→K'.loc[i]?=some b→¬ NB b:=fun {i b x} h1 h2 h3 h4 ⟨id,y,g1,g2,g3,g4⟩=>
  hi'.inj i id x y h2 g2 h3 g3 (by omega) (h4.trans g4.symm)
 let K2:aC := { K'.Zy n with ZO:=fun b o=>if NB b then w'.cell? ⟨b,o,none⟩ else K'.ZO b o,shape:=fun b=>if NB b then vI w' b else K'.shape b }
 have hle:(K'.Zy n).le K2:=by
  refine ⟨fun b o x hx => ?_,fun _ _ h=>h,fun _ _ h=>h,rfl,rfl,rfl,fun b s hs => ?_,fun b hb => ?_⟩
  ·have hx':K'.ZO b o=some x:=hx
   show (if NB b then _ else _)=_;split
   ·exact hi'.ZO b o x hx'
   ·exact hx'
  ·have hs':K'.shape b=some s:=hs
   show (if NB b then _ else _)=_;split
   ·exact Io (hi'.shape b s hs')
   ·exact hs'
  ·have hnb:¬ NB b:=fun e=>hb (hNM b e)
   exact ⟨fun o=>if_neg hnb,if_neg hnb⟩
 refine ⟨K2,hc2.trans hle, ?_, ?_⟩
 ·
  have main:∀ (k:Nat) {a a':AV}{x:Value},V K' a x→Z8 k n H a=some a'→V K2 a' x:=by
   intro k;induction k with
   |zero=>intro a a' x _ he;cases he
   |succ k ih=>
   intro a a' x hx he;have one:∀ {l l':List AV},dX (Z8 k n H) l=some l'→l'.length=l.length∧(∀ (j:Nat) (av:AV),l'[j]?=some av→∃ a0,l[j]?=some a0∧Z8 k n H a0=some av):=fun h=>fx h
   have two:∀ {rows rows':List (List AV)},dX (dX (Z8 k n H)) rows=some rows'→rows'.length=rows.length∧(∀ (i:Nat) (r:List AV),rows'[i]?=some r→∃ r0,rows[i]?=some r0∧r.length=r0.length∧∀ (j:Nat) (av:AV),r[j]?=some av→∃ a0,r0[j]?=some a0∧Z8 k n H a0=some av):=fun h=>by
    obtain ⟨g1,g2⟩:=fx h;refine ⟨g1,fun i r hr => ?_⟩;obtain ⟨r0,e1,e2⟩:=g2 i r hr;obtain ⟨e3,e4⟩:=fx e2;exact ⟨r0,e1,e3,e4⟩
   rw [Z8.eq_def] at he;cases hx with
   |Za id off len esz room b cap hb hcap hro=>
    dsimp only at he;cases hlt:Nat.blt id n with
    |true=>
     rw [hlt] at he;cases he;rw [anv] at hlt;refine .Za id off len esz room b cap (kD hb hlt) hcap fun hr => ?_
     obtain ⟨m,h1,h2⟩:=hro hr;exact ⟨m,hle.shape _ _ h1,h2⟩
    |false=>
     rw [hlt,cond_false] at he
     have hge:n≤id:=by
      refine anA fun e => ?_
      rw [← anv,hlt] at e;cases e
     split at he
     ·rename_i cs T0 hc
      cases hcnd:Nat.ble (off+len*esz) cs.length with
      |false=>rw [hcnd] at he;cases he
      |true=>
       rw [hcnd,cond_true] at he;have hsz:=anO hcnd;obtain ⟨rows',hrows,rfl⟩:=eL he;obtain ⟨t1,t2⟩:=two hrows;rw [oC] at t1;obtain ⟨b2,vs,T2,h1,h2,h3,h4,h5,h6,h7,h8,h9⟩:=hi'.obj _ _ hc;rw [hb] at h1;cases h1;have hnb:NB b:=⟨id,_,hge,hc,rfl,hb⟩
       have row:∀ (i j:Nat) (r:List AV) (av:AV),(iT esz len (cs.drop off))[i]?=some r→r[j]?=some av→i<len∧j<esz∧cs[off+i*esz+j]?=some av:=fun i j r av hr hj=>by
        obtain ⟨g1,rfl⟩:=nu esz len (cs.drop off) i r hr;rw [amE] at hj;split at hj
        ·rename_i hlt
         rw [amM,amM] at hj;exact ⟨g1,hlt,by rw [← hj];congr 1;omega⟩
        ·cases hj
       have:=V.slice (K:=K2) .any esz rows' b off cap (fun i j=>vs.getD (off+i*esz+j) undef) (fun r hr => ?_) (fun i j r av hr hj => ?_) (fun i j r av hr hj => ?_) (by rw [t1];exact hcap) trivial
       ·rwa [t1] at this
       ·obtain ⟨i,hi1⟩:=ani.1 hr
        obtain ⟨r0,e1,e2,_⟩:=t2 i r hi1;obtain ⟨g1,rfl⟩:=nu esz len (cs.drop off) i r0 e1
        have:i*esz+esz≤len*esz:=by rw [← am7];exact amR _ g1
        rw [e2];simp;omega
       ·obtain ⟨r0,e1,_,e3⟩:=t2 i r hr
        obtain ⟨a0,e4,e5⟩:=e3 j av hj;obtain ⟨g1,g2,g3⟩:=row i j r0 a0 e1 e4;have hlt:off+i*esz+j<vs.size:=anb (al3.1 g3).1 h4;show (if NB b then _ else _)=_;rw [if_pos hnb,de h3,amz hlt];simp [Array.getD,hlt]
       ·obtain ⟨r0,e1,_,e3⟩:=t2 i r hr
        obtain ⟨a0,e4,e5⟩:=e3 j av hj;obtain ⟨g1,g2,g3⟩:=row i j r0 a0 e1 e4;exact ih (h5 _ _ g3) e5
     ·cases he
   |ptr id off b hb=>
    dsimp only at he;cases hlt:Nat.blt id n with
    |true=>
     rw [hlt] at he;cases he;rw [anv] at hlt;exact .ptr id off b (kD hb hlt)
    |false=>
     rw [hlt,cond_false] at he
     have hge:n≤id:=by
      refine anA fun e => ?_
      rw [← anv,hlt] at e;cases e
     split at he
     ·rename_i cs T0 hc
      obtain ⟨cs',hcs,rfl⟩:=eL he;obtain ⟨t1,t2⟩:=one hcs;obtain ⟨b2,vs,T2,h1,h2,h3,h4,h5,h6,h7,h8,h9⟩:=hi'.obj _ _ hc;rw [hb] at h1;cases h1;have hnb:NB b:=⟨id,_,hge,hc,rfl,hb⟩
      have:=V.Zu (K:=K2) cs.length [cs'] 0 off b 0 (fun i j=>vs.getD j undef) (fun r hr => ?_) (fun i j r av hr hj => ?_) (fun i j r av hr hj => ?_)
      ·simpa using this
      ·rw [aoa] at hr;rw [hr,t1]
      ·have:i=0:=by
        have:=(al3.1 hr).1;simp at this;exact this
       subst this;simp at hr;subst hr;obtain ⟨a0,e4,e5⟩:=t2 j av hj;have hlt:j<vs.size:=anb (al3.1 e4).1 h4;show (if NB b then _ else _)=_;rw [if_pos hnb,de h3,aof,amJ,amz hlt];simp [Array.getD,hlt]
      ·have:i=0:=by
        have:=(al3.1 hr).1;simp at this;exact this
       subst this;simp at hr;subst hr;obtain ⟨a0,e4,e5⟩:=t2 j av hj;exact ih (h5 _ _ e4) e5
     ·cases he
   |map id b hb=>
    dsimp only at he;cases hlt:Nat.blt id n with
    |true=>
     rw [hlt] at he;cases he;rw [anv] at hlt;exact .map id b (kD hb hlt)
    |false=>
     rw [hlt,cond_false] at he
     have hge:n≤id:=by
      refine anA fun e => ?_
      rw [← anv,hlt] at e;cases e
     split at he
     ·rename_i es hc
      obtain ⟨es',hes,rfl⟩:=eL he;obtain ⟨t1,t2⟩:=fx hes;obtain ⟨b2,mes,clock,h1,h2,h3,h4,h5,h6⟩:=hi'.obj _ _ hc;rw [hb] at h1;cases h1;have hnb:NB b:=⟨id,_,hge,hc,rfl,hb⟩
      refine .Z2 es' b mes ((if_pos hnb).trans (by simp [vI,h3])) (t1.trans h4) (fun i k v he => ?_) (fun i k v he => ?_)
      ·obtain ⟨e0,g0,g0'⟩:=t2 i _ he
       obtain ⟨f1,f2⟩:=pW g0';obtain ⟨e,g1,g2,g3⟩:=h5 i e0.1 e0.2 g0;rw [show mes.getD i ⟨undef,undef,0⟩=e by simp [amd,g1]];exact ih g2 f1
      ·obtain ⟨e0,g0,g0'⟩:=t2 i _ he
       obtain ⟨f1,f2⟩:=pW g0';obtain ⟨e,g1,g2,g3⟩:=h5 i e0.1 e0.2 g0;rw [show mes.getD i ⟨undef,undef,0⟩=e by simp [amd,g1]];exact ih g3 f2
     ·cases he
   |Z2 es b mes hb hl hk1 hv1=>
    dsimp only at he;obtain ⟨es',hes,rfl⟩:=eL he;obtain ⟨t1,t2⟩:=fx hes;refine .Z2 es' b mes (hle.shape _ _ hb) (t1.trans hl) (fun i k v he => ?_) (fun i k v he => ?_)
    ·obtain ⟨e0,g0,g0'⟩:=t2 i _ he
     obtain ⟨f1,f2⟩:=pW g0';exact ih (hk1 i e0.1 e0.2 g0) f1
    ·obtain ⟨e0,g0,g0'⟩:=t2 i _ he
     obtain ⟨f1,f2⟩:=pW g0';exact ih (hv1 i e0.1 e0.2 g0) f2
   |Zo tag esz a h=>
    cases he;cases tag with
    |nil=>rw [h.2.1 rfl];exact .Zo .nil esz none ⟨fun _ e=>(by cases e),fun _=>rfl,fun e=>(by cases e)⟩
    |some=>exact absurd rfl h.2.2
    |any=>exact .Zo .any esz a ⟨fun _ e=>(by cases e),fun e=>(by cases e),fun e=>(by cases e)⟩
    |full=>exact .Zo .any esz a ⟨fun _ e=>(by cases e),fun e=>(by cases e),fun e=>(by cases e)⟩
    |own t=>exact .Zo .any esz a ⟨fun _ e=>(by cases e),fun e=>(by cases e),fun e=>(by cases e)⟩
   |Zk tag esz a cap h=>
    cases he;rcases h with rfl | ⟨rfl,h⟩
    ·exact .Zk .any esz a cap (.inl rfl)
    ·exact .Zk .some esz a cap (.inr ⟨rfl,h⟩)
   |slice tag esz rows b o cap vs hl him hvv hc ht=>
    dsimp only at he;obtain ⟨rows',hrows,rfl⟩:=eL he;obtain ⟨t1,t2⟩:=two hrows;have htag:Cy K2 tag.fzd b o esz rows' cap:=by cases tag<;>first | trivial | exact (ht:False).elim
    have:=V.slice (K:=K2) tag.fzd esz rows' b o cap vs (fun r hr => ?_) (fun i j r av hr hj => ?_) (fun i j r av hr hj => ?_) (by rw [t1];exact hc) htag
    ·rwa [t1] at this
    ·obtain ⟨i,hi1⟩:=ani.1 hr
     obtain ⟨r0,e1,e2,_⟩:=t2 i r hi1;rw [e2];exact hl r0 (aml e1)
    ·obtain ⟨r0,e1,_,e3⟩:=t2 i r hr
     obtain ⟨a0,e4,e5⟩:=e3 j av hj;exact hle.ZO _ _ _ (him i j r0 a0 e1 e4)
    ·obtain ⟨r0,e1,_,e3⟩:=t2 i r hr
     obtain ⟨a0,e4,e5⟩:=e3 j av hj;exact ih (hvv i j r0 a0 e1 e4) e5
   |Zu esz rows i off b o vs hl him hvv=>
    dsimp only at he;obtain ⟨rows',hrows,rfl⟩:=eL he;obtain ⟨t1,t2⟩:=two hrows;refine V.Zu (K:=K2) esz rows' i off b o vs (fun r hr => ?_) (fun i j r av hr hj => ?_) (fun i j r av hr hj => ?_)
    ·obtain ⟨i,hi1⟩:=ani.1 hr
     obtain ⟨r0,e1,e2,_⟩:=t2 i r hi1;rw [e2];exact hl r0 (aml e1)
    ·obtain ⟨r0,e1,_,e3⟩:=t2 i r hr
     obtain ⟨a0,e4,e5⟩:=e3 j av hj;exact hle.ZO _ _ _ (him i j r0 a0 e1 e4)
    ·obtain ⟨r0,e1,_,e3⟩:=t2 i r hr
     obtain ⟨a0,e4,e5⟩:=e3 j av hj;exact ih (hvv i j r0 a0 e1 e4) e5
   |ZW=>cases he;exact .ZW _
   |bool b=>cases he;exact .bool b
   |int k n=>cases he;exact .int k n
   |str s=>cases he;exact .str s
   |ZB=>cases he;exact .ZB
   |ZG=>cases he;exact .ZG
   |aba t p=>cases he
   |sdp t rows b cap vs htl ho hl hi hv hc=>cases he
   |fn f first captured vs us h1 h2 hv hu=>
    dsimp only at he;cases e1:dX (Z8 k n H) first with
    |none=>rw [e1] at he;cases he
    |some a'=>
     rw [e1] at he;obtain ⟨b',e2,rfl⟩:=eL he;obtain ⟨t1,t2⟩:=fx e1;obtain ⟨t3,t4⟩:=fx e2;refine .fn f a' b' vs us (t1.trans h1) (t3.trans h2) (fun i av h => ?_) (fun i av h => ?_)
     ·obtain ⟨a0,e4,e5⟩:=t2 i av h
      exact ih (hv i a0 e4) e5
     ·obtain ⟨a0,e4,e5⟩:=t4 i av h
      exact ih (hu i a0 e4) e5
   |Zw=>cases he;exact .Zw
   |iface t v x hx=>
    dsimp only at he;obtain ⟨y,e1,rfl⟩:=eL he;exact .iface t y x (ih hx e1)
   |Zr=>cases he;exact .Zr
   |agg cs vs h1 hv=>
    dsimp only at he;obtain ⟨cs',e1,rfl⟩:=eL he;obtain ⟨g1,g2⟩:=fx e1
    exact .agg _ _ (g1.trans h1) fun i av h=>by
     obtain ⟨a0,e1,e2⟩:=g2 i av h;exact ih (hv i a0 e1) e2
   |tuple cs vs h1 hv=>
    dsimp only at he;obtain ⟨cs',e1,rfl⟩:=eL he;obtain ⟨g1,g2⟩:=fx e1
    exact .tuple _ _ (g1.trans h1) fun i av h=>by
     obtain ⟨a0,e1,e2⟩:=g2 i av h;exact ih (hv i a0 e1) e2
  exact main fu hv hz
 ·
  have hloc:∀ {i b:Nat},i<n→(K'.Zy n).loc[i]?=some b→K'.loc[i]?=some b:=fun {i b} hlt hb=>by
   have h':(K'.loc.take n)[i]?=some b:=hb;rwa [am9 hlt] at h'
  refine ⟨hc1.below,hc1.base,fun b o v h => ?_,hc1.len,fun i y hy => ?_,hc1.inj,fun b t m h => ?_,fun g cs hg=>(hc1.ZC g cs hg).mono hle,fun b s h => ?_⟩
  ·have h':(if NB b then w'.cell? ⟨b,o,none⟩ else K'.ZO b o)=some v:=h
   split at h'
   ·exact h'
   ·exact hi'.ZO b o v h'
  ·have hlt:i<n:=by
    have:=(al3.1 hy).1;simp at this;omega
   have hy':H[i]?=some y:=by rwa [am9 hlt] at hy
   by_cases ly:y.live=true
   ·refine (hc1.obj i y hy).mono hle (fun _ _ _ _=>rfl) (fun b hb _ => ?_)
    have hnb:=hNI hlt hy' ly (hloc hlt hb);exact ⟨fun o h=>(if_neg hnb).trans h,fun h=>h,fun h=>(if_neg hnb).trans h⟩
   ·cases y<;>first | exact absurd rfl ly | trivial
  ·obtain ⟨g1,fr,us,T',lo,hh,g2,g3,g4,g5,g6⟩:=hc1.own b t m h
   obtain ⟨g7,_⟩:=aC.abb h;have hnb:¬ NB b:=fun e=>by rw [hNO b e] at g7;cases g7
   exact ⟨g1,fr,us,T',lo,hh,g2,g3,g4,g5,fun o v hv=>g6 o v (by
    have h':(if NB b then w'.cell? ⟨b,o,none⟩ else K'.ZO b o)=some v:=hv;rwa [if_neg hnb] at h')⟩
  ·have hs':(if NB b then vI w' b else K'.shape b)=some s:=h
   split at hs'
   ·exact D7 hs'
   ·exact hi'.shape b s hs'
theorem QT(n:Nat)(H:List Y4):(qO n H).length=H.length:=by
 simp [qO];omega
theorem M0(n:Nat)(H:List Y4)(i:Nat):(qO n H)[i]?=if i<n then H[i]? else (H[i]?).map fun x=>if x.live then .dead else x:=by
 unfold qO
 by_cases hi:i<n
 ·rw [if_pos hi]
  by_cases hl:i<H.length
  ·rw [al7 (by simp;omega),am9 hi]
  ·rw [am0 (by simp;omega),am0 (by omega)]
 ·rw [if_neg hi]
  by_cases hl:n≤H.length
  ·rw [amm (by simp;omega),an7,aoZ hl,amK,amM]
   congr 2;omega
  ·rw [am0 (by simp;omega),am0 (by omega)];rfl
theorem QU{n:Nat}{H:List Y4}{i:Nat}{y:Y4}(h:(qO n H)[i]?=some y):(i<n∧H[i]?=some y)∨(n≤i∧∃ x,H[i]?=some x∧y=if x.live then .dead else x):=by
 rw [M0] at h;split at h
 ·rename_i hi;exact .inl ⟨hi,h⟩
 ·rename_i hi
  obtain ⟨x,h1,h2⟩:=eL h;exact .inr ⟨by omega,x,h1,h2.symm⟩
theorem QV{n:Nat}{H:List Y4}{t fr:Nat}{T:TypeId}(h:H[t]?=some (.tok fr T)):(qO n H)[t]?=some (.tok fr T):=by
 rw [M0,h];split<;>rfl
theorem SE{n:Nat}{H:List Y4}{v v':AV}(hz:Fz n H v v'):PA n H v v':=by
 classical
 intro K' w' x hi' hv;obtain ⟨fu,hz⟩:=hz
 let NB:Nat→Prop:=fun b => ∃ (id:Nat) (x:Y4),n≤id∧H[id]?=some x∧x.live=true∧K'.loc[id]?=some b
 have hNM:∀ b,NB b→K'.base b:=fun b ⟨id,x,h1,h2,h3,h4⟩=>by
  obtain ⟨b',h5,h6,_⟩:=hi'.ZF h2 h3;rw [h4] at h5;cases h5;exact h6
 have hNO:∀ b,NB b→K'.own b=none:=fun b ⟨id,x,h1,h2,h3,h4⟩=>hi'.abD h2 h3 h4
 have hNI:∀ {i b:Nat}{x:Y4},i<n→H[i]?=some x→x.live=true→K'.loc[i]?=some b→¬ NB b:=fun {i b x} h1 h2 h3 h4 ⟨id,y,g1,g2,g3,g4⟩=>
  hi'.inj i id x y h2 g2 h3 g3 (by omega) (h4.trans g4.symm)
 let K2:aC := { K' with ZO:=fun b o=>if NB b then w'.cell? ⟨b,o,none⟩ else K'.ZO b o,shape:=fun b=>if NB b then vI w' b else K'.shape b }
 have hle:K'.le K2:=by
  refine ⟨fun b o x hx => ?_,fun _ _ h=>h,fun _ _ h=>h,rfl,rfl,rfl,fun b s hs => ?_,fun b hb => ?_⟩
  ·have hx':K'.ZO b o=some x:=hx
   show (if NB b then _ else _)=_;split
   ·exact hi'.ZO b o x hx'
   ·exact hx'
  ·have hs':K'.shape b=some s:=hs
   show (if NB b then _ else _)=_;split
   ·exact Io (hi'.shape b s hs')
   ·exact hs'
  ·have hnb:¬ NB b:=fun e=>hb (hNM b e)
   exact ⟨fun o=>if_neg hnb,if_neg hnb⟩
 refine ⟨K2,hle, ?_, ?_⟩
 ·
  have main:∀ (k:Nat) {a a':AV}{x:Value},V K' a x→Z8 k n H a=some a'→V K2 a' x:=by
   intro k;induction k with
   |zero=>intro a a' x _ he;cases he
   |succ k ih=>
   intro a a' x hx he;have one:∀ {l l':List AV},dX (Z8 k n H) l=some l'→l'.length=l.length∧(∀ (j:Nat) (av:AV),l'[j]?=some av→∃ a0,l[j]?=some a0∧Z8 k n H a0=some av):=fun h=>fx h
   have two:∀ {rows rows':List (List AV)},dX (dX (Z8 k n H)) rows=some rows'→rows'.length=rows.length∧(∀ (i:Nat) (r:List AV),rows'[i]?=some r→∃ r0,rows[i]?=some r0∧r.length=r0.length∧∀ (j:Nat) (av:AV),r[j]?=some av→∃ a0,r0[j]?=some a0∧Z8 k n H a0=some av):=fun h=>by
    obtain ⟨g1,g2⟩:=fx h;refine ⟨g1,fun i r hr => ?_⟩;obtain ⟨r0,e1,e2⟩:=g2 i r hr;obtain ⟨e3,e4⟩:=fx e2;exact ⟨r0,e1,e3,e4⟩
   rw [Z8.eq_def] at he;cases hx with
   |Za id off len esz room b cap hb hcap hro=>
    dsimp only at he;cases hlt:Nat.blt id n with
    |true=>
     rw [hlt] at he;cases he;rw [anv] at hlt;refine .Za id off len esz room b cap hb hcap fun hr => ?_
     obtain ⟨m,h1,h2⟩:=hro hr;exact ⟨m,hle.shape _ _ h1,h2⟩
    |false=>
     rw [hlt,cond_false] at he
     have hge:n≤id:=by
      refine anA fun e => ?_
      rw [← anv,hlt] at e;cases e
     split at he
     ·rename_i cs T0 hc
      cases hcnd:Nat.ble (off+len*esz) cs.length with
      |false=>rw [hcnd] at he;cases he
      |true=>
       rw [hcnd,cond_true] at he;have hsz:=anO hcnd;obtain ⟨rows',hrows,rfl⟩:=eL he;obtain ⟨t1,t2⟩:=two hrows;rw [oC] at t1;obtain ⟨b2,vs,T2,h1,h2,h3,h4,h5,h6,h7,h8,h9⟩:=hi'.obj _ _ hc;rw [hb] at h1;cases h1;have hnb:NB b:=⟨id,_,hge,hc,rfl,hb⟩
       have row:∀ (i j:Nat) (r:List AV) (av:AV),(iT esz len (cs.drop off))[i]?=some r→r[j]?=some av→i<len∧j<esz∧cs[off+i*esz+j]?=some av:=fun i j r av hr hj=>by
        obtain ⟨g1,rfl⟩:=nu esz len (cs.drop off) i r hr;rw [amE] at hj;split at hj
        ·rename_i hlt
         rw [amM,amM] at hj;exact ⟨g1,hlt,by rw [← hj];congr 1;omega⟩
        ·cases hj
       have:=V.slice (K:=K2) .any esz rows' b off cap (fun i j=>vs.getD (off+i*esz+j) undef) (fun r hr => ?_) (fun i j r av hr hj => ?_) (fun i j r av hr hj => ?_) (by rw [t1];exact hcap) trivial
       ·rwa [t1] at this
       ·obtain ⟨i,hi1⟩:=ani.1 hr
        obtain ⟨r0,e1,e2,_⟩:=t2 i r hi1;obtain ⟨g1,rfl⟩:=nu esz len (cs.drop off) i r0 e1
        have:i*esz+esz≤len*esz:=by rw [← am7];exact amR _ g1
        rw [e2];simp;omega
       ·obtain ⟨r0,e1,_,e3⟩:=t2 i r hr
        obtain ⟨a0,e4,e5⟩:=e3 j av hj;obtain ⟨g1,g2,g3⟩:=row i j r0 a0 e1 e4;have hlt:off+i*esz+j<vs.size:=anb (al3.1 g3).1 h4;show (if NB b then _ else _)=_;rw [if_pos hnb,de h3,amz hlt];simp [Array.getD,hlt]
       ·obtain ⟨r0,e1,_,e3⟩:=t2 i r hr
        obtain ⟨a0,e4,e5⟩:=e3 j av hj;obtain ⟨g1,g2,g3⟩:=row i j r0 a0 e1 e4;exact ih (h5 _ _ g3) e5
     ·cases he
   |ptr id off b hb=>
    dsimp only at he;cases hlt:Nat.blt id n with
    |true=>
     rw [hlt] at he;cases he;rw [anv] at hlt;exact .ptr id off b hb
    |false=>
     rw [hlt,cond_false] at he
     have hge:n≤id:=by
      refine anA fun e => ?_
      rw [← anv,hlt] at e;cases e
     split at he
     ·rename_i cs T0 hc
      obtain ⟨cs',hcs,rfl⟩:=eL he;obtain ⟨t1,t2⟩:=one hcs;obtain ⟨b2,vs,T2,h1,h2,h3,h4,h5,h6,h7,h8,h9⟩:=hi'.obj _ _ hc;rw [hb] at h1;cases h1;have hnb:NB b:=⟨id,_,hge,hc,rfl,hb⟩
      have:=V.Zu (K:=K2) cs.length [cs'] 0 off b 0 (fun i j=>vs.getD j undef) (fun r hr => ?_) (fun i j r av hr hj => ?_) (fun i j r av hr hj => ?_)
      ·simpa using this
      ·rw [aoa] at hr;rw [hr,t1]
      ·have:i=0:=by
        have:=(al3.1 hr).1;simp at this;exact this
       subst this;simp at hr;subst hr;obtain ⟨a0,e4,e5⟩:=t2 j av hj;have hlt:j<vs.size:=anb (al3.1 e4).1 h4;show (if NB b then _ else _)=_;rw [if_pos hnb,de h3,aof,amJ,amz hlt];simp [Array.getD,hlt]
      ·have:i=0:=by
        have:=(al3.1 hr).1;simp at this;exact this
       subst this;simp at hr;subst hr;obtain ⟨a0,e4,e5⟩:=t2 j av hj;exact ih (h5 _ _ e4) e5
     ·cases he
   |map id b hb=>
    dsimp only at he;cases hlt:Nat.blt id n with
    |true=>
     rw [hlt] at he;cases he;rw [anv] at hlt;exact .map id b hb
    |false=>
     rw [hlt,cond_false] at he
     have hge:n≤id:=by
      refine anA fun e => ?_
      rw [← anv,hlt] at e;cases e
     split at he
     ·rename_i es hc
      obtain ⟨es',hes,rfl⟩:=eL he;obtain ⟨t1,t2⟩:=fx hes;obtain ⟨b2,mes,clock,h1,h2,h3,h4,h5,h6⟩:=hi'.obj _ _ hc;rw [hb] at h1;cases h1;have hnb:NB b:=⟨id,_,hge,hc,rfl,hb⟩
      refine .Z2 es' b mes ((if_pos hnb).trans (by simp [vI,h3])) (t1.trans h4) (fun i k v he => ?_) (fun i k v he => ?_)
      ·obtain ⟨e0,g0,g0'⟩:=t2 i _ he
       obtain ⟨f1,f2⟩:=pW g0';obtain ⟨e,g1,g2,g3⟩:=h5 i e0.1 e0.2 g0;rw [show mes.getD i ⟨undef,undef,0⟩=e by simp [amd,g1]];exact ih g2 f1
      ·obtain ⟨e0,g0,g0'⟩:=t2 i _ he
       obtain ⟨f1,f2⟩:=pW g0';obtain ⟨e,g1,g2,g3⟩:=h5 i e0.1 e0.2 g0;rw [show mes.getD i ⟨undef,undef,0⟩=e by simp [amd,g1]];exact ih g3 f2
     ·cases he
   |Z2 es b mes hb hl hk1 hv1=>
    dsimp only at he;obtain ⟨es',hes,rfl⟩:=eL he;obtain ⟨t1,t2⟩:=fx hes;refine .Z2 es' b mes (hle.shape _ _ hb) (t1.trans hl) (fun i k v he => ?_) (fun i k v he => ?_)
    ·obtain ⟨e0,g0,g0'⟩:=t2 i _ he
     obtain ⟨f1,f2⟩:=pW g0';exact ih (hk1 i e0.1 e0.2 g0) f1
    ·obtain ⟨e0,g0,g0'⟩:=t2 i _ he
     obtain ⟨f1,f2⟩:=pW g0';exact ih (hv1 i e0.1 e0.2 g0) f2
   |Zo tag esz a h=>
    cases he;cases tag with
    |nil=>rw [h.2.1 rfl];exact .Zo .nil esz none ⟨fun _ e=>(by cases e),fun _=>rfl,fun e=>(by cases e)⟩
    |some=>exact absurd rfl h.2.2
    |any=>exact .Zo .any esz a ⟨fun _ e=>(by cases e),fun e=>(by cases e),fun e=>(by cases e)⟩
    |full=>exact .Zo .any esz a ⟨fun _ e=>(by cases e),fun e=>(by cases e),fun e=>(by cases e)⟩
    |own t=>exact .Zo .any esz a ⟨fun _ e=>(by cases e),fun e=>(by cases e),fun e=>(by cases e)⟩
   |Zk tag esz a cap h=>
    cases he;rcases h with rfl | ⟨rfl,h⟩
    ·exact .Zk .any esz a cap (.inl rfl)
    ·exact .Zk .some esz a cap (.inr ⟨rfl,h⟩)
   |slice tag esz rows b o cap vs hl him hvv hc ht=>
    dsimp only at he;obtain ⟨rows',hrows,rfl⟩:=eL he;obtain ⟨t1,t2⟩:=two hrows;have htag:Cy K2 tag.fzd b o esz rows' cap:=by cases tag<;>first | trivial | exact (ht:False).elim
    have:=V.slice (K:=K2) tag.fzd esz rows' b o cap vs (fun r hr => ?_) (fun i j r av hr hj => ?_) (fun i j r av hr hj => ?_) (by rw [t1];exact hc) htag
    ·rwa [t1] at this
    ·obtain ⟨i,hi1⟩:=ani.1 hr
     obtain ⟨r0,e1,e2,_⟩:=t2 i r hi1;rw [e2];exact hl r0 (aml e1)
    ·obtain ⟨r0,e1,_,e3⟩:=t2 i r hr
     obtain ⟨a0,e4,e5⟩:=e3 j av hj;exact hle.ZO _ _ _ (him i j r0 a0 e1 e4)
    ·obtain ⟨r0,e1,_,e3⟩:=t2 i r hr
     obtain ⟨a0,e4,e5⟩:=e3 j av hj;exact ih (hvv i j r0 a0 e1 e4) e5
   |Zu esz rows i off b o vs hl him hvv=>
    dsimp only at he;obtain ⟨rows',hrows,rfl⟩:=eL he;obtain ⟨t1,t2⟩:=two hrows;refine V.Zu (K:=K2) esz rows' i off b o vs (fun r hr => ?_) (fun i j r av hr hj => ?_) (fun i j r av hr hj => ?_)
    ·obtain ⟨i,hi1⟩:=ani.1 hr
     obtain ⟨r0,e1,e2,_⟩:=t2 i r hi1;rw [e2];exact hl r0 (aml e1)
    ·obtain ⟨r0,e1,_,e3⟩:=t2 i r hr
     obtain ⟨a0,e4,e5⟩:=e3 j av hj;exact hle.ZO _ _ _ (him i j r0 a0 e1 e4)
    ·obtain ⟨r0,e1,_,e3⟩:=t2 i r hr
     obtain ⟨a0,e4,e5⟩:=e3 j av hj;exact ih (hvv i j r0 a0 e1 e4) e5
   |ZW=>cases he;exact .ZW _
   |bool b=>cases he;exact .bool b
   |int k n=>cases he;exact .int k n
   |str s=>cases he;exact .str s
   |ZB=>cases he;exact .ZB
   |ZG=>cases he;exact .ZG
   |aba t p=>cases he
   |sdp t rows b cap vs htl ho hl hi hv hc=>cases he
   |fn f first captured vs us h1 h2 hv hu=>
    dsimp only at he;cases e1:dX (Z8 k n H) first with
    |none=>rw [e1] at he;cases he
    |some a'=>
     rw [e1] at he;obtain ⟨b',e2,rfl⟩:=eL he;obtain ⟨t1,t2⟩:=fx e1;obtain ⟨t3,t4⟩:=fx e2;refine .fn f a' b' vs us (t1.trans h1) (t3.trans h2) (fun i av h => ?_) (fun i av h => ?_)
     ·obtain ⟨a0,e4,e5⟩:=t2 i av h
      exact ih (hv i a0 e4) e5
     ·obtain ⟨a0,e4,e5⟩:=t4 i av h
      exact ih (hu i a0 e4) e5
   |Zw=>cases he;exact .Zw
   |iface t v x hx=>
    dsimp only at he;obtain ⟨y,e1,rfl⟩:=eL he;exact .iface t y x (ih hx e1)
   |Zr=>cases he;exact .Zr
   |agg cs vs h1 hv=>
    dsimp only at he;obtain ⟨cs',e1,rfl⟩:=eL he;obtain ⟨g1,g2⟩:=fx e1
    exact .agg _ _ (g1.trans h1) fun i av h=>by
     obtain ⟨a0,e1,e2⟩:=g2 i av h;exact ih (hv i a0 e1) e2
   |tuple cs vs h1 hv=>
    dsimp only at he;obtain ⟨cs',e1,rfl⟩:=eL he;obtain ⟨g1,g2⟩:=fx e1
    exact .tuple _ _ (g1.trans h1) fun i av h=>by
     obtain ⟨a0,e1,e2⟩:=g2 i av h;exact ih (hv i a0 e1) e2
  exact main fu hv hz
 ·
  have nl:∀ (i:Nat) (y:Y4),(qO n H)[i]?=some y→y.live=true→i<n∧H[i]?=some y:=fun i y hy ly=>by
   rcases QU hy with h | ⟨_,x,_,rfl⟩
   ·exact h
   ·cases hx:x.live with
    |true=>rw [if_pos hx] at ly;cases ly
    |false=>rw [if_neg (by rw [hx];decide),hx] at ly;cases ly
  refine ⟨hi'.below,hi'.base,fun b o v h => ?_,by rw [QT];exact hi'.len,fun i y hy => ?_,fun i j y z hy hz ly lz hij=>hi'.inj i j y z (nl i y hy ly).2 (nl j z hz lz).2 ly lz hij,fun b t m h => ?_,fun g cs hg=>(hi'.ZC g cs hg).mono hle,fun b s h => ?_⟩
  ·have h':(if NB b then w'.cell? ⟨b,o,none⟩ else K'.ZO b o)=some v:=h
   split at h'
   ·exact h'
   ·exact hi'.ZO b o v h'
  ·by_cases ly:y.live=true
   ·obtain ⟨hlt,hy'⟩:=nl i y hy ly
    refine (hi'.obj i y hy').mono hle (fun _ _ _ _=>rfl) (fun b hb _ => ?_);have hnb:=hNI hlt hy' ly hb;exact ⟨fun o h=>(if_neg hnb).trans h,fun h=>h,fun h=>(if_neg hnb).trans h⟩
   ·cases y<;>first | exact absurd rfl ly | trivial
  ·obtain ⟨g1,fr,us,T',lo,hh,g2,g3,g4,g5,g6⟩:=hi'.own b t m h
   have hnb:¬ NB b:=fun e=>by rw [hNO b e] at h;cases h
   exact ⟨g1,fr,us,T',lo,hh,QV g2,g3,g4,g5,fun o v hv=>g6 o v (by
    have h':(if NB b then w'.cell? ⟨b,o,none⟩ else K'.ZO b o)=some v:=hv;rwa [if_neg hnb] at h')⟩
  ·have hs':(if NB b then vI w' b else K'.shape b)=some s:=h
   split at hs'
   ·exact D7 hs'
   ·exact hi'.shape b s hs'
theorem SF{n:Nat}{H:List Y4}{v v':AV}(h1:Fz n H v v'):bM.fzp n H v=some ⟨v',SE h1⟩:=by
 have h:∃ v',Fz n H v v'∧PA n H v v':=⟨v',h1,SE h1⟩
 have e:Classical.choose h=v':=Fz.uniq (anh h).1 h1;have d:bM.fzp n H v=some ⟨Classical.choose h,(anh h).2⟩:=dif_pos h;rw [d];congr 1;exact apw e
theorem SG{n off t:Nat}{l:List Nat}{a:Env}{H:List Y4}{vs:List AV}(ht:fh a t = .ptr n off)(hl:vs.length=l.length)(hz:Fz n H (.tuple (l.map (fh a))) (.tuple vs)):fzR bM t l a H=some (wm .leaf l vs,qO n H):=by
 unfold fzR;rw [ht];simp only [SF hz];rw [if_pos hl]
theorem gn{α β γ:Type}{f:β→Option γ}{g:α→β}{h:α→γ}:∀ {l:List α},(∀ x∈l,f (g x)=some (h x))→dX f (l.map g)=some (l.map h)
 |[],_=>rfl
 |x::l,hx=>by
  simp only [amN,dX,hx x (apf),gn (l:=l) fun y hy=>hx y (aoz _ hy)]
theorem fO{α β:Type}(f:α→Option β):dX f []=some []:=rfl
theorem aK{α β:Type}{f:α→Option β}{x:α}{y:β}{l:List α}{l':List β}(h1:f x=some y)(h2:dX f l=some l'):dX f (x::l)=some (y::l'):=by
 simp only [dX,h1,h2]
theorem D8{k n:Nat}{H:List Y4}{t:Tag}{sz:Nat}{r r':List (List AV)}(h:dX (dX (Z8 k n H)) r=some r'):Z8 (k+1) n H (.slice t sz r)=some (.slice t.fzd sz r'):=by
 rw [Z8.eq_def];simp only [h,amO]
theorem D9{k n:Nat}{H:List Y4}{r r':List AV}(h:dX (Z8 k n H) r=some r'):Z8 (k+1) n H (.tuple r)=some (.tuple r'):=by
 rw [Z8.eq_def];simp only [h,amO]
theorem SH{k n:Nat}{H:List Y4}{r r':List AV}(h:dX (Z8 k n H) r=some r'):Z8 (k+1) n H (.agg r)=some (.agg r'):=by
 rw [Z8.eq_def];simp only [h,amO]
theorem SI{k n id off:Nat}{H:List Y4}{cs cs':List AV}{T:TypeId}(hid:n≤id)(hx:H[id]?=some (.cells cs T))(h:dX (Z8 k n H) cs=some cs'):Z8 (k+1) n H (.ptr id off)=some (.Zu cs.length [cs'] 0 off):=by
 have:Nat.blt id n=false:=by
  cases e:Nat.blt id n with
  |false=>rfl
  |true=>rw [anv] at e;omega
 rw [Z8.eq_def];simp only [this,cond_false,hx,h,amO]
theorem PK{k n id off:Nat}{H:List Y4}(hid:id<n):Z8 (k+1) n H (.ptr id off)=some (.ptr id off):=by
 have:Nat.blt id n=true:=by rw [anv];exact hid
 rw [Z8.eq_def];simp only [this,cond_true]
theorem Km{k n id off len esz:Nat}{room:Bool}{H:List Y4}{cs:List AV}{rows:List (List AV)}{T:TypeId}(hid:n≤id)(hx:H[id]?=some (.cells cs T))(hs:off+len*esz≤cs.length)(h:dX (dX (Z8 k n H)) (iT esz len (cs.drop off))=some rows):Z8 (k+1) n H (.Za id off len esz room)=some (.slice .any esz rows):=by
 have:Nat.blt id n=false:=by
  cases e:Nat.blt id n with
  |false=>rfl
  |true=>rw [anv] at e;omega
 have h2:Nat.ble (off+len*esz) cs.length=true:=by rw [Nat.ble_eq];exact hs
 rw [Z8.eq_def];simp only [this,cond_false,hx,h2,cond_true,h,amO]
theorem BC(k n:Nat)(H:List Y4)(t:IntKind)(b:Int):Z8 (k+1) n H (.int t b)=some (.int t b):=rfl
theorem jn(k n:Nat)(H:List Y4)(b:List UInt8):Z8 (k+1) n H (.str b)=some (.str b):=rfl
theorem wt{H0 H:List Y4}{v v':AV}(h1:bY H0 H)(h2:Fz H0.length H v v'):iZ bM .deep H0 H v=some (v',H.take H0.length):=by
 unfold iZ;simp only [QS h2 (Ye h1 h2)]
end Go.Am
end
section
namespace Go.Am
open Go.RowKit
structure AG (P:Program) (f:FuncId) (e:Array Value→Sem Value):Prop where
 run:∀ (args:Array Value) (w:World),(callFunc f args).run P w=((e args).run P w).andThen fun v w'=>.ok (.value v) w'
theorem AG.of {P:Program}{f:FuncId}{fn:Func}{e:Array Value→Sem Value} (hf:P.funcs[f]?=some fn) (hname:(fn.name == "runtime.NumGoroutine")=false)
  (hb:fn.body.isNone=true) (hn:Extern.findNext fn=none) (he:Extern.find fn=some e):AG P f e:=⟨fun args w=>run_callFunc_extern hf hname hb hn he args w⟩
section
variable{P:Program}{G:Nat→Option (List AV)}{f:FuncId}{e:Array Value→Sem Value}
theorem AG.calls(h:AG P f e){args:List AV}{H:List Y4}{R:uY→List Y4→Prop}
  (hr:∀ (K:aC) (w:World) (cargs:Array Value),Inv K H w→Vs K args cargs→∃ cv w',(e cargs).run P w = .ok cv w'∧Cz K R (.returned cv) w'):dL P G f args H R:=fun K w cargs _ hi hv=>by
 obtain ⟨cv,w',h1,h2⟩:=hr K w cargs hi hv;exact .inr ⟨cv,w',by rw [h.run,h1];rfl,h2⟩
theorem QW(h:AG P f Extern.BytealgCount.count)(s:List UInt8)(c:Int)(H:List Y4) :
  dL P G f [.str s,.int .u8 c] H fun r H'=>r = .ret (.int .i64 (Lib.countByte s c.toNat.toUInt8:Nat))∧H'=H:=h.calls fun K w cargs hi hv=>by
 obtain ⟨x,y,rfl,hx,hy⟩:=yo hv;cases hx;cases hy;exact ⟨_,_,Lib.run_countString _ _ _,K,.ret (.int .i64 (Lib.countByte s c.toNat.toUInt8:Nat)),H,.refl K,V.int _ _,hi,rfl,rfl⟩
theorem QX(h:AG P f Extern.BytealgIndexByte.indexByte)(s:List UInt8)(c:Int)(H:List Y4) :
  dL P G f [.str s,.int .u8 c] H fun r H'=>r = .ret (.int .i64 (Lib.indexByte s c.toNat.toUInt8))∧H'=H:=h.calls fun K w cargs hi hv=>by
 obtain ⟨x,y,rfl,hx,hy⟩:=yo hv;cases hx;cases hy;exact ⟨_,_,Lib.run_indexByteString _ _ _,K,.ret (.int .i64 (Lib.indexByte s c.toNat.toUInt8)),H,.refl K,V.int _ _,hi,rfl,rfl⟩
theorem SJ(h:AG P f Extern.AbiNoEscape.same)(v:AV)(H:List Y4):dL P G f [v] H fun r H'=>r = .ret v∧H'=H:=h.calls fun K w cargs hi hv=>by
 obtain ⟨x,rfl,hx⟩:=DH hv;exact ⟨_,_,Lib.run_noEscape _ x,K,.ret v,H,.refl K,hx,hi,rfl,rfl⟩
theorem Oy{ps:Array TypeId}{t e:TypeId}(h:AG P f (Extern.BytealgMakeNoZero.makeNoZero ps #[t]))(ht:P.underlying t=some (.slice e))(n:Nat)(hn:n≤281474976710656)(H:List Y4) :
  dL P G f [.int .i64 n] H fun r H'=>r = .ret (.Za H.length 0 n 1 true)∧H'=H++[.cells (List.replicate n .ZW) e]:=h.calls fun K w cargs hi hv=>by
 obtain ⟨x,rfl,hx⟩:=DH hv;cases hx;obtain ⟨cs,h1,h2,_⟩:=Lib.run_makeNoZero w ps t e ht n hn;have hi2:=hi.drew.drew
 have hal:=hi2.aaU (.cells (List.replicate n .ZW) e) (.cells cs e) rfl (some (.rows cs.size)) (fun s h=>by cases h;exact ⟨cs,e,(0,0),by rw [heap_alloc,if_pos rfl],rfl⟩) fun w' hw' g1 g2=>
  ⟨w.drew.drew.heap.size,cs,e,by simp [aC.ZJ],hi2.new,hw',by simpa using h2,fun k av hk=>by
   have:=an2.1 (aml hk);rw [this.2];exact .ZW _,g1,g2,by simp [aC.ZJ],rfl⟩
 refine ⟨_,_,h1,K.ZJ w.drew.drew.heap.size (some (.rows cs.size)),.ret (.Za H.length 0 n 1 true),_,K.aal _ _ hi2.ZZ, ?_,hal,rfl,rfl⟩;exact V.Za _ _ _ _ _ _ _ (by simp [aC.ZJ,← hi.len]) h2 (fun _=>⟨cs.size,by simp [aC.ZJ],by omega⟩)
end
def woK(E0:br)(n:Nat)(f:FuncId)(args:List AV)(H:List Y4):Option (AV×List Nat):=
 bif aaM 0 args then (match Bu UO E0 n f args [] with
  |some (.ret v0,H1)=>match fzV 0 H1 v0 with
   |some v=>some (v,[])
   |none=>none
  |_=>none)
 else bif aaM H.length args&&H.all (SB H.length) then (match Bu UO E0 n f args H with
  |some (.ret v0,H1)=>bif u3 H H1 then (match fzV H.length H1 v0 with
   |some v=>some (v,List.range H.length)
   |none=>none) else none
  |_=>none)
 else none
theorem Iq{n:Nat}{l:List AV}(h:aaM n l=true):∀ a∈l,wkb n a=true:=fun a ha=>by
 obtain ⟨i,hi⟩:=ani.1 ha;exact pV h hi
theorem QY{α:Type}{H H2:List α}(h:∀ i,i<H.length→H2[i]?=H[i]?):H.length≤H2.length:=by
 refine anA fun e => ?_
 have h1:=h H2.length e;rw [am0 (amp _),al4 e] at h1;cases h1
theorem SK{E0:br}(h0:E0.Ok)(hG:∀ n g cs,E0.G g=some cs→aaM n cs=true){n:Nat}{f:FuncId}{args:List AV}{H:List Y4}{v:AV}{L:List Nat}(h:woK E0 n f args H=some (v,L)) :
  ∀ H2:List Y4,(∀ id∈L,id<H.length→H2[id]?=H[id]?)→dL E0.P E0.G f args H2 fun r H'=>r = .ret v∧H'=H2:=by
 intro H2 hag;unfold woK at h;cases hw:aaM 0 args with
 |true=>
  rw [hw,cond_true] at h;split at h
  ·rename_i v0 H1 hc
   split at h
   ·rename_i v' hf
    cases h;exact dL.frame (He:=[]) ((yw h0 n).2 _ _ _ _ _ hc |>.mono fun r H' e=>e) (by simp) hG (Iq hw) (fun x hx=>by simp at hx) hf H2 (by simp) (fun i x hx=>by simp at hx) (fun t fr T ht=>by simp at ht)
   ·cases h
  ·cases h
 |false=>
  rw [hw,cond_false] at h;cases hw2:aaM H.length args&&H.all (SB H.length) with
  |false=>rw [hw2] at h;cases h
  |true=>
   rw [hw2,cond_true] at h;simp only [amb] at hw2;split at h
   ·rename_i v0 H1 hc
    cases hb:u3 H H1 with
    |false=>rw [hb] at h;cases h
    |true=>
     rw [hb,cond_true] at h;split at h
     ·rename_i v' hf
      cases h;exact dL.frame ((yw h0 n).2 _ _ _ _ _ hc |>.mono fun r H' e=>e) (v8 hb) hG (Iq hw2.1) (fun x hx=>amI.1 hw2.2 x hx) hf H2 (QY fun i hi=>hag i (by simpa using hi) hi) (fun i x hx=>.inr ((hag i (by simpa using (al3.1 hx).1) (al3.1 hx).1).trans hx)) (fun t fr T hlt ht=>(hag t (by simpa using hlt) hlt).symm.trans ht)
     ·cases h
   ·cases h
def Ir:List Y4→List Y4→Bool
 |[],_=>true
 |.dead::_,.tok _ _::_=>false
 |.dead::l,_::m=>Ir l m
 |x::l,y::m=>Y4.eqb x y&&Ir l m
 |_,_=>false
theorem PL:∀ {H H2:List Y4},Ir H H2=true→H.length≤H2.length∧(∀ (i:Nat) (x:Y4),H[i]?=some x→x = .dead∨H2[i]?=some x) ∧
  (∀ (t fr:Nat) (T:TypeId),t<H.length→H2[t]?=some (.tok fr T)→H[t]?=some (.tok fr T))
 |[],_,_=>⟨by simp,fun i x h=>by simp at h,fun t fr T h=>by simp at h⟩
 |x::l,[],h=>by cases x<;>simp [Ir] at h
 |x::l,y::m,h=>by
  have key:(x = .dead∧∀ fr T,y≠.tok fr T)∨x=y:=by
   cases x<;>cases y<;>simp only [Ir,amb] at h<;>first | (cases h;done) | exact .inr (Y4.abM h.1) | exact .inl ⟨rfl,fun _ _ e=>by cases e⟩
  have hr:Ir l m=true:=by
   cases x<;>cases y<;>simp only [Ir,amb] at h<;>first | (cases h;done) | exact h.2 | exact h
  obtain ⟨h1,h2,h3⟩:=PL hr;refine ⟨by simpa using h1,fun i z hz => ?_,fun t fr T ht hz => ?_⟩
  ·cases i with
   |zero=>simp at hz;subst hz;rcases key with ⟨h,_⟩ | h
          ·exact .inl h
          ·exact .inr (by simp [h])
   |succ i=>simp at hz;simpa using h2 i z hz
  ·cases t with
   |zero=>simp at hz;subst hz;rcases key with ⟨_,h⟩ | h
          ·exact absurd rfl (h fr T)
          ·simp [h]
   |succ t=>simp at hz ht;simpa using h3 t fr T ht hz
def M1(E0:br)(n:Nat)(f:FuncId)(args:List AV)(H:List Y4):Option AV:=
 bif aaM H.length args&&H.all (SB H.length) then (match Bu UO E0 n f args H with
  |some (.ret v0,H1)=>bif u3 H H1 then fzV H.length H1 v0 else none
  |_=>none)
 else none
theorem Is{E0:br}(h0:E0.Ok)(hG:∀ n g cs,E0.G g=some cs→aaM n cs=true){n:Nat}{f:FuncId}{args:List AV}{He:List Y4}{v:AV}
  (h:M1 E0 n f args He=some v) {H2:List Y4} (hb:Ir He H2=true):dL E0.P E0.G f args H2 fun r H'=>r = .ret v∧H'=H2:=by
 unfold M1 at h;cases hw2:aaM He.length args&&He.all (SB He.length) with
 |false=>rw [hw2] at h;cases h
 |true=>
  rw [hw2,cond_true] at h;simp only [amb] at hw2;split at h
  ·rename_i v0 H1 hc
   cases hb2:u3 He H1 with
   |false=>rw [hb2] at h;cases h
   |true=>
    rw [hb2,cond_true] at h;obtain ⟨h1,h2,h3⟩:=PL hb;exact dL.frame ((yw h0 n).2 _ _ _ _ _ hc |>.mono fun r H' e=>e) (v8 hb2) hG (Iq hw2.1) (fun x hx=>amI.1 hw2.2 x hx) h H2 h1 h2 h3
  ·cases h
end Go.Am
end
section
namespace Go.Am
def cZ(P:Program)(G:Nat→Option (List AV))(f:FuncId)(af:Zj):Prop:=Pz P G af.abu f=some (af.c.strip,af.n,af.res,af.Z7.map fun x=>(x.1,x.2.1,x.2.2.strip))
def Zj.k(a:Zj):Zj:=⟨a.c.strip,a.n,a.res,.Zn,a.abu,none⟩
def LG(P:Program)(G:Nat→Option (List AV))(f:FuncId)(x:Nat×Zj):Prop:=Kc P G f=some (x.1,x.2.c.strip,x.2.n,x.2.res,x.2.abu)∧x.2.Z7=none
theorem SL{α:Type}{C:Nat→α→Prop}{f k:Nat}{a af:α}(hc:C k a)(h:(bif Nat.beq f k then some a else none)=some af):C f af:=by
 cases hb:Nat.beq f k with
 |false=>rw [hb] at h;cases h
 |true=>rw [hb] at h;cases h;rw [amv hb];exact hc
def UZ{α:Type}:List (Nat×α)→Nat→Option α
 |[],_=>none
 |p::l,f=>bif Nat.beq f p.1 then some p.2 else UZ l f
def M3{α:Type}:List (Nat×List (Nat×α))→Nat→Option α
 |[],_=>none
 |p::l,f=>bif Nat.ble f p.1 then UZ p.2 f else M3 l f
def mF{α:Type}(C:Nat→α→Prop):List (Nat×α)→Prop
 |[]=>True
 |p::l=>C p.1 p.2∧mF C l
def LI{α:Type}(C:Nat→α→Prop):List (Nat×List (Nat×α))→Prop
 |[]=>True
 |p::l=>mF C p.2∧LI C l
theorem PM{α:Type}{C:Nat→α→Prop}{f:Nat}{a:α}:∀ {l:List (Nat×α)},mF C l→UZ l f=some a→C f a
 |[],_,h=>by cases h
 |p::l,h,e=>by
  unfold UZ at e;cases hb:Nat.beq f p.1 with
  |true=>rw [hb] at e;cases e;rw [amv hb];exact h.1
  |false=>rw [hb] at e;exact PM h.2 e
theorem It{α:Type}{C:Nat→α→Prop}{f:Nat}{a:α}:∀ {l:List (Nat×List (Nat×α))},LI C l→M3 l f=some a→C f a
 |[],_,h=>by cases h
 |p::l,h,e=>by
  unfold M3 at e;cases hb:Nat.ble f p.1 with
  |true=>rw [hb] at e;exact PM h.1 e
  |false=>rw [hb] at e;exact It h.2 e
end Go.Am
end
section
namespace Go.Am
structure RPc where
 f:FuncId
 args:List AV
 heap:List Y4
 v:AV
def dd(n:Nat)(l:List Y4):List Y4:=List.replicate n .dead++l
def PN(f:FuncId)(args:List AV)(H:List Y4):List RPc→Option AV
 |[]=>none
 |p::ps=>bif Nat.beq f p.f&&AV.acN args p.args&&Ir p.heap H then some p.v else PN f args H ps
def pin(f:FuncId):List RPc→Bool
 |[]=>false
 |p::ps=>bif Nat.beq f p.f then true else pin f ps
def RPc.Ok(P:Program)(G:Nat→Option (List AV))(p:RPc):Prop:=∀ H2,Ir p.heap H2=true→dL P G p.f p.args H2 fun r H'=>r = .ret p.v∧H'=H2
def Yf(E0:br):br := { E0 with wo:=woK E0 100000 }
def WW(E0:br)(ps:List RPc)(f:FuncId)(args:List AV)(H:List Y4):Option Out:=
 match PN f args H ps with
 |some v=>some (.ret v,H)
 |none=>bif pin f ps then Bu UO (Yf E0) 100000 f args H else E0.orc f args H
def EPo(E0:br)(ps:List RPc):br := { E0 with fn:=fun f=>bif pin f ps then none else E0.fn f,orc:=WW E0 ps }
def EP(E0:br)(ps:List RPc):br := { EPo E0 ps with wo:=woK (EPo E0 ps) 100000 }
theorem M4{P:Program}{G:Nat→Option (List AV)}{f:FuncId}{args:List AV}{H:List Y4}{v:AV}:∀ {ps:List RPc},(∀ p∈ps,p.Ok P G)→PN f args H ps=some v→dL P G f args H fun r H'=>r = .ret v∧H'=H
 |[],_,h=>by cases h
 |p::ps,hp,h=>by
  unfold PN at h;cases hb:(Nat.beq f p.f&&AV.acN args p.args&&Ir p.heap H) with
  |true=>
   rw [hb] at h;cases h;simp only [amb] at hb;rw [amv hb.1.1,AV.aa4 hb.1.2];exact hp p (by simp) H hb.2
  |false=>rw [hb] at h;exact M4 (fun q hq=>hp q (by simp [hq])) h
section
variable{E0:br}(h0:E0.Ok)(hG:∀ n g cs,E0.G g=some cs→aaM n cs=true)
include h0 hG in
theorem U0:(Yf E0).Ok:=⟨h0.mixed,h0.fn,h0.dfn,fun _ _ _ _ _ h=>SK h0 hG h,h0.orc,h0.adv⟩
include h0 hG in
theorem WX{ps:List RPc}(hp:∀ p∈ps,p.Ok E0.P E0.G)(hw:∀ f args H,E0.wo f args H=none):(EPo E0 ps).Ok:=⟨h0.mixed,fun f af h=>by
  have h':(bif pin f ps then none else E0.fn f)=some af:=h;cases hb:pin f ps with
  |true=>rw [hb] at h';cases h'
  |false=>rw [hb] at h';exact h0.fn f af h',h0.dfn,(fun f args H v L h=>by
  have h':E0.wo f args H=some (v,L):=h;rw [hw] at h';cases h'),fun f args H r H' h=>by
  have h':WW E0 ps f args H=some (r,H'):=h;unfold WW at h';split at h'
  ·rename_i v hv
   cases h';exact M4 hp hv
  ·cases hb:pin f ps with
   |true=>
    rw [hb] at h';exact ((yw (U0 h0 hG) 100000).2 _ _ _ _ _ h').mono fun r H' e=>e
   |false=>rw [hb] at h';exact h0.orc _ _ _ _ _ h',h0.adv⟩
include h0 hG in
theorem Wo{ps:List RPc}(hp:∀ p∈ps,p.Ok E0.P E0.G)(hw:∀ f args H,E0.wo f args H=none):(EP E0 ps).Ok:=
 have h:=WX h0 hG hp hw
 ⟨h.mixed,h.fn,h.dfn,fun _ _ _ _ _ e=>SK h hG e,h.orc,h.adv⟩
include h0 hG in
theorem BD{ps:List RPc}(hp:∀ p∈ps,p.Ok E0.P E0.G)(hw:∀ f args H,E0.wo f args H=none){p:RPc}(h:M1 (EP E0 ps) 100000 p.f p.args p.heap=some p.v):∀ q∈p::ps,q.Ok E0.P E0.G:=fun q hq=>by
 rcases ank.1 hq with rfl | hq
 ·exact fun H2 hs=>Is (Wo h0 hG hp hw) hG h hs
 ·exact hp q hq
end
end Go.Am
end
section
namespace Go.Am
open Go.RowKit Go.ChangeShapes
def aC.start(W:World)(G:Nat→Option (List AV)):aC:=
 {ZO:=fun b o=>W.cell? ⟨b,o,none⟩,own:=fun _=>none,loc:=[],base:=fun b=>W.heap.size≤b,w0:=W,ZC:=G,shape:=vI W }
theorem Inv.start(W:World)(G:Nat→Option (List AV))(hG:∀ (g:Nat) (cs:List AV),G g=some cs→V (aC.start W G) (.Zu cs.length [cs] 0 0) (.pointer (some ⟨g,0,none⟩))):Inv (aC.start W G) [] W:=
 ⟨uu.refl _ _,fun _ h=>h,fun _ _ _ h=>h,rfl,(fun id x h=>by simp at h),(fun i j x y h=>by simp at h),(fun b t n h=>by cases h),hG,fun b s h=>D7 h⟩
section
variable{P:Program}
theorem QZ{G:Nat→Option (List AV)}{f:FuncId}{args:List AV}{W:World}{cargs:Array Value}(h:dL P G f args [] fun r H'=>r = .ret (.bool true)∧H'=[])
  (hG:∀ (g:Nat) (cs:List AV),G g=some cs→V (aC.start W G) (.Zu cs.length [cs] 0 0) (.pointer (some ⟨g,0,none⟩)))
  (hb:(callFunc f cargs).run P W = .ok (.enter f cargs) W) (hv:Vs (aC.start W G) args cargs):Calls P f cargs W fun e w'=>e = .returned (.bool true)∧Below W.heap.size W w':=by
 rcases h (aC.start W G) W cargs rfl (Inv.start W G hG) hv with ⟨_,h2⟩ | ⟨cv,w',h1,_⟩
 ·refine h2.mono ?_
  rintro e w' ⟨K',r,H',hk,he,hi,rfl,rfl⟩;have hkept:=hi.below;rw [hk.base,hk.w0] at hkept;refine ⟨?_,hkept.below fun b hb=>hb⟩;cases e with
  |panicked c=>exact he.elim
  |outgrown=>exact he.elim
  |returned x=>
   have hx:V K' (.bool true) x:=he;cases hx;rfl
 ·rw [hb] at h1;cases h1
theorem CI{H:Type}{enc:TypeId×Value→H}(hl:laidOutB P=true){W W':World}(hb:Below W.heap.size W W'):∀ (ts:List TypeId) (vs:List Value) (ds:List (DataW H)) (ps:List MemPlace),
  (∀ t∈ts,P.readableRec t=true∧t<P.types.size)→DataW.TrodAll enc P W 0 (fun _=>true) true ts vs ds ps→(∀ x∈ps,x.block<W.heap.size) →
  DataW.TrodAll enc P W' 0 (fun b=>decide (b<W.heap.size)) true ts vs ds ps
 |[],_,_,_,_,h,_=>by
  obtain ⟨rfl,rfl,rfl⟩:=trodAll_nil h;rfl
 |t::ts,_,_,_,hr,h,hlt=>by
  obtain ⟨v,vs1,d,ds1,a,b,rfl,rfl,rfl,h1,h2⟩:=trodAll_cons h;exact ⟨a,b,Below.trod hl (hr t (by simp)).1 (hr t (by simp)).2 h1 hb (fun x hx=>hlt x (by simp [hx])),CI hl hb ts vs1 ds1 b (fun u hu=>hr u (by simp [hu])) h2 (fun x hx=>hlt x (by simp [hx])),rfl⟩
end
end Go.Am
end
section
namespace Go.Am.Sh
open Go.RowKit
abbrev t(n:Nat):RX:=.t n
abbrev i(n:Int):RX:=.c (.int .i64 n)
abbrev u(n:Int):RX:=.c (.int .u8 n)
abbrev T:RX:=.c (.bool true)
abbrev F:RX:=.c (.bool false)
abbrev s(x:List UInt8):RX:=.c (.str x)
abbrev f(n:Nat):RX:=.c (.fn (.func n) [] [])
abbrev o(d:Nat)(x:ROp):RO:=⟨some d,none,.op x⟩
abbrev n(x:ROp):RO:=⟨none,none,.op x⟩
abbrev g(d q:Nat)(x:ROp):RO:=⟨some d,some (q,true),.op x⟩
abbrev h(d q:Nat)(x:ROp):RO:=⟨some d,some (q,false),.op x⟩
abbrev k(d:Nat)(x:RX)(l:List RX):RO:=⟨some d,none,.call x l⟩
abbrev m(d x:Nat):RO:=⟨some d,none,.op (.mv (.t x))⟩
abbrev mc(d:Nat)(x:RX):RO:=⟨some d,none,.op (.mv x)⟩
abbrev ld(d x:Nat):RO:=⟨some d,none,.op (.ld none (.t x))⟩
abbrev la(d j x:Nat):RO:=⟨some d,none,.op (.ld (some j) (.t x))⟩
abbrev fa(d j x:Nat):RO:=⟨some d,none,.op (.fa j (.t x))⟩
abbrev ia(d j x y:Nat):RO:=⟨some d,none,.op (.ias j (.t x) (.t y))⟩
abbrev ls(d x:Nat):RO:=⟨some d,none,.op (.len .sl (.t x))⟩
abbrev lt(d x:Nat):RO:=⟨some d,none,.op (.len .str (.t x))⟩
abbrev ad(d x:Nat):RO:=⟨some d,none,.op (.ar .add (.t x) (.c (.int .i64 1)))⟩
abbrev bl(d x y:Nat):RO:=⟨some d,none,.op (.ar .lss (.t x) (.t y))⟩
abbrev no(d x:Nat):RO:=⟨some d,none,.op (.un .not (.t x))⟩
abbrev ex(d x j:Nat):RO:=⟨some d,none,.op (.ex (.t x) j)⟩
abbrev P(x:RO):RO×Cl:=(x,.pure)
abbrev W(x:RO):RO×Cl:=(x,.wide)
abbrev E(x:RO):RO×Cl:=(x,.eff)
abbrev K(x:RO):RO×Cl:=(x,.Zn)
abbrev Q(x y:AC):AC:=.seq x y
abbrev C(c:Nat)(x y:AC):AC:=.cond (.t c) x y
abbrev O(l:List RO):AC:=.ops l
abbrev D(l:List (RO×Cl)):AC:=.Z0 false [] [] l
abbrev Y(l:List Nat):AC:=.lv l
abbrev R:AC:=.ret
abbrev X:AC:=.skip
abbrev ar(d:Nat)(op:BinOp)(x y:Nat):RO:=⟨some d,none,.op (.ar op (.t x) (.t y))⟩
abbrev ac(d:Nat)(op:BinOp)(x:Nat)(y:RX):RO:=⟨some d,none,.op (.ar op (.t x) y)⟩
abbrev pf(d c x:Nat):RO:=⟨some d,none,.op (.pk (.t c) (.t x) (.c (.bool false)))⟩
abbrev pt(d c x:Nat):RO:=⟨some d,none,.op (.pk (.t c) (.c (.bool true)) (.t x))⟩
abbrev k1(d f x:Nat):RO:=⟨some d,none,.call (.c (.fn (.func f) [] [])) [.t x]⟩
abbrev k2(d f x y:Nat):RO:=⟨some d,none,.call (.c (.fn (.func f) [] [])) [.t x,.t y]⟩
abbrev rt(d:Nat)(x:RX):AC:=.seq (.ops [⟨some d,none,.op (.mv x)⟩]) .ret
abbrev lo(l:List Nat)(x:AC):AC:=.loop ⟨some l,[],false⟩ x
abbrev lc(l:List Nat)(x:AC):AC:=.loop ⟨some l,[],true⟩ x
abbrev ic(b a c:Nat):AC:=.ops [⟨some b,none,.op (.mv (.t a))⟩,⟨some c,none,.op (.ar .add (.t b) (.c (.int .i64 1)))⟩,⟨some a,none,.op (.mv (.t c))⟩]
abbrev Pm(d x:Nat):RO×Cl:=(⟨some d,none,.op (.mv (.t x))⟩,.pure)
abbrev Pf(d j x:Nat):RO×Cl:=(⟨some d,none,.op (.fa j (.t x))⟩,.pure)
abbrev Wl(d x:Nat):RO×Cl:=(⟨some d,none,.op (.ld none (.t x))⟩,.wide)
abbrev qf(a:Zj)(r:List wZ)(m:RM):Prop:=a.res=r∧a.mode=m∧a.Z7=none
end Go.Am.Sh
end
section
namespace Go.Am
open Go.RowKit
theorem Inv.kept{K:aC}{H:List Y4}{w w':World}(hi:Inv K H w)(h:Below w.heap.size w w'):Inv K H w':=by
 have hheap:∀ b,b<w.heap.size→w'.heap[b]?=w.heap[b]? := h.block;refine ⟨⟨h.os.trans hi.below.os,h.tape.trans hi.below.tape,h.output.trans hi.below.output,ams hi.below.size h.size,fun k hk => ?_⟩,fun b hb=>hi.base b (ams h.size hb),fun b off v hv => ?_,hi.len,fun id y hy => ?_,hi.inj,fun b t n ho => ?_,hi.ZC,fun b s hs=>(uv.of_lt hheap).shp (hi.shape b s hs)⟩
 ·by_cases hk2:k<w.heap.size
  ·rw [hheap k hk2];exact hi.below.block k hk
  ·exact absurd (hi.base k (by omega)) hk
 ·rw [mh (hheap b (hi.acz hv))];exact hi.ZO _ _ _ hv
 ·exact (hi.obj id y hy).mono (.refl K) (fun b _ _ hb=>hheap b hb) (fun _ _ _=>⟨fun _ h=>h,fun h=>h,fun h=>h⟩)
 ·obtain ⟨hb,fr,us,T',lo,hh,h1,h2,h3,h4,h5⟩:=hi.own b t n ho
  exact ⟨hb,fr,us,T',lo,hh,h1,by rw [hheap b (amh.1 h2).1];exact h2,h3,h4,h5⟩
end Go.Am
end
section
namespace Go.Am
open Go.RowKit Go.Proofs Go.Lib
theorem SM{K:aC}{H:List Y4}{w:World}(hi:Inv K H w){g:Nat}{cs:List AV}(hg:K.ZC g=some cs){j:Nat}{av:AV}(hj:cs[j]?=some av):∃ u,w.cell? ⟨g,j,none⟩=some u∧V K av u:=by
 have hv:=hi.ZC g cs hg;generalize hp:Value.pointer (some ⟨g,0,none⟩)=v at hv;cases hv with
 |Zu _ _ _ _ b o vs hl hi2 hv2=>
  injection hp with hp;injection hp with hp;injection hp with h1 h2;subst h1;have h0:o=0:=by omega
  subst h0;have h3:=hi.ZO _ _ _ (hi2 0 j cs av rfl hj);have h4:=hv2 0 j cs av rfl hj;exact ⟨vs 0 j,by simpa using h3,h4⟩
def Iu(av:AV)(u:Value):Prop:=
 match av with
 |.int k n=>u = .int k n
 |.iface t .ZW => ∃ p,u = .iface t p
 |_=>False
theorem Iu.v{K:aC}{av:AV}{u:Value}(h:Iu av u):V K av u:=by
 unfold Iu at h;split at h
 ·subst h;exact .int _ _
 ·obtain ⟨p,rfl⟩:=h;exact .iface _ _ _ (.ZW _)
 ·exact h.elim
theorem Iv{G:Nat→Option (List AV)}{W:World}{g:Nat}{cs:List AV}(h:∀ j av,cs[j]?=some av→∃ u,W.cell? ⟨g,j,none⟩=some u∧Iu av u):V (aC.start W G) (.Zu cs.length [cs] 0 0) (.pointer (some ⟨g,0,none⟩)):=by
 have key:=V.Zu (K:=aC.start W G) cs.length [cs] 0 0 g 0 (fun _ j=>(W.cell? ⟨g,j,none⟩).getD .nilIface) (fun r hr=>by simp at hr;rw [hr])
  (fun i j r av h1 h2=>by
   cases i with
   |zero=>
    obtain rfl:r=cs:=by simpa using h1.symm
    obtain ⟨u,h3,_⟩:=h j av h2;simp [aC.start,h3]
   |succ i=>simp at h1)
  (fun i j r av h1 h2=>by
   cases i with
   |zero=>
    obtain rfl:r=cs:=by simpa using h1.symm
    obtain ⟨u,h3,h4⟩:=h j av h2;rw [h3];exact h4.v
   |succ i=>simp at h1)
 simpa using key
def SN:List AV:=[.int .u64 1,.int .u64 10,.int .u64 100,.int .u64 1000,.int .u64 10000,.int .u64 100000,.int .u64 1000000,.int .u64 10000000,.int .u64 100000000,.int .u64 1000000000,.int .u64 10000000000,.int .u64 100000000000,.int .u64 1000000000000,.int .u64 10000000000000,.int .u64 100000000000000,.int .u64 1000000000000000,.int .u64 10000000000000000,.int .u64 100000000000000000,.int .u64 1000000000000000000,.int .u64 10000000000000000000]
def AH(a b c:Nat)(te:TypeId):Nat→Option (List AV):=fun g=>bif Nat.beq g a then some [.iface te .ZW] else bif Nat.beq g b then some [.iface te .ZW] else bif Nat.beq g c then some SN else none
theorem M5{a b c:Nat}{te:TypeId}{W:World}(ha:∃ p,W.cell? ⟨a,0,none⟩=some (.iface te p))(hb:∃ p,W.cell? ⟨b,0,none⟩=some (.iface te p))(hc:∀ j av,SN[j]?=some av→∃ u,W.cell? ⟨c,j,none⟩=some u∧Iu av u)(g:Nat)(cs:List AV)(h:AH a b c te g=some cs):V (aC.start W (AH a b c te)) (.Zu cs.length [cs] 0 0) (.pointer (some ⟨g,0,none⟩)):=by
 have one:∀ x,(∃ p,W.cell? ⟨x,0,none⟩=some (.iface te p))→V (aC.start W (AH a b c te)) (.Zu 1 [[.iface te .ZW]] 0 0) (.pointer (some ⟨x,0,none⟩)):=fun x ⟨p,hp⟩=>Iv (cs:=[.iface te .ZW]) fun j av hj=>by
  cases j with
  |zero=>cases hj;exact ⟨_,hp,p,rfl⟩
  |succ j=>simp at hj
 unfold AH at h;cases h1:Nat.beq g a with
 |true=>rw [h1] at h;cases h;rw [amv h1];exact one a ha
 |false=>
  rw [h1] at h;cases h2:Nat.beq g b with
  |true=>rw [h2] at h;cases h;rw [amv h2];exact one b hb
  |false=>
   rw [h2] at h;cases h3:Nat.beq g c with
   |true=>rw [h3] at h;cases h;rw [amv h3];exact Iv hc
   |false=>rw [h3] at h;cases h
theorem SO{a b c:Nat}{te:TypeId}(n g:Nat)(cs:List AV)(h:AH a b c te g=some cs):aaM n cs=true:=by
 unfold AH at h;cases h1:Nat.beq g a with
 |true=>rw [h1] at h;cases h;rfl
 |false=>
  rw [h1] at h;cases h2:Nat.beq g b with
  |true=>rw [h2] at h;cases h;rfl
  |false=>
   rw [h2] at h;cases h3:Nat.beq g c with
   |true=>rw [h3] at h;cases h;rfl
   |false=>rw [h3] at h;cases h
def LJ(s:List UInt8):Int:=match Lib.atoiAll s with
 |.ok v=>v
 |.range=>Lib.atoiSat s
 |_=>0
def LL(tn:TypeId)(s:List UInt8):AV:=match Lib.atoiAll s with
 |.ok _=>.Zr
 |_=>.iface tn .ZW
theorem SP{P:Program}{f:FuncId}{a b c:Nat}{te tn tb:TypeId}(hba:Nat.beq b a=false)(ef:∀ args w,(callFunc f args).run P w = .ok (.enter f args) w)
  (hok:∀ (s:ByteArray) (v:Int),s.size≤9223372036854775806→Lib.atoiAll s.data.toList = .ok v→∀ w,Calls P f #[.string s] w fun e w'=>e = .returned (.tuple #[.int .i64 v,.nilIface])∧(w'=w∨∃ t,w'=Lib.bytesWorld w tb t))
  (hsy:∀ (s:ByteArray),s.size≤281474976710656→(∀ v,Lib.atoiAll s.data.toList≠.ok v)→Lib.atoiAll s.data.toList≠.range→∀ (ev:Value) (w:World),w.cell? ⟨a,0,none⟩=some ev→(ev = .nilIface∨∃ te pe,ev = .iface te pe)→Calls P f #[.string s] w fun e w' => ∃ N,e = .returned (.tuple #[.int .i64 0,.iface tn (.pointer (some ⟨N,0,none⟩))])∧Below w.heap.size w w')
  (hrg:∀ (s:ByteArray),s.size≤281474976710656→Lib.atoiAll s.data.toList = .range→∀ (ev:Value) (w:World),w.cell? ⟨b,0,none⟩=some ev→(ev = .nilIface∨∃ te pe,ev = .iface te pe)→Calls P f #[.string s] w fun e w' => ∃ N,e = .returned (.tuple #[.int .i64 (Lib.atoiSat s.data.toList),.iface tn (.pointer (some ⟨N,0,none⟩))])∧Below w.heap.size w w')
  (s:List UInt8) (hs:s.length≤1000000) (H:List Y4):dL P (AH a b c te) f [.str s] H fun r H'=>r = .ret (.tuple [.int .i64 (LJ s),LL tn s])∧H'=H:=by
 intro K w cargs hg hi hv;obtain ⟨d,rfl,hd⟩:=DH hv;cases hd;have ha:K.ZC a=some [.iface te .ZW]:=by rw [hg];simp [AH]
 have hb:K.ZC b=some [.iface te .ZW]:=by rw [hg];simp [AH,hba]
 have cell:∀ x,K.ZC x=some [.iface te .ZW]→∃ ev,w.cell? ⟨x,0,none⟩=some ev∧(ev = .nilIface∨∃ te pe,ev = .iface te pe):=fun x hx=>by
  obtain ⟨u,h1,h2⟩:=SM hi hx (j:=0) rfl;refine ⟨u,h1,.inr ?_⟩;cases h2;exact ⟨_,_,rfl⟩
 have hsz:(⟨s.toArray⟩:ByteArray).size=s.length:=by simp [ByteArray.size]
 have pair:∀ (x y:AV) (u v:Value),V K x u→V K y v→V K (.tuple [x,y]) (.tuple #[u,v]):=fun x y u v h1 h2=>.tuple _ _ rfl fun i av h=>by
  match i,h with
  |0,h=>cases h;exact h1
  |1,h=>cases h;exact h2
 have hd:(⟨s.toArray⟩:ByteArray).data.toList=s:=by simp
 cases he:Lib.atoiAll s with
 |ok v=>
  refine .inl ⟨ef _ _,(hok ⟨s.toArray⟩ v (by rw [hsz];omega) (by rw [hd];exact he) w).mono ?_⟩;rintro e w' ⟨rfl,hw⟩
  have hbl:Below w.heap.size w w':=by
   rcases hw with rfl | ⟨t,rfl⟩
   ·exact Below.refl _ _
   ·exact Lib.bytesWorld_below _ _ _
  refine ⟨K,.ret (.tuple [.int .i64 (LJ s),LL tn s]),_,.refl K, ?_,hi.kept hbl,rfl,rfl⟩;simp only [LJ,LL,he];exact pair _ _ _ _ (.int _ _) .Zr
 |range=>
  obtain ⟨ev,h1,h2⟩:=cell b hb;refine .inl ⟨ef _ _,(hrg ⟨s.toArray⟩ (by rw [hsz];omega) (by rw [hd];exact he) ev w h1 h2).mono ?_⟩;rintro e w' ⟨N,rfl,hbl⟩;refine ⟨K,.ret (.tuple [.int .i64 (LJ s),LL tn s]),_,.refl K, ?_,hi.kept hbl,rfl,rfl⟩;simp only [LJ,LL,he,hd];exact pair _ _ _ _ (.int _ _) (.iface _ _ _ (.ZW _))
 |_=>
  obtain ⟨ev,h1,h2⟩:=cell a ha;refine .inl ⟨ef _ _,(hsy ⟨s.toArray⟩ (by rw [hsz];omega) (by rw [hd,he];intro v e;cases e) (by rw [hd,he];intro e;cases e) ev w h1 h2).mono ?_⟩;rintro e w' ⟨N,rfl,hbl⟩;refine ⟨K,.ret (.tuple [.int .i64 (LJ s),LL tn s]),_,.refl K, ?_,hi.kept hbl,rfl,rfl⟩;simp only [LJ,LL,he];exact pair _ _ _ _ (.int _ _) (.iface _ _ _ (.ZW _))
def u5(E0:br)(f:FuncId)(d:Nat→List UInt8)(n:Nat):Bool:=match M1 E0 100000 f [.int .i64 (n:Int),.int .i64 10] [] with
 |some (.str s)=>s == d n
 |_=>false
theorem WY{E0:br}(h0:E0.Ok)(hG:∀ n g cs,E0.G g=some cs→aaM n cs=true){f:FuncId}{d:Nat→List UInt8}{n:Nat}(h:u5 E0 f d n=true)(H:List Y4):dL E0.P E0.G f [.int .i64 (n:Int),.int .i64 10] H fun r H'=>r = .ret (.str (d n))∧H'=H:=by
 unfold u5 at h;split at h
 ·rename_i s hs
  rw [← eq_of_beq h];exact Is h0 hG hs rfl
 ·cases h
def SQ(P:Program)(t:TypeId):Bool:=match P.underlying t with
 |some (.interface _)=>true
 |_=>false
def Wp(P:Program)(te:TypeId):Bool:=match P.underlying te with
 |some (.pointer e)=>(match P.underlying e with
  |some (.struct fs)=>(match fs with
   |⟨[f]⟩=>(match P.underlying f.type with
    |some .string=>true
    |_=>false)&&Nat.beq f.offset 0&&Nat.beq (P.cellsOf e) 1&&Nat.beq (P.cellsOf f.type) 1
   |_=>false)
  |_=>false)
 |_=>false
theorem Kn {P:Program}{n:String}{text:List UInt8}{r:List (String×DataW Unit)}{W:World}{g:Nat}{ti te:TypeId} (h:laidMet P ((n,.iface "*errors.errorString" (.ptr (.agg [.lit (.string text)])))::r) W) (hg:P.globalNamed n=some g) (ht:(P.globals[g]?).map (·.type)=some ti) (hi:SQ P ti=true)
  (hrow:∀ u,P.typeName? 3 u=some "*errors.errorString"→u=te) (hs:Wp P te=true):∃ p,W.cell? ⟨g,0,none⟩=some (.iface te p):=by
 unfold SQ at hi;split at hi
 ·rename_i ms hms
  unfold Wp at hs;split at hs
  ·rename_i e hp
   split at hs
   ·rename_i fs he
    split at hs
    ·rename_i f
     simp only [amb] at hs;obtain ⟨⟨⟨h1,h2⟩,h3⟩,h4⟩:=hs;split at h1
     ·rename_i hst
      obtain ⟨a,s,hv,_⟩:=laid_sentinel h hg ht hms hrow hp he rfl (amv h2) hst (amv h3) (amv h4);have h0:=World.var?_cell hg hv 0;exact ⟨_,by simpa using h0⟩
     ·cases h1
    ·cases hs
   ·cases hs
  ·cases hs
 ·cases hi
def Yg(P:Program)(t:TypeId)(n:Nat):Bool:=match P.underlying t with
 |some (.array m e)=>Nat.beq m n&&(match P.underlying e with
  |some (.int .u64)=>true
  |_=>false)&&Nat.beq (P.cellsOf e) 1&&Nat.beq (P.cellsOf t) n
 |_=>false
theorem U1:∀ j:Fin 20,SN[j.1]?=some (.int .u64 (Lib.pow10Tab.getD j.1 0)):=fun j=>by
 obtain ⟨j,hj⟩:=j
 match j,hj with
 |0,_=>rfl
 |1,_=>rfl
 |2,_=>rfl
 |3,_=>rfl
 |4,_=>rfl
 |5,_=>rfl
 |6,_=>rfl
 |7,_=>rfl
 |8,_=>rfl
 |9,_=>rfl
 |10,_=>rfl
 |11,_=>rfl
 |12,_=>rfl
 |13,_=>rfl
 |14,_=>rfl
 |15,_=>rfl
 |16,_=>rfl
 |17,_=>rfl
 |18,_=>rfl
 |19,_=>rfl
 |j+20,hj=>omega
theorem Q0{P:Program}{W:World}{g:Nat}{t:TypeId}{n:String}{r:List (String×DataW Unit)}(h:laidMet P ((n,tabData .u64 Lib.pow10Tab)::r) W)(hg:P.globalNamed n=some g)(hty:(P.globals[g]?).map (·.type)=some t)(hb:Yg P t 20=true)(j:Nat)(av:AV)(hj:SN[j]?=some av):∃ u,W.cell? ⟨g,j,none⟩=some u∧Iu av u:=by
 unfold Yg at hb;split at hb
 ·rename_i m e ht
  simp only [amb] at hb;obtain ⟨⟨⟨h1,h2⟩,h3⟩,h4⟩:=hb;obtain rfl:=amv h1;split at h2
  ·rename_i he
   have hT:=tabIs_of_head hg hty ht he (amv h3) (amv h4) h;have hlt:j<20:=(al3.1 hj).1;have h5:=U1 ⟨j,hlt⟩;simp only at h5;rw [h5] at hj;cases hj;exact ⟨_,hT.cell hg j (by simpa [Lib.pow10Tab] using hlt),rfl⟩
  ·cases h2
 ·cases hb
def SR(a b c:Nat)(te:TypeId)(W:World):Prop:=(∃ p,W.cell? ⟨a,0,none⟩=some (.iface te p))∧(∃ p,W.cell? ⟨b,0,none⟩=some (.iface te p))∧∀ j av,SN[j]?=some av→∃ u,W.cell? ⟨c,j,none⟩=some u∧Iu av u
theorem SR.start{a b c:Nat}{te:TypeId}{W:World}(h:SR a b c te W)(g:Nat)(cs:List AV)(hg:AH a b c te g=some cs):V (aC.start W (AH a b c te)) (.Zu cs.length [cs] 0 0) (.pointer (some ⟨g,0,none⟩)):=M5 h.1 h.2.1 h.2.2 g cs hg
end Go.Am
end
section
set_option linter.defProp false
namespace Go.Am
open Go.RowKit
abbrev Zc:=List UInt8
abbrev aZ:Nat:=140737488351232
def I64(n:Int):Prop := -9223372036854775808≤n∧n≤9223372036854775807
structure Sl (α:Type) where
 tag:Tag
 l:List α
def Tag.strip:Tag→Tag
 |.own _=>.any
 |t=>t
def Sl.strip{α:Type}(s:Sl α):Sl α:=⟨s.tag.strip,s.l⟩
theorem M6(t:Tag)(n:Nat)(r:List (List AV)):AV.strip (.slice t n r) = .slice t.strip n r:=by cases t<;>rfl
theorem qF:(∀ (t:Tag) (n:Nat) (r:List (List AV)),AV.strip (.slice t n r) = .slice t.strip n r)∧(∀ (x:AV) (l:List AV),List.map AV.strip (x::l)=AV.strip x::List.map AV.strip l)∧List.map AV.strip []=[]∧(∀ a b:List AV,List.map AV.strip (a++b)=List.map AV.strip a++List.map AV.strip b):=
 ⟨M6,fun _ _=>rfl,rfl,fun _ _=>anP⟩
structure Sl.ok {α:Type} (s:Sl α) (n:Nat) (p:α→Prop):Prop where
 tag:Kj n s.tag
 len:s.l.length≤aZ
 all:∀ x∈s.l,p x
theorem Kj.mono{n m:Nat}{t:Tag}(h:Kj n t)(hn:n≤m):Kj m t:=by
 cases t<;>first | trivial | exact anb h hn
theorem Sl.ok.mono{α:Type}{s:Sl α}{n m:Nat}{p q:α→Prop}(h:s.ok n p)(hn:n≤m)(hp:∀ x,p x→q x):s.ok m q:=
 ⟨h.tag.mono hn,h.len,fun x hx=>hp x (h.all x hx)⟩
theorem Sl.ok.wk{α:Type}{s:Sl α}{n esz:Nat}{p:α→Prop}{row:α→List AV}(h:s.ok n p)(hr:∀ x,p x→WkL n (row x) (row x)):Wk n (.slice s.tag esz (s.l.map row)) (.slice s.tag esz (s.l.map row)):=
 abx h.tag (by rw [aaF];exact fun x hx=>hr x (h.all x hx))
def ak(s:Zc):List AV:=[.str s]
def SS(n:Int):List AV:=[.int .i64 n]
theorem dh:(∀ s:Zc,bO none (ak s) 0=some (.str s))∧(∀ n:Int,bO none (SS n) 0=some (.int .i64 n)):=⟨fun _=>rfl,fun _=>rfl⟩
structure aw where
 name:Zc
 value:Zc
def aw.row(x:aw):List AV:=[.str x.name,.str x.value]
theorem pX:(∀ x:aw,rp 2 (aw.row x)=some (aw.row x))∧(∀ x:aw,bO none (aw.row x) 0=some (.str x.name))∧(∀ x:aw,bO none (aw.row x) 1=some (.str x.value))∧(∀ x:aw,(aw.row x).length=2)∧(∀ x:aw,(aw.row x).all AV.cell=true)∧(∀ x:aw,∀ c0 c1:AV,bq [c0,c1] 0 (aw.row x)=aw.row x)∧(∀ x:aw,∀ y:aw,bq (aw.row y) 0 (aw.row x)=aw.row x)∧(∀ x:aw,∀ (y:Zc),bq (aw.row x) 0 [.str y]=aw.row { x with name:=y })∧(∀ x:aw,∀ (y:Zc),bq (aw.row x) 1 [.str y]=aw.row { x with value:=y })∧(∀ x:aw,(aw.row x).map AV.strip=aw.row x)∧(∀ x:aw,(aw.row x).take 2=aw.row x)∧(∀ x:aw,(aw.row x).drop 2=[]):=
 by refine ⟨?_, ?_, ?_, ?_, ?_, ?_, ?_, ?_, ?_, ?_, ?_, ?_⟩<;>(intros;first | rfl | (simp only [aw.row];rfl) | (simp only [aw.row,qF];rfl))
structure aw.ok (n:Nat) (x:aw):Prop where
 name:x.name.length≤aZ
 value:x.value.length≤aZ
theorem aw.ok.mono{n m:Nat}{x:aw}(h:x.ok n)(hn:n≤m):x.ok m:=⟨h.name,h.value⟩
theorem aw.ok.wk{n:Nat}{x:aw}(h:x.ok n):WkL n x.row x.row:=⟨ZH _ _,ZH _ _,trivial⟩
structure bf where
 name:Zc
 values:Sl Zc
def bf.row(x:bf):List AV:=[.str x.name,.slice x.values.tag 1 (x.values.l.map ak)]
def bf.strip(x:bf):bf := { x with values:=x.values.strip }
theorem kI:(∀ x:bf,rp 2 (bf.row x)=some (bf.row x))∧(∀ x:bf,bO none (bf.row x) 0=some (.str x.name))∧(∀ x:bf,bO none (bf.row x) 1=some (.slice x.values.tag 1 (x.values.l.map ak)))∧(∀ x:bf,(bf.row x).length=2)∧(∀ x:bf,(bf.row x).all AV.cell=true)∧(∀ x:bf,∀ c0 c1:AV,bq [c0,c1] 0 (bf.row x)=bf.row x)∧(∀ x:bf,∀ y:bf,bq (bf.row y) 0 (bf.row x)=bf.row x)∧(∀ x:bf,∀ (y:Zc),bq (bf.row x) 0 [.str y]=bf.row { x with name:=y })∧(∀ x:bf,∀ (t:Tag) (l:List Zc),bq (bf.row x) 1 [.slice t 1 (l.map ak)]=bf.row { x with values:=⟨t,l⟩ })∧(∀ x:bf,(bf.row x).map AV.strip=bf.row x.strip)∧(∀ x:bf,(bf.row x).take 2=bf.row x)∧(∀ x:bf,(bf.row x).drop 2=[]):=
 by refine ⟨?_, ?_, ?_, ?_, ?_, ?_, ?_, ?_, ?_, ?_, ?_, ?_⟩<;>(intros;first | rfl | (simp only [bf.row];rfl) | (simp only [bf.row,qF];rfl))
structure bf.ok (n:Nat) (x:bf):Prop where
 name:x.name.length≤aZ
 values:x.values.ok n (fun s=>s.length≤aZ)
theorem bf.ok.mono{n m:Nat}{x:bf}(h:x.ok n)(hn:n≤m):x.ok m:=⟨h.name,h.values.mono hn (fun _ h=>h)⟩
theorem bf.ok.wk{n:Nat}{x:bf}(h:x.ok n):WkL n x.row x.row:=⟨ZH _ _,h.values.wk (fun _ _=>⟨ZH _ _,trivial⟩),trivial⟩
structure bU where
 cut:Int
 pre:Zc
 add:Zc
 Zf:Sl aw
def bU.row(x:bU):List AV:=[.int .i64 x.cut,.str x.pre,.str x.add,.slice x.Zf.tag 2 (x.Zf.l.map aw.row)]
def bU.strip(x:bU):bU := { x with Zf:=x.Zf.strip }
theorem CJ:(∀ x:bU,rp 4 (bU.row x)=some (bU.row x))∧(∀ x:bU,bO none (bU.row x) 0=some (.int .i64 x.cut))∧(∀ x:bU,bO none (bU.row x) 1=some (.str x.pre))∧(∀ x:bU,bO none (bU.row x) 2=some (.str x.add))∧(∀ x:bU,bO none (bU.row x) 3=some (.slice x.Zf.tag 2 (x.Zf.l.map aw.row)))∧(∀ x:bU,(bU.row x).length=4)∧(∀ x:bU,(bU.row x).all AV.cell=true)∧(∀ x:bU,∀ c0 c1 c2 c3:AV,bq [c0,c1,c2,c3] 0 (bU.row x)=bU.row x)∧(∀ x:bU,∀ y:bU,bq (bU.row y) 0 (bU.row x)=bU.row x)∧(∀ x:bU,∀ (y:Int),bq (bU.row x) 0 [.int .i64 y]=bU.row { x with cut:=y })∧(∀ x:bU,∀ (y:Zc),bq (bU.row x) 1 [.str y]=bU.row { x with pre:=y })∧(∀ x:bU,∀ (y:Zc),bq (bU.row x) 2 [.str y]=bU.row { x with add:=y })∧(∀ x:bU,∀ (t:Tag) (l:List aw),bq (bU.row x) 3 [.slice t 2 (l.map aw.row)]=bU.row { x with Zf:=⟨t,l⟩ })∧(∀ x:bU,(bU.row x).map AV.strip=bU.row x.strip)∧(∀ x:bU,(bU.row x).take 4=bU.row x)∧(∀ x:bU,(bU.row x).drop 4=[]):=
 by refine ⟨?_, ?_, ?_, ?_, ?_, ?_, ?_, ?_, ?_, ?_, ?_, ?_, ?_, ?_, ?_, ?_⟩<;>(intros;first | rfl | (simp only [bU.row];rfl) | (simp only [bU.row,qF];rfl))
structure bU.ok (n:Nat) (x:bU):Prop where
 cut:I64 x.cut
 pre:x.pre.length≤aZ
 add:x.add.length≤aZ
 Zf:x.Zf.ok n (aw.ok n)
theorem bU.ok.mono{n m:Nat}{x:bU}(h:x.ok n)(hn:n≤m):x.ok m:=⟨h.cut,h.pre,h.add,h.Zf.mono hn (fun _ h=>h.mono hn)⟩
theorem bU.ok.wk{n:Nat}{x:bU}(h:x.ok n):WkL n x.row x.row:=⟨aab _ _ _,ZH _ _,ZH _ _,h.Zf.wk (fun _ h=>h.wk),trivial⟩
structure aV where
 name:Zc
 Zd:Sl bU
def aV.row(x:aV):List AV:=[.str x.name,.slice x.Zd.tag 4 (x.Zd.l.map bU.row)]
def aV.strip(x:aV):aV := { x with Zd:=x.Zd.strip }
theorem jy:(∀ x:aV,rp 2 (aV.row x)=some (aV.row x))∧(∀ x:aV,bO none (aV.row x) 0=some (.str x.name))∧(∀ x:aV,bO none (aV.row x) 1=some (.slice x.Zd.tag 4 (x.Zd.l.map bU.row)))∧(∀ x:aV,(aV.row x).length=2)∧(∀ x:aV,(aV.row x).all AV.cell=true)∧(∀ x:aV,∀ c0 c1:AV,bq [c0,c1] 0 (aV.row x)=aV.row x)∧(∀ x:aV,∀ y:aV,bq (aV.row y) 0 (aV.row x)=aV.row x)∧(∀ x:aV,∀ (y:Zc),bq (aV.row x) 0 [.str y]=aV.row { x with name:=y })∧(∀ x:aV,∀ (t:Tag) (l:List bU),bq (aV.row x) 1 [.slice t 4 (l.map bU.row)]=aV.row { x with Zd:=⟨t,l⟩ })∧(∀ x:aV,(aV.row x).map AV.strip=aV.row x.strip)∧(∀ x:aV,(aV.row x).take 2=aV.row x)∧(∀ x:aV,(aV.row x).drop 2=[]):=
 by refine ⟨?_, ?_, ?_, ?_, ?_, ?_, ?_, ?_, ?_, ?_, ?_, ?_⟩<;>(intros;first | rfl | (simp only [aV.row];rfl) | (simp only [aV.row,qF];rfl))
structure aV.ok (n:Nat) (x:aV):Prop where
 name:x.name.length≤aZ
 Zd:x.Zd.ok n (bU.ok n)
theorem aV.ok.mono{n m:Nat}{x:aV}(h:x.ok n)(hn:n≤m):x.ok m:=⟨h.name,h.Zd.mono hn (fun _ h=>h.mono hn)⟩
theorem aV.ok.wk{n:Nat}{x:aV}(h:x.ok n):WkL n x.row x.row:=⟨ZH _ _,h.Zd.wk (fun _ h=>h.wk),trivial⟩
structure bE where
 slot:Int
 word:Zc
def bE.row(x:bE):List AV:=[.int .i64 x.slot,.str x.word]
theorem zF:(∀ x:bE,rp 2 (bE.row x)=some (bE.row x))∧(∀ x:bE,bO none (bE.row x) 0=some (.int .i64 x.slot))∧(∀ x:bE,bO none (bE.row x) 1=some (.str x.word))∧(∀ x:bE,(bE.row x).length=2)∧(∀ x:bE,(bE.row x).all AV.cell=true)∧(∀ x:bE,∀ c0 c1:AV,bq [c0,c1] 0 (bE.row x)=bE.row x)∧(∀ x:bE,∀ y:bE,bq (bE.row y) 0 (bE.row x)=bE.row x)∧(∀ x:bE,∀ (y:Int),bq (bE.row x) 0 [.int .i64 y]=bE.row { x with slot:=y })∧(∀ x:bE,∀ (y:Zc),bq (bE.row x) 1 [.str y]=bE.row { x with word:=y })∧(∀ x:bE,(bE.row x).map AV.strip=bE.row x)∧(∀ x:bE,(bE.row x).take 2=bE.row x)∧(∀ x:bE,(bE.row x).drop 2=[]):=
 by refine ⟨?_, ?_, ?_, ?_, ?_, ?_, ?_, ?_, ?_, ?_, ?_, ?_⟩<;>(intros;first | rfl | (simp only [bE.row];rfl) | (simp only [bE.row,qF];rfl))
structure bE.ok (n:Nat) (x:bE):Prop where
 slot:I64 x.slot
 word:x.word.length≤aZ
theorem bE.ok.mono{n m:Nat}{x:bE}(h:x.ok n)(hn:n≤m):x.ok m:=⟨h.slot,h.word⟩
theorem bE.ok.wk{n:Nat}{x:bE}(h:x.ok n):WkL n x.row x.row:=⟨aab _ _ _,ZH _ _,trivial⟩
structure aT where
 lem:Zc
 cls:Zc
 Zf:Sl aw
 Zg:Sl bE
def aT.row(x:aT):List AV:=[.str x.lem,.str x.cls,.slice x.Zf.tag 2 (x.Zf.l.map aw.row),.slice x.Zg.tag 2 (x.Zg.l.map bE.row)]
def aT.strip(x:aT):aT := { x with Zf:=x.Zf.strip,Zg:=x.Zg.strip }
theorem kJ:(∀ x:aT,rp 4 (aT.row x)=some (aT.row x))∧(∀ x:aT,bO none (aT.row x) 0=some (.str x.lem))∧(∀ x:aT,bO none (aT.row x) 1=some (.str x.cls))∧(∀ x:aT,bO none (aT.row x) 2=some (.slice x.Zf.tag 2 (x.Zf.l.map aw.row)))∧(∀ x:aT,bO none (aT.row x) 3=some (.slice x.Zg.tag 2 (x.Zg.l.map bE.row)))∧(∀ x:aT,(aT.row x).length=4)∧(∀ x:aT,(aT.row x).all AV.cell=true)∧(∀ x:aT,∀ c0 c1 c2 c3:AV,bq [c0,c1,c2,c3] 0 (aT.row x)=aT.row x)∧(∀ x:aT,∀ y:aT,bq (aT.row y) 0 (aT.row x)=aT.row x)∧(∀ x:aT,∀ (y:Zc),bq (aT.row x) 0 [.str y]=aT.row { x with lem:=y })∧(∀ x:aT,∀ (y:Zc),bq (aT.row x) 1 [.str y]=aT.row { x with cls:=y })∧(∀ x:aT,∀ (t:Tag) (l:List aw),bq (aT.row x) 2 [.slice t 2 (l.map aw.row)]=aT.row { x with Zf:=⟨t,l⟩ })∧(∀ x:aT,∀ (t:Tag) (l:List bE),bq (aT.row x) 3 [.slice t 2 (l.map bE.row)]=aT.row { x with Zg:=⟨t,l⟩ })∧(∀ x:aT,(aT.row x).map AV.strip=aT.row x.strip)∧(∀ x:aT,(aT.row x).take 4=aT.row x)∧(∀ x:aT,(aT.row x).drop 4=[]):=
 by refine ⟨?_, ?_, ?_, ?_, ?_, ?_, ?_, ?_, ?_, ?_, ?_, ?_, ?_, ?_, ?_, ?_⟩<;>(intros;first | rfl | (simp only [aT.row];rfl) | (simp only [aT.row,qF];rfl))
structure aT.ok (n:Nat) (x:aT):Prop where
 lem:x.lem.length≤aZ
 cls:x.cls.length≤aZ
 Zf:x.Zf.ok n (aw.ok n)
 Zg:x.Zg.ok n (bE.ok n)
theorem aT.ok.mono{n m:Nat}{x:aT}(h:x.ok n)(hn:n≤m):x.ok m:=⟨h.lem,h.cls,h.Zf.mono hn (fun _ h=>h.mono hn),h.Zg.mono hn (fun _ h=>h.mono hn)⟩
theorem aT.ok.wk{n:Nat}{x:aT}(h:x.ok n):WkL n x.row x.row:=⟨ZH _ _,ZH _ _,h.Zf.wk (fun _ h=>h.wk),h.Zg.wk (fun _ h=>h.wk),trivial⟩
structure bL where
 frm:Zc
 to:Zc
 left:Zc
 right:Zc
def bL.row(x:bL):List AV:=[.str x.frm,.str x.to,.str x.left,.str x.right]
theorem C4:(∀ x:bL,rp 4 (bL.row x)=some (bL.row x))∧(∀ x:bL,bO none (bL.row x) 0=some (.str x.frm))∧(∀ x:bL,bO none (bL.row x) 1=some (.str x.to))∧(∀ x:bL,bO none (bL.row x) 2=some (.str x.left))∧(∀ x:bL,bO none (bL.row x) 3=some (.str x.right))∧(∀ x:bL,(bL.row x).length=4)∧(∀ x:bL,(bL.row x).all AV.cell=true)∧(∀ x:bL,∀ c0 c1 c2 c3:AV,bq [c0,c1,c2,c3] 0 (bL.row x)=bL.row x)∧(∀ x:bL,∀ y:bL,bq (bL.row y) 0 (bL.row x)=bL.row x)∧(∀ x:bL,∀ (y:Zc),bq (bL.row x) 0 [.str y]=bL.row { x with frm:=y })∧(∀ x:bL,∀ (y:Zc),bq (bL.row x) 1 [.str y]=bL.row { x with to:=y })∧(∀ x:bL,∀ (y:Zc),bq (bL.row x) 2 [.str y]=bL.row { x with left:=y })∧(∀ x:bL,∀ (y:Zc),bq (bL.row x) 3 [.str y]=bL.row { x with right:=y })∧(∀ x:bL,(bL.row x).map AV.strip=bL.row x)∧(∀ x:bL,(bL.row x).take 4=bL.row x)∧(∀ x:bL,(bL.row x).drop 4=[]):=
 by refine ⟨?_, ?_, ?_, ?_, ?_, ?_, ?_, ?_, ?_, ?_, ?_, ?_, ?_, ?_, ?_, ?_⟩<;>(intros;first | rfl | (simp only [bL.row];rfl) | (simp only [bL.row,qF];rfl))
structure bL.ok (n:Nat) (x:bL):Prop where
 frm:x.frm.length≤aZ
 to:x.to.length≤aZ
 left:x.left.length≤aZ
 right:x.right.length≤aZ
theorem bL.ok.mono{n m:Nat}{x:bL}(h:x.ok n)(hn:n≤m):x.ok m:=⟨h.frm,h.to,h.left,h.right⟩
theorem bL.ok.wk{n:Nat}{x:bL}(h:x.ok n):WkL n x.row x.row:=⟨ZH _ _,ZH _ _,ZH _ _,ZH _ _,trivial⟩
structure dn where
 cls:Zc
 glue:Zc
 Zf:Sl aw
def dn.row(x:dn):List AV:=[.str x.cls,.str x.glue,.slice x.Zf.tag 2 (x.Zf.l.map aw.row)]
def dn.strip(x:dn):dn := { x with Zf:=x.Zf.strip }
theorem Gi:(∀ x:dn,rp 3 (dn.row x)=some (dn.row x))∧(∀ x:dn,bO none (dn.row x) 0=some (.str x.cls))∧(∀ x:dn,bO none (dn.row x) 1=some (.str x.glue))∧(∀ x:dn,bO none (dn.row x) 2=some (.slice x.Zf.tag 2 (x.Zf.l.map aw.row)))∧(∀ x:dn,(dn.row x).length=3)∧(∀ x:dn,(dn.row x).all AV.cell=true)∧(∀ x:dn,∀ c0 c1 c2:AV,bq [c0,c1,c2] 0 (dn.row x)=dn.row x)∧(∀ x:dn,∀ y:dn,bq (dn.row y) 0 (dn.row x)=dn.row x)∧(∀ x:dn,∀ (y:Zc),bq (dn.row x) 0 [.str y]=dn.row { x with cls:=y })∧(∀ x:dn,∀ (y:Zc),bq (dn.row x) 1 [.str y]=dn.row { x with glue:=y })∧(∀ x:dn,∀ (t:Tag) (l:List aw),bq (dn.row x) 2 [.slice t 2 (l.map aw.row)]=dn.row { x with Zf:=⟨t,l⟩ })∧(∀ x:dn,(dn.row x).map AV.strip=dn.row x.strip)∧(∀ x:dn,(dn.row x).take 3=dn.row x)∧(∀ x:dn,(dn.row x).drop 3=[]):=
 by refine ⟨?_, ?_, ?_, ?_, ?_, ?_, ?_, ?_, ?_, ?_, ?_, ?_, ?_, ?_⟩<;>(intros;first | rfl | (simp only [dn.row];rfl) | (simp only [dn.row,qF];rfl))
structure dn.ok (n:Nat) (x:dn):Prop where
 cls:x.cls.length≤aZ
 glue:x.glue.length≤aZ
 Zf:x.Zf.ok n (aw.ok n)
theorem dn.ok.mono{n m:Nat}{x:dn}(h:x.ok n)(hn:n≤m):x.ok m:=⟨h.cls,h.glue,h.Zf.mono hn (fun _ h=>h.mono hn)⟩
theorem dn.ok.wk{n:Nat}{x:dn}(h:x.ok n):WkL n x.row x.row:=⟨ZH _ _,ZH _ _,h.Zf.wk (fun _ h=>h.wk),trivial⟩
structure Lex where
 Zs:Zc
 Y9:Sl bf
 Y7:Sl aV
 entries:Sl aT
 Ze:Sl bL
 Zm:Sl dn
def Lex.row(x:Lex):List AV:=[.str x.Zs,.slice x.Y9.tag 2 (x.Y9.l.map bf.row),.slice x.Y7.tag 2 (x.Y7.l.map aV.row),.slice x.entries.tag 4 (x.entries.l.map aT.row),.slice x.Ze.tag 4 (x.Ze.l.map bL.row),.slice x.Zm.tag 3 (x.Zm.l.map dn.row)]
def Lex.strip(x:Lex):Lex := { x with Y9:=x.Y9.strip,Y7:=x.Y7.strip,entries:=x.entries.strip,Ze:=x.Ze.strip,Zm:=x.Zm.strip }
theorem dD:(∀ x:Lex,rp 6 (Lex.row x)=some (Lex.row x))∧(∀ x:Lex,bO none (Lex.row x) 0=some (.str x.Zs))∧(∀ x:Lex,bO none (Lex.row x) 1=some (.slice x.Y9.tag 2 (x.Y9.l.map bf.row)))∧(∀ x:Lex,bO none (Lex.row x) 2=some (.slice x.Y7.tag 2 (x.Y7.l.map aV.row)))∧(∀ x:Lex,bO none (Lex.row x) 3=some (.slice x.entries.tag 4 (x.entries.l.map aT.row)))∧(∀ x:Lex,bO none (Lex.row x) 4=some (.slice x.Ze.tag 4 (x.Ze.l.map bL.row)))∧(∀ x:Lex,bO none (Lex.row x) 5=some (.slice x.Zm.tag 3 (x.Zm.l.map dn.row)))∧(∀ x:Lex,(Lex.row x).length=6)∧(∀ x:Lex,(Lex.row x).all AV.cell=true)∧(∀ x:Lex,∀ c0 c1 c2 c3 c4 c5:AV,bq [c0,c1,c2,c3,c4,c5] 0 (Lex.row x)=Lex.row x)∧(∀ x:Lex,∀ y:Lex,bq (Lex.row y) 0 (Lex.row x)=Lex.row x)∧(∀ x:Lex,∀ (y:Zc),bq (Lex.row x) 0 [.str y]=Lex.row { x with Zs:=y })∧(∀ x:Lex,∀ (t:Tag) (l:List bf),bq (Lex.row x) 1 [.slice t 2 (l.map bf.row)]=Lex.row { x with Y9:=⟨t,l⟩ })∧(∀ x:Lex,∀ (t:Tag) (l:List aV),bq (Lex.row x) 2 [.slice t 2 (l.map aV.row)]=Lex.row { x with Y7:=⟨t,l⟩ })∧(∀ x:Lex,∀ (t:Tag) (l:List aT),bq (Lex.row x) 3 [.slice t 4 (l.map aT.row)]=Lex.row { x with entries:=⟨t,l⟩ })∧(∀ x:Lex,∀ (t:Tag) (l:List bL),bq (Lex.row x) 4 [.slice t 4 (l.map bL.row)]=Lex.row { x with Ze:=⟨t,l⟩ })∧(∀ x:Lex,∀ (t:Tag) (l:List dn),bq (Lex.row x) 5 [.slice t 3 (l.map dn.row)]=Lex.row { x with Zm:=⟨t,l⟩ })∧(∀ x:Lex,(Lex.row x).map AV.strip=Lex.row x.strip)∧(∀ x:Lex,(Lex.row x).take 6=Lex.row x)∧(∀ x:Lex,(Lex.row x).drop 6=[]):=
 by refine ⟨?_, ?_, ?_, ?_, ?_, ?_, ?_, ?_, ?_, ?_, ?_, ?_, ?_, ?_, ?_, ?_, ?_, ?_, ?_, ?_⟩<;>(intros;first | rfl | (simp only [Lex.row];rfl) | (simp only [Lex.row,qF];rfl))
structure Lex.ok (n:Nat) (x:Lex):Prop where
 Zs:x.Zs.length≤aZ
 Y9:x.Y9.ok n (bf.ok n)
 Y7:x.Y7.ok n (aV.ok n)
 entries:x.entries.ok n (aT.ok n)
 Ze:x.Ze.ok n (bL.ok n)
 Zm:x.Zm.ok n (dn.ok n)
theorem Lex.ok.mono{n m:Nat}{x:Lex}(h:x.ok n)(hn:n≤m):x.ok m:=⟨h.Zs,h.Y9.mono hn (fun _ h=>h.mono hn),h.Y7.mono hn (fun _ h=>h.mono hn),h.entries.mono hn (fun _ h=>h.mono hn),h.Ze.mono hn (fun _ h=>h.mono hn),h.Zm.mono hn (fun _ h=>h.mono hn)⟩
theorem Lex.ok.wk{n:Nat}{x:Lex}(h:x.ok n):WkL n x.row x.row:=⟨ZH _ _,h.Y9.wk (fun _ h=>h.wk),h.Y7.wk (fun _ h=>h.wk),h.entries.wk (fun _ h=>h.wk),h.Ze.wk (fun _ h=>h.wk),h.Zm.wk (fun _ h=>h.wk),trivial⟩
structure BE where
 entry:Int
 slot:Int
 link:Int
def BE.row(x:BE):List AV:=[.int .i64 x.entry,.int .i64 x.slot,.int .i64 x.link]
structure BE.ok (n:Nat) (x:BE):Prop where
 entry:I64 x.entry
 slot:I64 x.slot
 link:I64 x.link
theorem BE.ok.mono{n m:Nat}{x:BE}(h:x.ok n)(hn:n≤m):x.ok m:=⟨h.entry,h.slot,h.link⟩
theorem BE.ok.wk{n:Nat}{x:BE}(h:x.ok n):WkL n x.row x.row:=⟨aab _ _ _,aab _ _ _,aab _ _ _,trivial⟩
structure pY where
 aa8:Sl BE
 entry:Int
 slot:Int
def pY.row(x:pY):List AV:=[.slice x.aa8.tag 3 (x.aa8.l.map BE.row),.int .i64 x.entry,.int .i64 x.slot]
def pY.strip(x:pY):pY := { x with aa8:=x.aa8.strip }
structure pY.ok (n:Nat) (x:pY):Prop where
 aa8:x.aa8.ok n (BE.ok n)
 entry:I64 x.entry
 slot:I64 x.slot
theorem pY.ok.mono{n m:Nat}{x:pY}(h:x.ok n)(hn:n≤m):x.ok m:=⟨h.aa8.mono hn (fun _ h=>h.mono hn),h.entry,h.slot⟩
theorem pY.ok.wk{n:Nat}{x:pY}(h:x.ok n):WkL n x.row x.row:=⟨h.aa8.wk (fun _ h=>h.wk),aab _ _ _,aab _ _ _,trivial⟩
structure Ask where
 lem:Zc
 cls:Zc
 Zf:Sl aw
 entry:Int
 slot:Int
def Ask.row(x:Ask):List AV:=[.str x.lem,.str x.cls,.slice x.Zf.tag 2 (x.Zf.l.map aw.row),.int .i64 x.entry,.int .i64 x.slot]
def Ask.strip(x:Ask):Ask := { x with Zf:=x.Zf.strip }
structure Ask.ok (n:Nat) (x:Ask):Prop where
 lem:x.lem.length≤aZ
 cls:x.cls.length≤aZ
 Zf:x.Zf.ok n (aw.ok n)
 entry:I64 x.entry
 slot:I64 x.slot
theorem Ask.ok.mono{n m:Nat}{x:Ask}(h:x.ok n)(hn:n≤m):x.ok m:=⟨h.lem,h.cls,h.Zf.mono hn (fun _ h=>h.mono hn),h.entry,h.slot⟩
theorem Ask.ok.wk{n:Nat}{x:Ask}(h:x.ok n):WkL n x.row x.row:=⟨ZH _ _,ZH _ _,h.Zf.wk (fun _ h=>h.wk),aab _ _ _,aab _ _ _,trivial⟩
theorem aE{α:Type}{row:α→List AV}{l:List α}{tag:Tag}{sz:Nat}{k:IntKind}{i:Nat}(h:i<l.length):qV sz (.slice tag sz (l.map row)) (.int k (i:Int))=some (.Zu sz (l.map row) i 0):=
 ac9 (esz:=0) (by simpa using h)
theorem SU{α:Type}{row:α→List AV}{l:List α}{tag:Tag}{sz:Nat}{k:IntKind}(h:0<l.length):qV sz (.slice tag sz (l.map row)) (.int k 0)=some (.Zu sz (l.map row) 0 0):=
 aE (i:=0) h
theorem E6{α:Type}{row:α→List AV}{l:List α}{tag:Tag}{sz:Nat}{k:IntKind}{i:Nat}(h:i<l.length):AN sz (.slice tag sz (l.map row)) none (some (.int k (i:Int))) none=some (.slice .any sz ((l.take i).map row)):=by
 have h0:l≠[]:=fun e=>by simp [e] at h
 simp [AN,fX,aoH h,h0,List.map_take]
theorem M7{α:Type}{row:α→List AV}{l:List α}{tag:Tag}{sz:Nat}{k:IntKind}{i:Nat}(h:i≤l.length)(h0:0<l.length):AN sz (.slice tag sz (l.map row)) (some (.int k (i:Int))) none none=some (.slice .any sz ((l.drop i).map row)):=by
 have h0:l≠[]:=fun e=>by simp [e] at h0
 simp [AN,fX,h,h0,List.map_drop];rw [← List.map_drop];exact am8 (by simp)
theorem bt{i n:Nat}(h:i<n)(hn:n≤aZ):IntKind.i64.wrap ((i:Int)+1)=((i+1:Nat):Int):=by
 rw [eY (by omega) (by simp only [aZ] at hn;omega)];rfl
theorem E7{i:Nat}(h:i+1≤aZ):IntKind.i64.wrap (((i+1:Nat):Int)-1)=(i:Int):=by
 simp only [aZ] at h;rw [eY (by omega) (by omega)];omega
theorem SV{α:Type}(row:α→List AV)(l:List α)(i:Nat):(l.map row)[i]?=(l[i]?).map row:=amK ..
def slc{α:Type}(b:Bool)(x y:α):α:=
 match b with
 |true=>x
 |false=>y
theorem cC{α:Type}{b b':Bool}{x y:α}(h:b=b'):Zv b x y=Zv b' x y:=by rw [h]
theorem bn{α:Type}{b b':Bool}{x x' y y':α}(hb:b=b')(hx:b'=true→x=x')(hy:b'=false→y=y'):slc b x y=slc b' x' y':=by
 subst hb;cases b
 ·exact hy rfl
 ·exact hx rfl
theorem abc{α:Type}(x y:α):slc true x y=x:=rfl
theorem aaR{α:Type}(x y:α):slc false x y=y:=rfl
theorem ae2{α:Type}(b:Bool)(x y:α):slc (!b) x y=slc b y x:=by cases b<;>rfl
theorem amS :
 (∀ (α:Type) (b:Bool) (x y:α),Zv b x y=slc b x y) ∧
 (∀ (α:Type) (x y:α),slc true x y=x)∧(∀ (α:Type) (x y:α),slc false x y=y)∧(∀ (α:Type) (b:Bool) (x y:α),slc (!b) x y=slc b y x) ∧
 (∀ (α:Type) (b:Bool) (x:α),slc b x x=x) ∧
 (∀ (α:Type) (b:Bool) (x y:α),slc b (some x) (some y)=some (slc b x y)) ∧
 (∀ (α β:Type) (b:Bool) (x x':α) (y y':β),slc b (x,y) (x',y')=(slc b x x',slc b y y')) ∧
 (∀ (b:Bool) (v v':AV),slc b (uY.ret v) (uY.ret v') = .ret (slc b v v')) ∧
 (∀ (b p q:Bool),slc b (AV.bool p) (AV.bool q) = .bool (slc b p q)) ∧
 (∀ (b:Bool) (k:IntKind) (x y:Int),slc b (AV.int k x) (AV.int k y) = .int k (slc b x y)) ∧
 (∀ (b:Bool) (x y:Zc),slc b (AV.str x) (AV.str y) = .str (slc b x y)) ∧
 (∀ (α:Type) (b p:Bool) (x y:α),slc b (slc p x y) y=slc (b&&p) x y) ∧
 (∀ b p:Bool,slc b p false=(b&&p))∧(∀ b p:Bool,slc b true p=(b||p))∧(∀ b p:Bool,slc b p true=(!b||p))∧(∀ b p:Bool,slc b false p=(!b&&p)) ∧
 (∀ (α:Type) (b w:Bool) (v v':AV) (x u:Option α),By (slc b v v') w x u=slc b (By v w x u) (By v' w x u)):=
 ⟨fun _ _ _ _=>rfl,fun _ _ _=>rfl,fun _ _ _=>rfl,fun _=>ae2,fun _ b _=>by cases b<;>rfl,fun _ b _ _=>by cases b<;>rfl,fun _ _ b _ _ _ _=>by cases b<;>rfl,fun b _ _=>by cases b<;>rfl,fun b _ _=>by cases b<;>rfl,
  fun b _ _ _=>by cases b<;>rfl,fun b _ _=>by cases b<;>rfl,fun _ b p _ _=>by cases b<;>cases p<;>rfl,fun b _=>by cases b<;>rfl,fun b _=>by cases b<;>rfl,fun b _=>by cases b<;>rfl,fun b _=>by cases b<;>rfl,fun _ b _ _ _ _ _=>by cases b<;>rfl⟩
def orE(o:Option AV)(H:List Y4)(x:Option Out):Option Out:=
 match o with
 |some v=>some (.ret v,H)
 |none=>x
def orO{α:Type}(o y:Option α):Option α:=
 match o with
 |some v=>some v
 |none=>y
def cL{α:Type}(F:Nat→α→Option AV):Nat→List α→Option AV
 |_,[]=>none
 |i,x::l=>orO (F i x) (cL F (i+1) l)
theorem BF(v:AV)(H:List Y4)(x:Option Out):orE (some v) H x=some (.ret v,H):=rfl
theorem M8(H:List Y4)(x:Option Out):orE none H x=x:=rfl
theorem Ea(b:Bool)(o o':Option AV)(H:List Y4)(x:Option Out):orE (Zv b o o') H x=Zv b (orE o H x) (orE o' H x):=by cases b<;>rfl
theorem PO(o o':Option AV)(H:List Y4)(x:Option Out):orE (orO o o') H x=orE o H (orE o' H x):=by cases o<;>rfl
theorem Eb{α:Type}(v:α)(y:Option α):orO (some v) y=some v:=rfl
theorem Ec{α:Type}(y:Option α):orO none y=y:=rfl
theorem Hb{α:Type}(b:Bool)(o o' y:Option α):orO (Zv b o o') y=Zv b (orO o y) (orO o' y):=by cases b<;>rfl
theorem Oz{α:Type}(F:Nat→α→Option AV)(i:Nat):cL F i []=none:=rfl
theorem np{α:Type}(F:Nat→α→Option AV)(i:Nat)(x:α)(l:List α):cL F i (x::l)=orO (F i x) (cL F (i+1) l):=rfl
theorem yz{α:Type}{l:List α}{n:Nat}(h:l.length≤n)(i:Nat):(l.take i).length≤n:=by simp;omega
theorem nZ{H0 H:List Y4}(h:bY H0 H)(L:List Y4):bY H0 (H++L):=
 ⟨by have:=h.1;simp;omega,fun i x hi hx=>h.2 i x hi (by
  have:=h.1;rwa [al7 (by omega)] at hx)⟩
theorem Q1{H0 H:List Y4}(h:bY H0 H)(L:List Y4):(H++L).take H0.length=H.take H0.length:=
 anB h.1
theorem zG{sz:Nat}{r:List AV}(h1:r.length=sz)(h2:r.all AV.cell=true):sg sz [r]=true:=by simp [sg,h1,h2]
theorem WZ{α:Type}{row:α→List AV}{l:List α}{x:α}{r:List AV}{sz bytes:Nat}{e:TypeId}(H:List Y4)(h1:r.length=sz)(h2:r.all AV.cell=true)(h3:r.map AV.strip=row x)
  (hl:(l.length+1)*bytes≤140737488355328) (hl2:l.length+1≤4611686018427387904) :
  rap false (H++[.tok (l.length*sz) e]) e sz bytes false (.slice (.own H.length) sz (l.map row)) (.slice .full sz [r])=some (.slice (.own H.length) sz ((l++[x]).map row),H++[.tok ((l++[x]).length*sz) e]):=by
 have hr:(r.length=sz∧∀ x∈r,x.cell=true):=⟨h1,by simpa using h2⟩
 simp only [rap,yq,xJ,ama,amk,amw,amJ,or_true,if_true,hl,hl2,zG h1 h2,and_true,true_and,cY,amx,abQ,anG,amN,anm,h3,anP,al8,amT,apu];rw [amT,apu] at hl;rw [if_pos hl]
def Iw(pl:Nat→Option (Nat×Nat))(cs:List AV)(rest:List (Nat×AV))(o:Option (Nat×Nat))(c:Option (List AV)):Option (List AV):=
 match o,c with
 |some (off,size),some cells=>if cells.length=size∧off+cells.length≤cs.length then lC pl (bq cs off cells) rest else none
 |_,_=>none
theorem Q2(pl:Nat→Option (Nat×Nat))(cs:List AV):lC pl cs []=some cs:=rfl
theorem OA(pl:Nat→Option (Nat×Nat))(cs:List AV)(i:Nat)(v:AV)(rest:List (Nat×AV)):lC pl cs ((i,v)::rest)=Iw pl cs rest (pl i) (dM v):=by
 rfl
theorem M9(pl:Nat→Option (Nat×Nat))(cs:List AV)(rest:List (Nat×AV))(off size:Nat)(cells:List AV)(h1:cells.length=size)(h2:off+size≤cs.length):Iw pl cs rest (some (off,size)) (some cells)=lC pl (bq cs off cells) rest:=by
 subst h1;rw [Iw];exact if_pos ⟨rfl,h2⟩
theorem Yh(f:Nat×RX→Nat×AV):List.map f []=[]:=rfl
theorem Yi(f:Nat×RX→Nat×AV)(x:Nat×RX)(l:List (Nat×RX)):List.map f (x::l)=f x::List.map f l:=rfl
theorem amF :
 (∀ (pl:Nat→Option (Nat×Nat)) (cs:List AV),lC pl cs []=some cs) ∧
 (∀ (pl:Nat→Option (Nat×Nat)) (cs:List AV) (i:Nat) (v:AV) (rest:List (Nat×AV)),lC pl cs ((i,v)::rest)=Iw pl cs rest (pl i) (dM v)) ∧
 (∀ (pl:Nat→Option (Nat×Nat)) (cs:List AV) (rest:List (Nat×AV)) (off size:Nat) (cells:List AV),cells.length=size→off+size≤cs.length→Iw pl cs rest (some (off,size)) (some cells)=lC pl (bq cs off cells) rest) ∧
 (∀ (f:Nat×RX→Nat×AV),List.map f []=[]) ∧
 (∀ (f:Nat×RX→Nat×AV) (x:Nat×RX) (l:List (Nat×RX)),List.map f (x::l)=f x::List.map f l) ∧
 (∀ (z:List AV),Bg 0 z=[]) ∧
 (∀ (n:Nat) (z:List AV),Bg (n+1) z=z++Bg n z) ∧
 (∀ (n:Nat) (cs:List AV),yl n 0 cs=[]) ∧
 (∀ (n k:Nat) (cs:List AV),yl n (k+1) cs=cs.take n::yl n k (cs.drop n)) ∧
 (∀ (l:List AV),l.take 0=[])∧(∀ (n:Nat) (x:AV) (l:List AV),(x::l).take (n+1)=x::l.take n) ∧
 (∀ (l:List AV),l.drop 0=l)∧(∀ (n:Nat) (x:AV) (l:List AV),(x::l).drop (n+1)=l.drop n) ∧
 (∀ (s:Zc),AV.strip (.str s) = .str s)∧(∀ (k:IntKind) (n:Int),AV.strip (.int k n) = .int k n)∧(∀ (b:Bool),AV.strip (.bool b) = .bool b)∧(∀ (f:Fn) (x y:List AV),AV.strip (.fn f x y) = .fn f x y) ∧
 (∀ (t n:Nat) (r:List (List AV)),AV.strip (.slice (.own t) n r) = .slice .any n r)∧(∀ (n:Nat) (r:List (List AV)),AV.strip (.slice .any n r) = .slice .any n r)∧(∀ (n:Nat) (r:List (List AV)),AV.strip (.slice .nil n r) = .slice .nil n r)∧(∀ (n:Nat) (r:List (List AV)),AV.strip (.slice .full n r) = .slice .full n r) ∧
 (∀ (f:AV→AV),List.map f []=[])∧(∀ (f:AV→AV) (x:AV) (l:List AV),List.map f (x::l)=f x::List.map f l) ∧
 (∀ (x:Nat×Nat) (l:List (Nat×Nat)),(x::l)[0]?=some x)∧(∀ (x:Nat×Nat) (l:List (Nat×Nat)) (n:Nat),(x::l)[n+1]?=l[n]?):=
 ⟨Q2,OA,M9,Yh,Yi,fun _=>rfl,fun _ _=>rfl,fun _ _=>rfl,fun _ _ _=>rfl,fun _=>rfl,fun _ _ _=>rfl,fun _=>rfl,fun _ _ _=>rfl,fun _=>rfl,fun _ _=>rfl,fun _=>rfl,fun _ _ _=>rfl,fun _ _ _=>rfl,fun _ _=>rfl,fun _ _=>rfl,fun _ _=>rfl,fun _=>rfl,fun _ _ _=>rfl,fun _ _=>rfl,fun _ _ _=>rfl⟩
theorem amL :
 (∀ (v:AV) (H:List Y4) (x:Option Out),orE (some v) H x=some (.ret v,H)) ∧
 (∀ (H:List Y4) (x:Option Out),orE none H x=x) ∧
 (∀ (b:Bool) (o o':Option AV) (H:List Y4) (x:Option Out),orE (slc b o o') H x=slc b (orE o H x) (orE o' H x)) ∧
 (∀ (o o':Option AV) (H:List Y4) (x:Option Out),orE (orO o o') H x=orE o H (orE o' H x)) ∧
 (∀ (v:AV) (y:Option AV),orO (some v) y=some v) ∧
 (∀ (y:Option AV),orO none y=y) ∧
 (∀ (b:Bool) (o o' y:Option AV),orO (slc b o o') y=slc b (orO o y) (orO o' y)) ∧
 (∀ (α:Type) (F:Nat→α→Option AV) (i:Nat),cL F i []=none) ∧
 (∀ (α:Type) (F:Nat→α→Option AV) (i:Nat) (x:α) (l:List α),cL F i (x::l)=orO (F i x) (cL F (i+1) l)) ∧
 (∀ (α:Type) (l:List α) (row:α→List AV),(l.map row).length=l.length) ∧
 (∀ (α:Type) (row:α→List AV) (l:List α) (i:Nat),(l.map row)[i]?=(l[i]?).map row) ∧
 (∀ (α:Type) (f:α→List AV) (x:α),(some x).map f=some (f x)) ∧
 (∀ (H0 H:List Y4),bY H0 H→∀ (L:List Y4),bY H0 (H++L)) ∧
 (∀ (H0 H:List Y4),bY H0 H→∀ (L:List Y4),(H++L).take H0.length=H.take H0.length):=
 ⟨BF,M8,Ea,PO,Eb,Ec,Hb,fun _=>Oz,fun _=>np,fun _ l row=>ama ..,fun _ row l i=>SV row l i,fun _ _ _=>rfl,fun _ _=>nZ,fun _ _=>Q1⟩
def amA{E:br}(M:cH bM E):=al5 (am1 M) (al5 am2 (al5 am3 (al5 am4 (al5 am5 (al5 amL amS)))))
def amB:=al5 @beq_true (al5 @beq_false (al5 @decide_true (al5 @decide_false (al5 and_true (al5 true_and (al5 anc (al5 amY (al5 anz (al5 anl (al5 aoo (al5 anH (al5 anX (al5 anF (al5 amQ
 (al5 @if_false.{1} (al5 @if_true.{1} (al5 anS (al5 anW (al5 aoV (al5 @Nat.le_add_right_of_le (al5 @Option.map_some.{0,0} (al5 @Option.map_none.{0,0} (al5 @List.nil_append.{0} (al5 @List.append_nil.{0} (al5 @List.map_nil.{0,0} @ac9)))))))))))))))))))))))))
def Zh{E:br}(M:cH bM E):=al5 (amA M) amB
def Zi:=al5 @abc (al5 @aaR (al5 @ae2 @ZK))
def Zx:=al5 amF (al5 abe (al5 aa5 (al5 @List.set_cons_zero.{0} (al5 @List.length_cons.{0} (al5 @List.length_nil.{0} (al5 amJ (al5 amp (al5 @List.all_cons.{0} (al5 @List.all_nil.{0} @List.cons_append.{0})))))))))
end Go.Am
end
section
namespace Go.Am
open Go.RowKit Go.ChangeShapes Go.WideShapes
structure VL (K:aC) (row:List AV) (cs:List Value):Prop where
 len:row.length=cs.length
 at_:∀ (i:Nat) (av:AV),row[i]?=some av→V K av (cs.getD i undef)
theorem VL.nil(K:aC):VL K [] []:=⟨rfl,fun i av h=>by simp at h⟩
theorem VL.one{K:aC}{a:AV}{v:Value}(h:V K a v):VL K [a] [v]:=⟨rfl,fun i av hi=>by
 cases i with
 |zero=>obtain rfl:a=av:=by simpa using hi
        simpa using h
 |succ i=>simp at hi⟩
theorem VL.append{K:aC}{a b:List AV}{c d:List Value}(h:VL K a c)(h':VL K b d):VL K (a++b) (c++d):=⟨by simp [h.len,h'.len],fun i av hi=>by
 have e:=h.len
 by_cases hl:i<a.length
 ·rw [al7 hl] at hi
  have:=h.at_ i av hi;rwa [anK,al7 (by omega),← anK]
 ·rw [amm (by omega)] at hi
  have:=h'.at_ _ av hi;rwa [anK,amm (by omega),← e,← anK]⟩
theorem VL.vs{K:aC}{row:List AV}{cs:Array Value}(h:VL K row cs.toList):Vs K row cs:=⟨by simpa using h.len,fun i av hi=>by simpa [amd] using h.at_ i av hi⟩
theorem VL.agg{K:aC}{row:List AV}{cs:Array Value}(h:VL K row cs.toList):V K (.agg row) (.agg cs):=.agg _ _ h.vs.size h.vs.at_
section
variable(P:Program)(W:World)(G:Nat→Option (List AV))
def lT(t:TypeId){α:Type}(row:α→List AV)(ok:α→Prop):Prop:=
 ∀ (H:Type) (enc:TypeId×Value→H) (spare:Nat→Bool) (fuel:Nat) (cs:List Value) (x:DataW H×List MemPlace),DataW.trod enc P W 0 spare true fuel t cs=some x→(∀ n∈DataW.weights P t x.1,n≤reachBytes)→∃ a,ok a∧VL (aC.start W G) (row a) cs
def LM(fl:List (Nat×TypeId))(off w:Nat){α:Type}(row:α→List AV)(ok:α→Prop):Prop:=
 ∀ (H:Type) (enc:TypeId×Value→H) (spare:Nat→Bool) (fuel:Nat) (cs:List Value),
  (∀ (i:Nat) (f:Nat×TypeId),fl[i]?=some f→∃ x,DataW.trod enc P W 0 spare true fuel f.2 ((cs.drop f.1).take (P.cellsOf f.2))=some x∧∀ n∈DataW.weights P f.2 x.1,n≤reachBytes)→cs.length=off+w→∃ a,ok a∧VL (aC.start W G) (row a) (cs.drop off)
def fieldsOf(t:TypeId):Option (List (Nat×TypeId)):=
 match P.underlying t with
 |some (.struct fs)=>some (fs.toList.map fun f=>(f.offset,f.type))
 |_=>none
end
section
variable{P:Program}{W:World}{G:Nat→Option (List AV)}
theorem gi{t:TypeId}(ht:P.underlying t=some .string):lT P W G t ak (fun s=>s.length≤aZ):=fun H enc spare fuel cs x h hw=>by
 obtain ⟨s,rfl,rfl,hs⟩:=DataW.trod_string ht h;exact ⟨s.data.toList,by simpa [reachBytes] using hw s.data.toList.length (by simp [DataW.weights]),VL.one (.str _)⟩
theorem Ko{t:TypeId}(ht:P.underlying t=some (.int .i64)):lT P W G t SS I64:=fun H enc spare fuel cs x h _=>by
 obtain ⟨n,rfl,_,hn⟩:=DataW.trod_int ht h;refine ⟨n, ?_,VL.one (.int _ _)⟩;simp only [Lit.wf] at hn;revert hn;simp [IntKind.has,IntKind.min,IntKind.max,IntKind.bits,IntKind.signed,I64]
theorem nv(off:Nat):LM P W G [] off 0 (fun _:Unit=>[]) (fun _=>True):=fun H enc spare fuel cs _ hl=>⟨(),trivial,by
 rw [an9 (by omega)];exact VL.nil _⟩
theorem bS{t:TypeId}{fl:List (Nat×TypeId)}{off w1 w2:Nat}{α β:Type}{row1:α→List AV}{row2:β→List AV}{ok1:α→Prop}{ok2:β→Prop}
  (h1:lT P W G t row1 ok1) (hw:P.cellsOf t=w1) (h2:LM P W G fl (off+w1) w2 row2 ok2):LM P W G ((off,t)::fl) off (w1+w2) (fun a:α×β=>row1 a.1++row2 a.2) (fun a=>ok1 a.1∧ok2 a.2):=fun H enc spare fuel cs hf hl=>by
 obtain ⟨x,hx,hxw⟩:=hf 0 (off,t) rfl;obtain ⟨a,ha,va⟩:=h1 H enc spare fuel _ x hx hxw;obtain ⟨b,hb,vb⟩:=h2 H enc spare fuel cs (fun i f hi=>hf (i+1) f (by simpa using hi)) (by omega);refine ⟨(a,b),⟨ha,hb⟩, ?_⟩;have:=va.append vb;simp only [hw] at this;have e:(cs.drop off).take w1++cs.drop (off+w1)=cs.drop off:=by rw [← aot,ao3]
 rwa [e] at this
theorem kd{t:TypeId}{fl:List (Nat×TypeId)}{w:Nat}{α S:Type}{row:α→List AV}{ok:α→Prop}{rowS:S→List AV}{okS:S→Prop}(hf:fieldsOf P t=some fl)(hw:P.cellsOf t=w)
  (h:LM P W G fl 0 w row ok) (φ:α→S) (hr:∀ a,rowS (φ a)=row a) (ho:∀ a,ok a→okS (φ a)):lT P W G t rowS okS:=fun H enc spare fuel cs x hx hw0=>by
 unfold fieldsOf at hf;split at hf
 ·rename_i fs ht
  simp only [amo] at hf;subst hf;obtain ⟨xs,n,_,rfl,hl,hxl,hat⟩:=DataW.trod_struct ht hx
  obtain ⟨a,ha,va⟩:=h H enc spare n cs (fun i f hi=>by
   rw [amK] at hi;cases hfi:fs.toList[i]? with
   |none=>rw [hfi] at hi;cases hi
   |some g=>
    rw [hfi] at hi;obtain rfl:(g.offset,g.type)=f:=by simpa using hi
    have hg:fs[i]?=some g:=by simpa using hfi
    have:=hat i g hg;have hlt:i<xs.length:=by rw [hxl];exact (amh.1 hg).1
    rw [al4 hlt] at this;refine ⟨_,this,fun n hn=>hw0 n ?_⟩;simp only [DataW.weights,ht];exact DataW.weights_mem_each (j:=i) (t:=g.type) (d:=xs[i].1) (by simp [hfi]) (by simp [al4 hlt]) n hn) (by omega)
  exact ⟨φ a,ho a ha,by rw [hr];simpa using va⟩
 ·cases hf
theorem PP{α:Type}{p:Nat→α→Prop}:∀ (n:Nat),(∀ i,i<n→∃ a,p i a)→∃ l:List α,l.length=n∧∀ i a,l[i]?=some a→p i a
 |0,_=>⟨[],rfl,fun i a h=>by simp at h⟩
 |n+1,h=>by
  obtain ⟨l,h1,h2⟩:=PP n (fun i hi=>h i (by omega));obtain ⟨a,ha⟩:=h n (by omega);refine ⟨l++[a],by simp [h1],fun i b hi => ?_⟩
  by_cases hl:i<l.length
  ·rw [al7 hl] at hi;exact h2 i b hi
  ·rw [amm (by omega)] at hi
   have:i-l.length=0:=by
    cases hq:i-l.length with
    |zero=>rfl
    |succ k=>rw [hq] at hi;simp at hi
   rw [this] at hi;obtain rfl:a=b:=by simpa using hi
   have:i=n:=by omega
   subst this;exact ha
theorem vN{n:Nat}(h:Nat.blt 0 n=true):0<n:=by rwa [anv] at h
theorem Ix{H:Type}{P:Program}{e:TypeId}{n:Nat}:∀ {l:List (DataW H)}{d:DataW H},d∈l→n∈DataW.weights P e d→n∈DataW.weightsAll P e l
 |x::l,d,hd,hn=>by
  simp only [DataW.weightsAll,aoc];rcases ank.1 hd with rfl | h
  ·exact .inl hn
  ·exact .inr (Ix h hn)
theorem LN{t e:TypeId}{α:Type}{row:α→List AV}{ok:α→Prop}{sz:Nat}(ht:P.underlying t=some (.slice e))(hsz:P.cellsOf e=sz)(hpos:0<sz)(hby:0<P.bytesOf e)(hrow:∀ a,(row a).length=sz)(he:lT P W G e row ok) :
  lT P W G t (fun s:Sl α=>[.slice s.tag sz (s.l.map row)]) (fun s=>s.ok 0 ok∧(s.tag = .nil∧s.l=[]∨s.tag = .some)):=fun H enc spare fuel cs x h hw0=>by
 rcases Go.Deep.open_slice ht h with ⟨rfl,_⟩ | ⟨a,len,cap,m,n,D,Pl,rfl,hb,hl,hcap,hm,rfl,hel⟩
 ·exact ⟨⟨.nil,[]⟩,⟨⟨trivial,by simp,fun x hx=>by cases hx⟩,.inl ⟨rfl,rfl⟩⟩,VL.one (.Zo _ _ _ (by simp))⟩
 ·rw [hsz] at hel
  have hlm:len≤m:=by rw [hm];split<;>omega
  have hww:∀ i,i<m→∀ n∈DataW.weights P e (D i),n≤reachBytes:=fun i hi n hn=>hw0 n (by
   simp only [DataW.weights,ht,ank,aoc];right
   by_cases hlt:i<len
   ·left;exact Ix (anD.2 ⟨i,anV.2 hlt,rfl⟩) hn
   ·right;exact Ix (anD.2 ⟨i-len,anV.2 (by omega),by rw [show len+(i-len)=i by omega]⟩) hn)
  have hlb:len≤reachBytes:=by
   have:=hw0 ((((List.range len).map D).length+((List.range (m-len)).map fun j=>D (len+j)).length)*P.bytesOf e) (by simp only [DataW.weights,ht];exact apf);simp only [ama,List.length_range] at this;have h2:len*1≤(len+(m-len))*P.bytesOf e:=Nat.mul_le_mul (by omega) hby;omega
  obtain ⟨l,hll,hat⟩:=PP (α:=α) (p:=fun i a'=>ok a'∧∃ cs',W.cells? 0 (a.add (i*sz)) sz=some cs'∧VL (aC.start W G) (row a') cs') len (fun i hi=>by
   obtain ⟨cs',h1,h2⟩:=hel i (by omega);obtain ⟨a',h3,h4⟩:=he H enc spare n cs' _ h2 (hww i (by omega));exact ⟨a',h3,cs',h1,h4⟩)
  refine ⟨⟨.some,l⟩,⟨⟨trivial,by rw [hll];exact hlb,fun x hx => ?_⟩,.inr rfl⟩,VL.one ?_⟩
  ·obtain ⟨i,hi⟩:=anI hx
   exact (hat i x hi).1
  ·obtain ⟨b,o,spot⟩:=a
   cases l with
   |nil=>
    have:len=0:=by simpa using hll.symm
    subst this;exact .Zk .some _ _ _ (.inr ⟨rfl,by simp⟩)
   |cons a0 l0=>
    obtain ⟨_,cs0,hc0,hv0⟩:=hat 0 a0 rfl;obtain ⟨_,hcl,hcat⟩:=World.cells?_some hc0
    have hsp:spot=none:=by
     have h0:=hcat 0 hpos;rw [al4 (by omega)] at h0;simpa [Addr.add] using World.cell?_spot h0
    subst hsp;have hlen:len=((a0::l0).map row).length:=by simpa using hll.symm
    rw [hlen]
    have key:∀ (i:Nat) (r:List AV),((a0::l0).map row)[i]?=some r→∃ cs',VL (aC.start W G) r cs'∧∀ j,j<sz→W.cell? ⟨b,o+i*sz+j,none⟩=cs'[j]? := fun i r hi=>by
     rw [amK] at hi;cases hai:(a0::l0)[i]? with
     |none=>rw [hai] at hi;cases hi
     |some ai=>
      rw [hai] at hi;obtain rfl:row ai=r:=by simpa using hi
      obtain ⟨_,cs',hc,hv⟩:=hat i ai hai;obtain ⟨_,hcl',hcat'⟩:=World.cells?_some hc;refine ⟨cs',hv,fun j hj => ?_⟩;rw [← hcat' j hj];congr 1;unfold Addr.add
      by_cases h1:i*sz=0<;>by_cases h2:j=0<;>simp [h1,h2,aom]
    refine .slice .some sz _ b o cap (fun i j=>(W.cell? ⟨b,o+i*sz+j,none⟩).getD undef) (fun r hr => ?_) (fun i j r av hi hj => ?_) (fun i j r av hi hj => ?_) (by rw [← hlen];exact hl) trivial
    ·obtain ⟨a',_,rfl⟩:=anD.1 hr
     exact hrow a'
    ·obtain ⟨cs',hv,hc⟩:=key i r hi
     have hjl:j<r.length:=(al3.1 hj).1
     have hrl:r.length=sz:=by
      obtain ⟨a',_,rfl⟩:=anD.1 (aml hi);exact hrow a'
     show W.cell? _=_;have hcj:=hc j (by omega);rw [hcj,al4 (by rw [← hv.len];omega)];rfl
    ·obtain ⟨cs',hv,hc⟩:=key i r hi
     have hjl:j<r.length:=(al3.1 hj).1
     have hrl:r.length=sz:=by
      obtain ⟨a',_,rfl⟩:=anD.1 (aml hi);exact hrow a'
     have:=hv.at_ j av hj;rw [hc j (by omega),← anK];exact this
theorem OB{t:TypeId}{α:Type}{row:α→List AV}{ok ok':α→Prop}(h:lT P W G t row ok)(hm:∀ a,ok a→ok' a):lT P W G t row ok':=fun H enc spare fuel cs x hh hw=>
 let ⟨a,h1,h2⟩:=h H enc spare fuel cs x hh hw;⟨a,hm a h1,h2⟩
theorem lU{t e:TypeId}{α:Type}{row:α→List AV}{ok:α→Prop}{sz:Nat}(ht:P.underlying t=some (.slice e))(hsz:P.cellsOf e=sz)(hpos:0<sz)(hby:0<P.bytesOf e)(hrow:∀ a,(row a).length=sz)(he:lT P W G e row ok) :
  lT P W G t (fun s:Sl α=>[.slice s.tag sz (s.l.map row)]) (fun s=>s.ok 0 ok):=OB (LN ht hsz hpos hby hrow he) fun _ h=>h.1
theorem U2{t:TypeId}{fl:List (Nat×TypeId)}{r:Reach}{b:Nat}{v:Value}(hf:fieldsOf P t=some fl)(h:Value.okWide P W r b t v):∃ cs,v = .agg cs:=by
 unfold fieldsOf at hf;split at hf
 ·rename_i fs ht
  simp only [Value.okWide,ht] at h;obtain ⟨cs,rfl,_⟩:=h;exact ⟨cs,rfl⟩
 ·cases hf
theorem U3{t:TypeId}{r:Reach}{b:Nat}{v:Value}(ht:P.underlying t=some .string)(h:Value.okWide P W r b t v):∃ s,v = .string s:=by
 simp only [Value.okWide,ht,Cell.okWide,Cell.ok] at h;split at h<;>first | exact ⟨_,rfl⟩ | (simp_all;done) | cases h
theorem Na{H:Type}{enc:TypeId×Value→H}{spare:Nat→Bool}{t:TypeId}{α:Type}{row:α→List AV}{ok:α→Prop}(ho:lT P W G t row ok){v:Value}{d:DataW H}{ps:List MemPlace}
  (h:DataW.Trod enc P W 0 spare true t v d ps) (hw:∀ n∈DataW.weights P t d,n≤reachBytes):∃ a,ok a∧VL (aC.start W G) (row a) v.cells.toList:=by
 obtain ⟨fuel,hf⟩:=h;exact ho H enc spare fuel _ _ hf hw
end
end Go.Am
end
section
namespace Go.Am
open Go.RowKit
def kK:FuncId:=3
def kX:FuncId:=5
def cU:FuncId:=6
def js:FuncId:=7
def eQ:FuncId:=8
def rr:FuncId:=9
def oL:FuncId:=10
def jz:FuncId:=11
def ml:FuncId:=12
def gE:FuncId:=13
def LO:FuncId:=14
def lJ:FuncId:=15
def fY:FuncId:=16
def oM:FuncId:=17
def oN:FuncId:=18
def pZ:FuncId:=19
def aP:FuncId:=20
def kY:FuncId:=21
def bC:FuncId:=22
def jt:FuncId:=23
def im:FuncId:=24
def kZ:FuncId:=25
def eM:FuncId:=26
def cN:FuncId:=27
def fm:FuncId:=28
def i6:FuncId:=29
def xM:FuncId:=30
def ke:FuncId:=31
def rM:FuncId:=32
def kf:FuncId:=33
def k6:FuncId:=34
def rN:FuncId:=35
def kg:FuncId:=36
def k7:FuncId:=37
def rO:FuncId:=38
def kh:FuncId:=39
def k8:FuncId:=40
def rP:FuncId:=41
def ki:FuncId:=42
def k9:FuncId:=43
def rQ:FuncId:=44
def lf:FuncId:=45
def lV:FuncId:=46
def JB:FuncId:=47
def AR:FuncId:=48
def kL:FuncId:=49
def aq:FuncId:=50
def ru:FuncId:=51
def c6:FuncId:=52
def kF:FuncId:=53
def cO:FuncId:=54
def kj:FuncId:=55
def gF:FuncId:=56
def cV:FuncId:=57
def ny:FuncId:=58
def mG:FuncId:=59
def mH:FuncId:=60
def i7:FuncId:=61
def iq:FuncId:=62
def aQ:FuncId:=63
def sV:FuncId:=64
def eZ:FuncId:=65
def mI:FuncId:=66
def fK:FuncId:=67
def cP:FuncId:=68
def sW:FuncId:=69
def dt:FuncId:=70
def jI:FuncId:=71
def ft:FuncId:=72
def du:FuncId:=73
def jJ:FuncId:=74
def lg:FuncId:=75
def jK:FuncId:=76
def ju:FuncId:=77
def ir:FuncId:=78
def lK:FuncId:=79
def uh:FuncId:=80
def dv:FuncId:=81
def jL:FuncId:=82
def dC:FuncId:=83
def jM:FuncId:=84
def xN:FuncId:=85
def cj:FuncId:=86
def jN:FuncId:=87
def mJ:FuncId:=88
def p6:FuncId:=89
def tR:FuncId:=90
def zH:FuncId:=91
def BG:FuncId:=92
def xw:FuncId:=93
def lL:FuncId:=94
def lM:FuncId:=95
def lN:FuncId:=96
def ek:FuncId:=97
def lO:FuncId:=98
def lP:FuncId:=99
def iR:FuncId:=100
def mK:FuncId:=101
def kB:FuncId:=102
def jZ:FuncId:=103
def iS:FuncId:=104
def lQ:FuncId:=105
def j0:FuncId:=106
def iu:FuncId:=107
def jA:FuncId:=108
def lj:FuncId:=109
def nz:FuncId:=110
def ja:FuncId:=111
def oO:FuncId:=112
def fc:FuncId:=113
def km:FuncId:=114
def aj:FuncId:=115
def gp:FuncId:=116
def p7:FuncId:=117
def mL:FuncId:=118
def bZ:FuncId:=119
def j3:FuncId:=120
def b7:FuncId:=121
def ll:FuncId:=122
def jv:FuncId:=123
def iv:FuncId:=124
def lW:FuncId:=125
def zI:FuncId:=126
def cQ:FuncId:=127
def c7:FuncId:=128
def cI:FuncId:=129
def rR:FuncId:=130
def pG:FuncId:=131
def bV:FuncId:=132
def vO:FuncId:=133
def zJ:FuncId:=134
def Ed:FuncId:=135
def lX:FuncId:=136
def lD:FuncId:=137
def dY:FuncId:=138
def eF:FuncId:=139
def mM:FuncId:=140
def xO:FuncId:=141
def p8:FuncId:=142
def gG:FuncId:=143
def nA:FuncId:=144
def xP:FuncId:=145
def u6:FuncId:=146
def tJ:FuncId:=147
def uA:FuncId:=148
def p9:FuncId:=149
def c8:FuncId:=150
def Cp:FuncId:=151
def AS:FuncId:=152
def zK:FuncId:=153
def qG:FuncId:=154
def dJ:FuncId:=155
def mN:FuncId:=156
def wu:FuncId:=157
def oP:FuncId:=158
def yA:FuncId:=159
def Ee:FuncId:=160
def kM:FuncId:=161
def dA:FuncId:=162
def u7:FuncId:=163
def Ef:FuncId:=164
def u9:FuncId:=165
def tK:FuncId:=166
def w5:FuncId:=167
def sX:FuncId:=168
def sY:FuncId:=169
def dw:FuncId:=170
def sD:FuncId:=171
def vP:FuncId:=172
def AT:FuncId:=173
def BH:FuncId:=174
def Cq:FuncId:=175
def zM:FuncId:=176
def vQ:FuncId:=177
def vR:FuncId:=178
def Cr:FuncId:=179
def vc:FuncId:=180
def n4:FuncId:=181
def Eg:FuncId:=182
def bN:FuncId:=183
def tL:FuncId:=184
def Kq:TypeId:=3
def el:TypeId:=4
def cq:TypeId:=5
def aI:TypeId:=9
def sZ:TypeId:=22
def s3:TypeId:=23
def s4:TypeId:=24
def s5:TypeId:=25
def ui:TypeId:=26
def ab:TypeId:=28
def fI:TypeId:=39
def aR:TypeId:=41
def xx:TypeId:=43
def bW:TypeId:=45
def uj:TypeId:=46
def aJ:TypeId:=48
def bX:TypeId:=50
def nB:TypeId:=51
def aD:TypeId:=53
def bk:TypeId:=55
def di:TypeId:=57
def eo:TypeId:=59
def da:TypeId:=63
def cT:TypeId:=74
def mo:TypeId:=75
def aO:TypeId:=76
def bI:TypeId:=84
def dZ:TypeId:=97
def dN:TypeId:=104
def ep:TypeId:=107
def Eh:TypeId:=133
def OC:TypeId:=183
def OD:TypeId:=197
def C5:TypeId:=203
def cb:TypeId:=207
def gH:TypeId:=210
def wv:TypeId:=217
def zN:TypeId:=222
def BI:TypeId:=224
end Go.Am
end
