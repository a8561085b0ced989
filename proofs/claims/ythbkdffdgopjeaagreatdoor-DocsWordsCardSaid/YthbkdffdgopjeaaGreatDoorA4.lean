import Derived.Test.YthbkdffdgopjeaaGreatDoorA3
import Derived.Laws.Externs
import Derived.Lib.Bytealg
import Derived.Lib.MakeNoZero
import Derived.Lib.Builder
import Derived.Carry
import Derived.Shelf.Unicode.DecodeSlow
import Derived.Lib.SpaceU
import Derived.Deep.Slices
import Derived.DataReads
import Derived.SizedLaws
import Derived.Test.YthbkdffdgopjeaaGreatDoorChecked
import Derived.KernelRfl
import Derived.RangeFuncNested
import Derived.RangeFuncBound
import Derived.RangeFuncCalls
import Derived.RangeFuncLeaves
import Derived.Shelf.Abstract
import Derived.WalkKit
import Derived.OwnWalkIn
import Derived.TacticsInMore
import Derived.LoopNIn
import Derived.LoopIn
/-
  Part 4 of the tool: an abstract machine over the model, proved sound, and what it says of the functions that the law reaches. Condition: none but those that each theorem names.
-/
set_option linter.unusedVariables false
set_option linter.unusedSimpArgs false
section
namespace Go.Am
open Go.RowKit
structure w6 (P:Program) (f:FuncId) (e:Array Value→Sem Value):Prop where
 run:∀ (args:Array Value) (w:World),(callFunc f args).run P w=((e args).run P w).andThen fun v w'=>.ok (.value v) w'
theorem w6.of {P:Program}{f:FuncId}{fn:Func}{e:Array Value→Sem Value} (hf:P.funcs[f]?=some fn) (hname:(fn.name == "runtime.NumGoroutine")=false)
  (hb:fn.body.isNone=true) (hn:Extern.findNext fn=none) (he:Extern.find fn=some e):w6 P f e:=⟨fun args w=>run_callFunc_extern hf hname hb hn he args w⟩
section
variable{P:Program}{G:Nat→Option (List AV)}{f:FuncId}{e:Array Value→Sem Value}
theorem w6.calls(h:w6 P f e){args:List AV}{H:List AObj}{R:oD→List AObj→Prop}
  (hr:∀ (K:aq) (w:World) (cargs:Array Value),Inv K H w→Vs K args cargs→∃ cv w',(e cargs).run P w = .ok cv w'∧uL K R (.returned cv) w'):cQ P G f args H R:=fun K w cargs _ hi hv=>by
 obtain ⟨cv,w',h1,h2⟩:=hr K w cargs hi hv;exact .inr ⟨cv,w',by rw [h.run,h1];rfl,h2⟩
theorem Hi(h:w6 P f Extern.BytealgIndexByte.indexByte)(s:List UInt8)(c:Int)(H:List AObj) :
  cQ P G f [.str s,.int .u8 c] H fun r H'=>r = .ret (.int .i64 (Lib.indexByte s c.toNat.toUInt8))∧H'=H:=h.calls fun K w cargs hi hv=>by
 obtain ⟨x,y,rfl,hx,hy⟩:=sH hv;cases hx;cases hy;exact ⟨_,_,Lib.run_indexByteString _ _ _,K,.ret (.int .i64 (Lib.indexByte s c.toNat.toUInt8)),H,.refl K,V.int _ _,hi,rfl,rfl⟩
theorem I5(h:w6 P f Extern.AbiNoEscape.same)(v:AV)(H:List AObj):cQ P G f [v] H fun r H'=>r = .ret v∧H'=H:=h.calls fun K w cargs hi hv=>by
 obtain ⟨x,rfl,hx⟩:=uU hv;exact ⟨_,_,Lib.run_noEscape _ x,K,.ret v,H,.refl K,hx,hi,rfl,rfl⟩
end
def woK(E0:aT)(n:Nat)(f:FuncId)(args:List AV)(H:List AObj):Option (AV×List Nat):=
 bif wkbL 0 args then (match sO Kz E0 n f args [] with
  |some (.ret v0,H1)=>match fzV 0 H1 v0 with
   |some v=>some (v,[])
   |none=>none
  |_=>none)
 else bif wkbL H.length args&&H.all (I2 H.length) then (match sO Kz E0 n f args H with
  |some (.ret v0,H1)=>bif rk H H1 then (match fzV H.length H1 v0 with
   |some v=>some (v,List.range H.length)
   |none=>none) else none
  |_=>none)
 else none
theorem y8{n:Nat}{l:List AV}(h:wkbL n l=true):∀ a∈l,wkb n a=true:=fun a ha=>by
 obtain ⟨i,hi⟩:=List.mem_iff_getElem?.1 ha;exact ka h hi
theorem Hk{α:Type}{H H2:List α}(h:∀ i,i<H.length→H2[i]?=H[i]?):H.length≤H2.length:=by
 refine Nat.le_of_not_lt fun e => ?_
 have h1:=h H2.length e;rw [List.getElem?_eq_none (Nat.le_refl _),List.getElem?_eq_getElem e] at h1;cases h1
theorem I6{E0:aT}(h0:E0.Ok)(hG:∀ n g cs,E0.G g=some cs→wkbL n cs=true){n:Nat}{f:FuncId}{args:List AV}{H:List AObj}{v:AV}{L:List Nat}(h:woK E0 n f args H=some (v,L)) :
  ∀ H2:List AObj,(∀ id∈L,id<H.length→H2[id]?=H[id]?)→cQ E0.P E0.G f args H2 fun r H'=>r = .ret v∧H'=H2:=by
 intro H2 hag;unfold woK at h;cases hw:wkbL 0 args with
 |true=>
  rw [hw,cond_true] at h;split at h
  ·rename_i v0 H1 hc
   split at h
   ·rename_i v' hf
    cases h;exact cQ.frame (He:=[]) ((qy h0 n).2 _ _ _ _ _ hc |>.mono fun r H' e=>e) (by simp) hG (y8 hw) (fun x hx=>by simp at hx) hf H2 (by simp) (fun i x hx=>by simp at hx) (fun t fr T ht=>by simp at ht)
   ·cases h
  ·cases h
 |false=>
  rw [hw,cond_false] at h;cases hw2:wkbL H.length args&&H.all (I2 H.length) with
  |false=>rw [hw2] at h;cases h
  |true=>
   rw [hw2,cond_true] at h;simp only [Bool.and_eq_true] at hw2;split at h
   ·rename_i v0 H1 hc
    cases hb:rk H H1 with
    |false=>rw [hb] at h;cases h
    |true=>
     rw [hb,cond_true] at h;split at h
     ·rename_i v' hf
      cases h;exact cQ.frame ((qy h0 n).2 _ _ _ _ _ hc |>.mono fun r H' e=>e) (qz hb) hG (y8 hw2.1) (fun x hx=>List.all_eq_true.1 hw2.2 x hx) hf H2 (Hk fun i hi=>hag i (by simpa using hi) hi) (fun i x hx=>.inr ((hag i (by simpa using (List.getElem?_eq_some_iff.1 hx).1) (List.getElem?_eq_some_iff.1 hx).1).trans hx)) (fun t fr T hlt ht=>(hag t (by simpa using hlt) hlt).symm.trans ht)
     ·cases h
   ·cases h
def y9:List AObj→List AObj→Bool
 |[],_=>true
 |.dead::_,.tok _ _::_=>false
 |.dead::l,_::m=>y9 l m
 |x::l,y::m=>AObj.eqb x y&&y9 l m
 |_,_=>false
theorem FV:∀ {H H2:List AObj},y9 H H2=true→H.length≤H2.length∧(∀ (i:Nat) (x:AObj),H[i]?=some x→x = .dead∨H2[i]?=some x) ∧
  (∀ (t fr:Nat) (T:TypeId),t<H.length→H2[t]?=some (.tok fr T)→H[t]?=some (.tok fr T))
 |[],_,_=>⟨by simp,fun i x h=>by simp at h,fun t fr T h=>by simp at h⟩
 |x::l,[],h=>by cases x<;>simp [y9] at h
 |x::l,y::m,h=>by
  have key:(x = .dead∧∀ fr T,y≠.tok fr T)∨x=y:=by
   cases x<;>cases y<;>simp only [y9,Bool.and_eq_true] at h<;>first | (cases h;done) | exact .inr (AObj.eqb_eq h.1) | exact .inl ⟨rfl,fun _ _ e=>by cases e⟩
  have hr:y9 l m=true:=by
   cases x<;>cases y<;>simp only [y9,Bool.and_eq_true] at h<;>first | (cases h;done) | exact h.2 | exact h
  obtain ⟨h1,h2,h3⟩:=FV hr;refine ⟨by simpa using h1,fun i z hz => ?_,fun t fr T ht hz => ?_⟩
  ·cases i with
   |zero=>simp at hz;subst hz;rcases key with ⟨h,_⟩ | h
          ·exact .inl h
          ·exact .inr (by simp [h])
   |succ i=>simp at hz;simpa using h2 i z hz
  ·cases t with
   |zero=>simp at hz;subst hz;rcases key with ⟨_,h⟩ | h
          ·exact absurd rfl (h fr T)
          ·simp [h]
   |succ t=>simp at hz ht;simpa using h3 t fr T ht hz
def FW(E0:aT)(n:Nat)(f:FuncId)(args:List AV)(H:List AObj):Option AV:=
 bif wkbL H.length args&&H.all (I2 H.length) then (match sO Kz E0 n f args H with
  |some (.ret v0,H1)=>bif rk H H1 then fzV H.length H1 v0 else none
  |_=>none)
 else none
theorem DP{E0:aT}(h0:E0.Ok)(hG:∀ n g cs,E0.G g=some cs→wkbL n cs=true){n:Nat}{f:FuncId}{args:List AV}{He:List AObj}{v:AV}
  (h:FW E0 n f args He=some v) {H2:List AObj} (hb:y9 He H2=true):cQ E0.P E0.G f args H2 fun r H'=>r = .ret v∧H'=H2:=by
 unfold FW at h;cases hw2:wkbL He.length args&&He.all (I2 He.length) with
 |false=>rw [hw2] at h;cases h
 |true=>
  rw [hw2,cond_true] at h;simp only [Bool.and_eq_true] at hw2;split at h
  ·rename_i v0 H1 hc
   cases hb2:rk He H1 with
   |false=>rw [hb2] at h;cases h
   |true=>
    rw [hb2,cond_true] at h;obtain ⟨h1,h2,h3⟩:=FV hb;exact cQ.frame ((qy h0 n).2 _ _ _ _ _ hc |>.mono fun r H' e=>e) (qz hb2) hG (y8 hw2.1) (fun x hx=>List.all_eq_true.1 hw2.2 x hx) h H2 h1 h2 h3
  ·cases h
end Go.Am
end
section
namespace Go.Am
def c7(P:Program)(G:Nat→Option (List AV))(f:FuncId)(af:AFn):Prop:=Is P G af.muts f=some (af.c.strip,af.n,af.res,af.dfr.map fun x=>(x.1,x.2.1,x.2.2.strip))
def AFn.k(a:AFn):AFn:=⟨a.c.strip,a.n,a.res,.keep,a.muts,none⟩
def KL(P:Program)(G:Nat→Option (List AV))(f:FuncId)(x:Nat×AFn):Prop:=Dw P G f=some (x.1,x.2.c.strip,x.2.n,x.2.res)∧x.2.dfr=none
def KM{α:Type}:List (Nat×α)→Nat→Option α
 |[],_=>none
 |p::l,f=>bif Nat.beq f p.1 then some p.2 else KM l f
def DQ{α:Type}:List (Nat×List (Nat×α))→Nat→Option α
 |[],_=>none
 |p::l,f=>bif Nat.ble f p.1 then KM p.2 f else DQ l f
def mI{α:Type}(C:Nat→α→Prop):List (Nat×α)→Prop
 |[]=>True
 |p::l=>C p.1 p.2∧mI C l
def Cu{α:Type}(C:Nat→α→Prop):List (Nat×List (Nat×α))→Prop
 |[]=>True
 |p::l=>mI C p.2∧Cu C l
theorem FX{α:Type}{C:Nat→α→Prop}{f:Nat}{a:α}:∀ {l:List (Nat×α)},mI C l→KM l f=some a→C f a
 |[],_,h=>by cases h
 |p::l,h,e=>by
  unfold KM at e;cases hb:Nat.beq f p.1 with
  |true=>rw [hb] at e;cases e;rw [Nat.eq_of_beq_eq_true hb];exact h.1
  |false=>rw [hb] at e;exact FX h.2 e
theorem za{α:Type}{C:Nat→α→Prop}{f:Nat}{a:α}:∀ {l:List (Nat×List (Nat×α))},Cu C l→DQ l f=some a→C f a
 |[],_,h=>by cases h
 |p::l,h,e=>by
  unfold DQ at e;cases hb:Nat.ble f p.1 with
  |true=>rw [hb] at e;exact FX h.1 e
  |false=>rw [hb] at e;exact za h.2 e
end Go.Am
end
section
namespace Go.Am
structure RPc where
 f:FuncId
 args:List AV
 heap:List AObj
 v:AV
def dd(n:Nat)(l:List AObj):List AObj:=List.replicate n .dead++l
def FY(f:FuncId)(args:List AV)(H:List AObj):List RPc→Option AV
 |[]=>none
 |p::ps=>bif Nat.beq f p.f&&AV.eqbL args p.args&&y9 p.heap H then some p.v else FY f args H ps
def pin(f:FuncId):List RPc→Bool
 |[]=>false
 |p::ps=>bif Nat.beq f p.f then true else pin f ps
def RPc.Ok(P:Program)(G:Nat→Option (List AV))(p:RPc):Prop:=∀ H2,y9 p.heap H2=true→cQ P G p.f p.args H2 fun r H'=>r = .ret p.v∧H'=H2
def Nr(E0:aT):aT := { E0 with wo:=woK E0 100000 }
def ME(E0:aT)(ps:List RPc)(f:FuncId)(args:List AV)(H:List AObj):Option Out:=
 match FY f args H ps with
 |some v=>some (.ret v,H)
 |none=>bif pin f ps then sO Kz (Nr E0) 100000 f args H else E0.orc f args H
def EPo(E0:aT)(ps:List RPc):aT := { E0 with fn:=fun f=>bif pin f ps then none else E0.fn f,orc:=ME E0 ps }
def EP(E0:aT)(ps:List RPc):aT := { EPo E0 ps with wo:=woK (EPo E0 ps) 100000 }
theorem DS{P:Program}{G:Nat→Option (List AV)}{f:FuncId}{args:List AV}{H:List AObj}{v:AV}:∀ {ps:List RPc},(∀ p∈ps,p.Ok P G)→FY f args H ps=some v→cQ P G f args H fun r H'=>r = .ret v∧H'=H
 |[],_,h=>by cases h
 |p::ps,hp,h=>by
  unfold FY at h;cases hb:(Nat.beq f p.f&&AV.eqbL args p.args&&y9 p.heap H) with
  |true=>
   rw [hb] at h;cases h;simp only [Bool.and_eq_true] at hb;rw [Nat.eq_of_beq_eq_true hb.1.1,AV.eqbL_eq hb.1.2];exact hp p (by simp) H hb.2
  |false=>rw [hb] at h;exact DS (fun q hq=>hp q (by simp [hq])) h
section
variable{E0:aT}(h0:E0.Ok)(hG:∀ n g cs,E0.G g=some cs→wkbL n cs=true)
include h0 hG in
theorem KN:(Nr E0).Ok:=⟨h0.mixed,h0.fn,h0.dfn,fun _ _ _ _ _ h=>I6 h0 hG h,h0.orc,h0.meth,h0.seq⟩
include h0 hG in
theorem MF{ps:List RPc}(hp:∀ p∈ps,p.Ok E0.P E0.G)(hw:∀ f args H,E0.wo f args H=none):(EPo E0 ps).Ok:=⟨h0.mixed,fun f af h=>by
  have h':(bif pin f ps then none else E0.fn f)=some af:=h;cases hb:pin f ps with
  |true=>rw [hb] at h';cases h'
  |false=>rw [hb] at h';exact h0.fn f af h',h0.dfn,(fun f args H v L h=>by
  have h':E0.wo f args H=some (v,L):=h;rw [hw] at h';cases h'),fun f args H r H' h=>by
  have h':ME E0 ps f args H=some (r,H'):=h;unfold ME at h';split at h'
  ·rename_i v hv
   cases h';exact DS hp hv
  ·cases hb:pin f ps with
   |true=>
    rw [hb] at h';exact ((qy (KN h0 hG) 100000).2 _ _ _ _ _ h').mono fun r H' e=>e
   |false=>rw [hb] at h';exact h0.orc _ _ _ _ _ h',h0.meth,h0.seq⟩
include h0 hG in
theorem L2{ps:List RPc}(hp:∀ p∈ps,p.Ok E0.P E0.G)(hw:∀ f args H,E0.wo f args H=none):(EP E0 ps).Ok:=
 have h:=MF h0 hG hp hw
 ⟨h.mixed,h.fn,h.dfn,fun _ _ _ _ _ e=>I6 h hG e,h.orc,h.meth,h.seq⟩
include h0 hG in
theorem sW{ps:List RPc}(hp:∀ p∈ps,p.Ok E0.P E0.G)(hw:∀ f args H,E0.wo f args H=none){p:RPc}(h:FW (EP E0 ps) 100000 p.f p.args p.heap=some p.v):∀ q∈p::ps,q.Ok E0.P E0.G:=fun q hq=>by
 rcases List.mem_cons.1 hq with rfl | hq
 ·exact fun H2 hs=>DP (L2 h0 hG hp hw) hG h hs
 ·exact hp q hq
end
end Go.Am
end
section
namespace Go.Am
open Go.RowKit Go.ChangeShapes
def aq.start(W:World)(G:Nat→Option (List AV)):aq:=
 {imm:=fun b o=>W.cell? ⟨b,o,none⟩,own:=fun _=>none,loc:=[],base:=fun b=>W.heap.size≤b,w0:=W,glob:=G,shape:=qE W }
theorem Inv.start(W:World)(G:Nat→Option (List AV))(hG:∀ (g:Nat) (cs:List AV),G g=some cs→V (aq.start W G) (.vptr cs.length [cs] 0 0) (.pointer (some ⟨g,0,none⟩))):Inv (aq.start W G) [] W:=
 ⟨nM.refl _ _,fun _ h=>h,fun _ _ _ h=>h,rfl,(fun id x h=>by simp at h),(fun i j x y h=>by simp at h),(fun b t n h=>by cases h),hG,fun b s h=>yY h⟩
section
variable{P:Program}
theorem Hl{G:Nat→Option (List AV)}{f:FuncId}{args:List AV}{W:World}{cargs:Array Value}(h:cQ P G f args [] fun r H'=>r = .ret (.bool true)∧H'=[])
  (hG:∀ (g:Nat) (cs:List AV),G g=some cs→V (aq.start W G) (.vptr cs.length [cs] 0 0) (.pointer (some ⟨g,0,none⟩)))
  (hb:(callFunc f cargs).run P W = .ok (.enter f cargs) W) (hv:Vs (aq.start W G) args cargs):Calls P f cargs W fun e w'=>e = .returned (.bool true)∧Below W.heap.size W w':=by
 rcases h (aq.start W G) W cargs rfl (Inv.start W G hG) hv with ⟨_,h2⟩ | ⟨cv,w',h1,_⟩
 ·refine h2.mono ?_
  rintro e w' ⟨K',r,H',hk,he,hi,rfl,rfl⟩;have hkept:=hi.below;rw [hk.base,hk.w0] at hkept;refine ⟨?_,hkept.below fun b hb=>hb⟩;cases e with
  |panicked c=>exact he.elim
  |outgrown=>exact he.elim
  |returned x=>
   have hx:V K' (.bool true) x:=he;cases hx;rfl
 ·rw [hb] at h1;cases h1
theorem ue{H:Type}{enc:TypeId×Value→H}(hl:laidOutB P=true){W W':World}(hb:Below W.heap.size W W'):∀ (ts:List TypeId) (vs:List Value) (ds:List (DataW H)) (ps:List MemPlace),
  (∀ t∈ts,P.readableRec t=true∧t<P.types.size)→DataW.TrodAll enc P W 0 (fun _=>true) true ts vs ds ps→(∀ x∈ps,x.block<W.heap.size) →
  DataW.TrodAll enc P W' 0 (fun b=>decide (b<W.heap.size)) true ts vs ds ps
 |[],_,_,_,_,h,_=>by
  obtain ⟨rfl,rfl,rfl⟩:=trodAll_nil h;rfl
 |t::ts,_,_,_,hr,h,hlt=>by
  obtain ⟨v,vs1,d,ds1,a,b,rfl,rfl,rfl,h1,h2⟩:=trodAll_cons h;exact ⟨a,b,Below.trod hl (hr t (by simp)).1 (hr t (by simp)).2 h1 hb (fun x hx=>hlt x (by simp [hx])),ue hl hb ts vs1 ds1 b (fun u hu=>hr u (by simp [hu])) h2 (fun x hx=>hlt x (by simp [hx])),rfl⟩
end
end Go.Am
end
section
namespace Go.Am.Sh
open Go.RowKit
abbrev t(n:Nat):RX:=.t n
abbrev i(n:Int):RX:=.c (.int .i64 n)
abbrev u(n:Int):RX:=.c (.int .u8 n)
abbrev T:RX:=.c (.bool true)
abbrev F:RX:=.c (.bool false)
abbrev s(x:List UInt8):RX:=.c (.str x)
abbrev f(n:Nat):RX:=.c (.fn (.func n) [] [])
abbrev o(d:Nat)(x:ROp):RO:=⟨some d,none,.op x⟩
abbrev n(x:ROp):RO:=⟨none,none,.op x⟩
abbrev g(d q:Nat)(x:ROp):RO:=⟨some d,some (q,true),.op x⟩
abbrev h(d q:Nat)(x:ROp):RO:=⟨some d,some (q,false),.op x⟩
abbrev k(d:Nat)(x:RX)(l:List RX):RO:=⟨some d,none,.call x l⟩
abbrev m(d x:Nat):RO:=⟨some d,none,.op (.mv (.t x))⟩
abbrev mc(d:Nat)(x:RX):RO:=⟨some d,none,.op (.mv x)⟩
abbrev ld(d x:Nat):RO:=⟨some d,none,.op (.ld none (.t x))⟩
abbrev la(d j x:Nat):RO:=⟨some d,none,.op (.ld (some j) (.t x))⟩
abbrev fa(d j x:Nat):RO:=⟨some d,none,.op (.fa j (.t x))⟩
abbrev ia(d j x y:Nat):RO:=⟨some d,none,.op (.ias j (.t x) (.t y))⟩
abbrev ls(d x:Nat):RO:=⟨some d,none,.op (.len .sl (.t x))⟩
abbrev lt(d x:Nat):RO:=⟨some d,none,.op (.len .str (.t x))⟩
abbrev ad(d x:Nat):RO:=⟨some d,none,.op (.ar .add (.t x) (.c (.int .i64 1)))⟩
abbrev bl(d x y:Nat):RO:=⟨some d,none,.op (.ar .lss (.t x) (.t y))⟩
abbrev no(d x:Nat):RO:=⟨some d,none,.op (.un .not (.t x))⟩
abbrev ex(d x j:Nat):RO:=⟨some d,none,.op (.ex (.t x) j)⟩
abbrev P(x:RO):RO×Cl:=(x,.pure)
abbrev W(x:RO):RO×Cl:=(x,.wide)
abbrev E(x:RO):RO×Cl:=(x,.eff)
abbrev K(x:RO):RO×Cl:=(x,.keep)
abbrev Q(x y:AC):AC:=.seq x y
abbrev C(c:Nat)(x y:AC):AC:=.cond (.t c) x y
abbrev O(l:List RO):AC:=.ops l
abbrev D(l:List (RO×Cl)):AC:=.dops false [] [] l
abbrev Y(l:List Nat):AC:=.lv l
abbrev R:AC:=.ret
abbrev X:AC:=.skip
abbrev ar(d:Nat)(op:BinOp)(x y:Nat):RO:=⟨some d,none,.op (.ar op (.t x) (.t y))⟩
abbrev ac(d:Nat)(op:BinOp)(x:Nat)(y:RX):RO:=⟨some d,none,.op (.ar op (.t x) y)⟩
abbrev pf(d c x:Nat):RO:=⟨some d,none,.op (.pk (.t c) (.t x) (.c (.bool false)))⟩
abbrev pt(d c x:Nat):RO:=⟨some d,none,.op (.pk (.t c) (.c (.bool true)) (.t x))⟩
abbrev k1(d f x:Nat):RO:=⟨some d,none,.call (.c (.fn (.func f) [] [])) [.t x]⟩
abbrev k2(d f x y:Nat):RO:=⟨some d,none,.call (.c (.fn (.func f) [] [])) [.t x,.t y]⟩
abbrev rt(d:Nat)(x:RX):AC:=.seq (.ops [⟨some d,none,.op (.mv x)⟩]) .ret
abbrev lo(l:List Nat)(x:AC):AC:=.loop ⟨some l,[],false⟩ x
abbrev lc(l:List Nat)(x:AC):AC:=.loop ⟨some l,[],true⟩ x
abbrev ic(b a c:Nat):AC:=.ops [⟨some b,none,.op (.mv (.t a))⟩,⟨some c,none,.op (.ar .add (.t b) (.c (.int .i64 1)))⟩,⟨some a,none,.op (.mv (.t c))⟩]
abbrev Pm(d x:Nat):RO×Cl:=(⟨some d,none,.op (.mv (.t x))⟩,.pure)
abbrev Pf(d j x:Nat):RO×Cl:=(⟨some d,none,.op (.fa j (.t x))⟩,.pure)
abbrev Wl(d x:Nat):RO×Cl:=(⟨some d,none,.op (.ld none (.t x))⟩,.wide)
abbrev qf(a:AFn)(r:List pz)(m:RM):Prop:=a.res=r∧a.mode=m∧a.dfr=none
end Go.Am.Sh
end
section
namespace Go.Am
def qG:List (List AV)→Option (List (List AV))
 |[]=>some []
 |[.int .u8 k,.str s,.bool _]::l=>match qG l with
  |some r=>if k=5 then some ([.agg [.int .i32 0,.bool true]]::r)
   else if k=1 then some ((el s).map (fun n=>[.agg [.int .i32 n,.bool false]])++r)
   else some r
  |none=>none
 |_=>none
def vh(cap:List AV)(H:List AObj):Option (List (List AV)×List Nat):=
 match cap with
 |[.ptr id 0]=>match H[id]? with
  |some (.cells (.slice _ 3 rows::_) _)=>match qG rows with
   |some r=>bif Nat.ble rows.length 9223372036854775807 then some (r,[]) else none
   |none=>none
  |_=>none
 |_=>none
end Go.Am
end
section
namespace Go.Am
end Go.Am
end
section
namespace Go.Am
open Go.RowKit
theorem Inv.kept{K:aq}{H:List AObj}{w w':World}(hi:Inv K H w)(h:Below w.heap.size w w'):Inv K H w':=by
 have hheap:∀ b,b<w.heap.size→w'.heap[b]?=w.heap[b]? := h.block;refine ⟨⟨h.os.trans hi.below.os,h.tape.trans hi.below.tape,h.output.trans hi.below.output,Nat.le_trans hi.below.size h.size,fun k hk => ?_⟩,fun b hb=>hi.base b (Nat.le_trans h.size hb),fun b off v hv => ?_,hi.len,fun id y hy => ?_,hi.inj,fun b t n ho => ?_,hi.glob,fun b s hs=>(nN.of_lt hheap).shp (hi.shape b s hs)⟩
 ·by_cases hk2:k<w.heap.size
  ·rw [hheap k hk2];exact hi.below.block k hk
  ·exact absurd (hi.base k (by omega)) hk
 ·rw [fB (hheap b (hi.imm_lt hv))];exact hi.imm _ _ _ hv
 ·exact (hi.obj id y hy).mono (.refl K) (fun b _ _ hb=>hheap b hb) (fun _ _ _=>⟨fun _ h=>h,fun h=>h,fun h=>h⟩)
 ·obtain ⟨hb,fr,us,T',lo,hh,h1,h2,h3,h4,h5⟩:=hi.own b t n ho
  exact ⟨hb,fr,us,T',lo,hh,h1,by rw [hheap b (Array.getElem?_eq_some_iff.1 h2).1];exact h2,h3,h4,h5⟩
end Go.Am
end
section
namespace Go.Am
open Go.RowKit
def vT:List AV:=(List.range 256).map fun b=>.int .u8 (Lib.firstT b:Nat)
def E9:List AV:=(List.range 32).map fun i=>.int .u8 ((if i % 2=0 then Lib.accLo (i / 2) else Lib.accHi (i / 2):Nat):Int)
def rP(a b:Nat):Nat→Option (List AV):=fun g=>bif Nat.beq g a then some vT else bif Nat.beq g b then some E9 else none
theorem Fa:vT.length=256:=by simp [vT]
theorem I7:E9.length=32:=by simp [E9]
theorem vU{K:aq}{H:List AObj}{w:World}(hi:Inv K H w){g:Nat}{cs:List AV}(hg:K.glob g=some cs){j:Nat}{n:Int}(hj:cs[j]?=some (.int .u8 n)):w.cell? ⟨g,j,none⟩=some (.int .u8 n):=by
 have hv:=hi.glob g cs hg;generalize hp:Value.pointer (some ⟨g,0,none⟩)=v at hv;cases hv with
 |vptr _ _ _ _ b o vs hl hi2 hv2=>
  injection hp with hp;injection hp with hp;injection hp with h1 h2;subst h1;have h0:o=0:=by omega
  subst h0;have h3:=hi.imm _ _ _ (hi2 0 j cs (.int .u8 n) rfl hj);have h4:=hv2 0 j cs (.int .u8 n) rfl hj;generalize vs 0 j=u at h3 h4;cases h4;simpa using h3
theorem KP{a b:Nat}(hab:Nat.beq b a=false){K:aq}{H:List AObj}{w:World}(hi:Inv K H w)(hg:K.glob=rP a b):Lib.Utf8Tabs a b w:=by
 have ha:K.glob a=some vT:=by rw [hg];simp [rP]
 have hb:K.glob b=some E9:=by rw [hg];simp [rP,hab]
 refine ⟨fun c hc=>vU hi ha ?_,fun i hi2=>⟨vU hi hb ?_,vU hi hb ?_⟩⟩
 ·simp [vT,hc]
 ·have h1:2*i<32:=by omega
  have h2:2*i % 2=0:=by omega
  have h3:2*i / 2=i:=by omega
  simp [E9,h1,h2,h3]
 ·have h1:2*i+1<32:=by omega
  have h2:¬ (2*i+1) % 2=0:=by omega
  have h3:(2*i+1) / 2=i:=by omega
  simp [E9,h1,h2,h3]
theorem Fb{a b:Nat}{W:World}(hT:Lib.Utf8Tabs a b W)(g:Nat)(cs:List AV)(h:rP a b g=some cs):V (aq.start W (rP a b)) (.vptr cs.length [cs] 0 0) (.pointer (some ⟨g,0,none⟩)):=by
 have mk:∀ f:Nat→Nat,(∀ j,j<cs.length→W.cell? ⟨g,j,none⟩=some (.int .u8 (f j:Nat))∧cs[j]?=some (.int .u8 (f j:Nat)))→V (aq.start W (rP a b)) (.vptr cs.length [cs] 0 0) (.pointer (some ⟨g,0,none⟩)):=fun f hf=>by
  have key:=V.vptr (K:=aq.start W (rP a b)) cs.length [cs] 0 0 g 0 (fun _ j=>.int .u8 (f j:Nat)) (fun r hr=>by simp at hr;rw [hr])
   (fun i j r av h1 h2=>by
    cases i with
    |zero=>
     obtain rfl:r=cs:=by simpa using h1.symm
     have hlt:=(List.getElem?_eq_some_iff.1 h2).1;simpa [aq.start] using (hf j hlt).1
    |succ i=>simp at h1)
   (fun i j r av h1 h2=>by
    cases i with
    |zero=>
     obtain rfl:r=cs:=by simpa using h1.symm
     have hlt:=(List.getElem?_eq_some_iff.1 h2).1;have h3:=(hf j hlt).2;rw [h2] at h3;cases h3;exact .int _ _
    |succ i=>simp at h1)
  simpa using key
 unfold rP at h;cases h1:Nat.beq g a with
 |true=>
  rw [h1] at h;cases h;rw [Nat.eq_of_beq_eq_true h1] at mk ⊢;refine mk (fun j=>Lib.firstT j) fun j hj => ?_
  rw [Fa] at hj;exact ⟨hT.1 j hj,by simp [vT,hj]⟩
 |false=>
  rw [h1] at h;cases h2:Nat.beq g b with
  |false=>rw [h2] at h;cases h
  |true=>
   rw [h2] at h;cases h;rw [Nat.eq_of_beq_eq_true h2] at mk ⊢;refine mk (fun j=>if j % 2=0 then Lib.accLo (j / 2) else Lib.accHi (j / 2)) fun j hj => ?_
   rw [I7] at hj;refine ⟨?_,by simp [E9,hj]⟩;obtain ⟨h3,h4⟩:=hT.2 (j / 2) (by omega)
   by_cases hm:j % 2=0
   ·rw [if_pos hm,← h3];congr 2;omega
   ·rw [if_neg hm,← h4];congr 2;omega
theorem zb(n:Nat)(f:Nat→Int):∀ l:List Nat,wkbL n (l.map fun x=>.int .u8 (f x))=true
 |[]=>rfl
 |x::l=>by rw [List.map_cons];simp [wkbL,wkb,zb n f l]
theorem I8{a b:Nat}(n g:Nat)(cs:List AV)(h:rP a b g=some cs):wkbL n cs=true:=by
 unfold rP at h;cases h1:Nat.beq g a with
 |true=>rw [h1] at h;cases h;exact zb n _ _
 |false=>
  rw [h1] at h;cases h2:Nat.beq g b with
  |false=>rw [h2] at h;cases h
  |true=>rw [h2] at h;cases h;exact zb n _ _
def xo(s:List UInt8):Nat×Nat:=if s=[] then (65533,0) else Lib.decodeL s
theorem KQ(s:List UInt8):Lib.decodeGo ⟨s.toArray⟩=xo s:=by
 unfold Lib.decodeGo xo Lib.decodeL;cases s with
 |nil=>rfl
 |cons c t=>simp [ByteArray.size]
theorem KR{P:Program}{f:FuncId}{a b:Nat}(hab:Nat.beq b a=false)(ef:∀ args w,(callFunc f args).run P w = .ok (.enter f args) w)
  (hf:∀ (s:ByteArray) (w:World),Lib.Utf8Tabs a b w→Calls P f #[.string s] w fun e w'=>e = .returned (.tuple #[.int .i32 (Lib.decodeGo s).1,.int .i64 (Lib.decodeGo s).2])∧Below w.heap.size w w') (s:List UInt8) (H:List AObj) :
  cQ P (rP a b) f [.str s] H fun r H'=>r = .ret (.tuple [.int .i32 ((xo s).1:Nat),.int .i64 ((xo s).2:Nat)])∧H'=H:=by
 intro K w cargs hg hi hv;obtain ⟨d,rfl,hd⟩:=uU hv;cases hd;refine .inl ⟨ef _ _,(hf _ w (KP hab hi hg)).mono ?_⟩;rintro e w' ⟨rfl,hb⟩;refine ⟨K,.ret (.tuple [.int .i32 ((xo s).1:Nat),.int .i64 ((xo s).2:Nat)]),_,.refl K, ?_,hi.kept hb,rfl,rfl⟩;rw [KQ];refine (.tuple [.int .i32 ((xo s).1:Nat),.int .i64 ((xo s).2:Nat)] #[.int .i32 ((xo s).1:Nat),.int .i64 ((xo s).2:Nat)] rfl fun i av h => ?_:V K _ _)
 match i,h with
 |0,h=>cases h;exact .int _ _
 |1,h=>cases h;exact .int _ _
end Go.Am
end
section
set_option linter.defProp false
namespace Go.Am
open Go.RowKit
abbrev Str:=List UInt8
abbrev bh:Nat:=140737488351232
def I64(n:Int):Prop := -9223372036854775808≤n∧n≤9223372036854775807
structure Sl (α:Type) where
 tag:Tag
 l:List α
def Tag.strip:Tag→Tag
 |.own _=>.any
 |t=>t
def Sl.strip{α:Type}(s:Sl α):Sl α:=⟨s.tag.strip,s.l⟩
theorem pN(t:Tag)(n:Nat)(r:List (List AV)):AV.strip (.slice t n r) = .slice t.strip n r:=by cases t<;>rfl
theorem Bw:(∀ (t:Tag) (n:Nat) (r:List (List AV)),AV.strip (.slice t n r) = .slice t.strip n r)∧(∀ (x:AV) (l:List AV),List.map AV.strip (x::l)=AV.strip x::List.map AV.strip l)∧List.map AV.strip []=[]∧(∀ a b:List AV,List.map AV.strip (a++b)=List.map AV.strip a++List.map AV.strip b):=
 ⟨pN,fun _ _=>rfl,rfl,fun _ _=>List.map_append⟩
structure Sl.ok {α:Type} (s:Sl α) (n:Nat) (p:α→Prop):Prop where
 tag:qC n s.tag
 len:s.l.length≤bh
 all:∀ x∈s.l,p x
theorem qC.mono{n m:Nat}{t:Tag}(h:qC n t)(hn:n≤m):qC m t:=by
 cases t<;>first | trivial | exact Nat.lt_of_lt_of_le h hn
theorem Sl.ok.mono{α:Type}{s:Sl α}{n m:Nat}{p q:α→Prop}(h:s.ok n p)(hn:n≤m)(hp:∀ x,p x→q x):s.ok m q:=
 ⟨h.tag.mono hn,h.len,fun x hx=>hp x (h.all x hx)⟩
def aA(s:Str):List AV:=[.str s]
def I9(n:Int):List AV:=[.int .i64 n]
theorem Ns:(∀ s:Str,bJ none (aA s) 0=some (.str s))∧(∀ n:Int,bJ none (I9 n) 0=some (.int .i64 n)):=⟨fun _=>rfl,fun _=>rfl⟩
structure ag where
 kind:Int
 text:Str
 car:Bool
def ag.row(x:ag):List AV:=[.int .u8 x.kind,.str x.text,.bool x.car]
theorem aQ:(∀ x:ag,qD 3 (ag.row x)=some (ag.row x))∧(∀ x:ag,bJ none (ag.row x) 0=some (.int .u8 x.kind))∧(∀ x:ag,bJ none (ag.row x) 1=some (.str x.text))∧(∀ x:ag,bJ none (ag.row x) 2=some (.bool x.car))∧(∀ x:ag,(ag.row x).length=3)∧(∀ x:ag,(ag.row x).all AV.cell=true)∧(∀ x:ag,∀ c0 c1 c2:AV,bo [c0,c1,c2] 0 (ag.row x)=ag.row x)∧(∀ x:ag,∀ y:ag,bo (ag.row y) 0 (ag.row x)=ag.row x)∧(∀ x:ag,∀ (y:Int),bo (ag.row x) 0 [.int .u8 y]=ag.row { x with kind:=y })∧(∀ x:ag,∀ (y:Str),bo (ag.row x) 1 [.str y]=ag.row { x with text:=y })∧(∀ x:ag,∀ (y:Bool),bo (ag.row x) 2 [.bool y]=ag.row { x with car:=y })∧(∀ x:ag,(ag.row x).map AV.strip=ag.row x)∧(∀ x:ag,(ag.row x).take 3=ag.row x)∧(∀ x:ag,(ag.row x).drop 3=[]):=
 by refine ⟨?_, ?_, ?_, ?_, ?_, ?_, ?_, ?_, ?_, ?_, ?_, ?_, ?_, ?_⟩<;>(intros;first | rfl | (simp only [ag.row];rfl) | (simp only [ag.row,Bw];rfl))
structure ag.ok (n:Nat) (x:ag):Prop where
 text:x.text.length≤bh
theorem ag.ok.mono{n m:Nat}{x:ag}(h:x.ok n)(hn:n≤m):x.ok m:=⟨h.text⟩
structure rQ where
 kind:Int
 pieces:Sl ag
def rQ.row(x:rQ):List AV:=[.int .u8 x.kind,.slice x.pieces.tag 3 (x.pieces.l.map ag.row)]
def rQ.strip(x:rQ):rQ := { x with pieces:=x.pieces.strip }
structure rQ.ok (n:Nat) (x:rQ):Prop where
 pieces:x.pieces.ok n (ag.ok n)
theorem rQ.ok.mono{n m:Nat}{x:rQ}(h:x.ok n)(hn:n≤m):x.ok m:=⟨h.pieces.mono hn (fun _ h=>h.mono hn)⟩
structure Cv where
 blocks:Sl rQ
def Cv.row(x:Cv):List AV:=[.slice x.blocks.tag 2 (x.blocks.l.map rQ.row)]
def Cv.strip(x:Cv):Cv := { x with blocks:=x.blocks.strip }
structure Cv.ok (n:Nat) (x:Cv):Prop where
 blocks:x.blocks.ok n (rQ.ok n)
theorem Cv.ok.mono{n m:Nat}{x:Cv}(h:x.ok n)(hn:n≤m):x.ok m:=⟨h.blocks.mono hn (fun _ h=>h.mono hn)⟩
structure Brk where
 bef:Str
 aft:Str
 brk:Bool
def Brk.row(x:Brk):List AV:=[.str x.bef,.str x.aft,.bool x.brk]
structure Brk.ok (n:Nat) (x:Brk):Prop where
 bef:x.bef.length≤bh
 aft:x.aft.length≤bh
theorem Brk.ok.mono{n m:Nat}{x:Brk}(h:x.ok n)(hn:n≤m):x.ok m:=⟨h.bef,h.aft⟩
structure Cw where
 block:Int
 pieces:Sl ag
def Cw.row(x:Cw):List AV:=[.int .i64 x.block,.slice x.pieces.tag 3 (x.pieces.l.map ag.row)]
def Cw.strip(x:Cw):Cw := { x with pieces:=x.pieces.strip }
structure Cw.ok (n:Nat) (x:Cw):Prop where
 block:I64 x.block
 pieces:x.pieces.ok n (ag.ok n)
theorem Cw.ok.mono{n m:Nat}{x:Cw}(h:x.ok n)(hn:n≤m):x.ok m:=⟨h.block,h.pieces.mono hn (fun _ h=>h.mono hn)⟩
structure Tie where
 src:Int
 tgt:Int
def Tie.row(x:Tie):List AV:=[.int .i64 x.src,.int .i64 x.tgt]
structure Tie.ok (n:Nat) (x:Tie):Prop where
 src:I64 x.src
 tgt:I64 x.tgt
theorem Tie.ok.mono{n m:Nat}{x:Tie}(h:x.ok n)(hn:n≤m):x.ok m:=⟨h.src,h.tgt⟩
theorem a7{α:Type}{row:α→List AV}{l:List α}{tag:Tag}{sz:Nat}{k:IntKind}{i:Nat}(h:i<l.length):rT sz (.slice tag sz (l.map row)) (.int k (i:Int))=some (.vptr sz (l.map row) i 0):=
 rias_nat (esz:=0) (by simpa using h)
theorem dJ{i n:Nat}(h:i<n)(hn:n≤bh):IntKind.i64.wrap ((i:Int)+1)=((i+1:Nat):Int):=by
 rw [eE (by omega) (by simp only [bh] at hn;omega)];rfl
theorem FZ{i:Nat}(h0:0<i)(h:i≤bh):IntKind.i64.wrap ((i:Int)-1)=((i-1:Nat):Int):=by
 simp only [bh] at h;rw [eE (by omega) (by omega)];omega
theorem Ja{α:Type}(row:α→List AV)(l:List α)(i:Nat):(l.map row)[i]?=(l[i]?).map row:=List.getElem?_map ..
def slc{α:Type}(b:Bool)(x y:α):α:=
 match b with
 |true=>x
 |false=>y
theorem a8{α:Type}{b b':Bool}{x y:α}(h:b=b'):sel b x y=sel b' x y:=by rw [h]
theorem aO{α:Type}{b b':Bool}{x x' y y':α}(hb:b=b')(hx:b'=true→x=x')(hy:b'=false→y=y'):slc b x y=slc b' x' y':=by
 subst hb;cases b
 ·exact hy rfl
 ·exact hx rfl
theorem slc_true{α:Type}(x y:α):slc true x y=x:=rfl
theorem slc_false{α:Type}(x y:α):slc false x y=y:=rfl
theorem slc_not{α:Type}(b:Bool)(x y:α):slc (!b) x y=slc b y x:=by cases b<;>rfl
theorem amS :
 (∀ (α:Type) (b:Bool) (x y:α),sel b x y=slc b x y) ∧
 (∀ (α:Type) (x y:α),slc true x y=x)∧(∀ (α:Type) (x y:α),slc false x y=y)∧(∀ (α:Type) (b:Bool) (x y:α),slc (!b) x y=slc b y x) ∧
 (∀ (α:Type) (b:Bool) (x:α),slc b x x=x) ∧
 (∀ (α:Type) (b:Bool) (x y:α),slc b (some x) (some y)=some (slc b x y)) ∧
 (∀ (α β:Type) (b:Bool) (x x':α) (y y':β),slc b (x,y) (x',y')=(slc b x x',slc b y y')) ∧
 (∀ (b:Bool) (v v':AV),slc b (oD.ret v) (oD.ret v') = .ret (slc b v v')) ∧
 (∀ (b p q:Bool),slc b (AV.bool p) (AV.bool q) = .bool (slc b p q)) ∧
 (∀ (b:Bool) (k:IntKind) (x y:Int),slc b (AV.int k x) (AV.int k y) = .int k (slc b x y)) ∧
 (∀ (b:Bool) (x y:Str),slc b (AV.str x) (AV.str y) = .str (slc b x y)) ∧
 (∀ (α:Type) (b p:Bool) (x y:α),slc b (slc p x y) y=slc (b&&p) x y) ∧
 (∀ b p:Bool,slc b p false=(b&&p))∧(∀ b p:Bool,slc b true p=(b||p))∧(∀ b p:Bool,slc b p true=(!b||p))∧(∀ b p:Bool,slc b false p=(!b&&p)) ∧
 (∀ (α:Type) (b w:Bool) (v v':AV) (x u:Option α),sU (slc b v v') w x u=slc b (sU v w x u) (sU v' w x u)):=
 ⟨fun _ _ _ _=>rfl,fun _ _ _=>rfl,fun _ _ _=>rfl,fun _=>slc_not,fun _ b _=>by cases b<;>rfl,fun _ b _ _=>by cases b<;>rfl,fun _ _ b _ _ _ _=>by cases b<;>rfl,fun b _ _=>by cases b<;>rfl,fun b _ _=>by cases b<;>rfl,
  fun b _ _ _=>by cases b<;>rfl,fun b _ _=>by cases b<;>rfl,fun _ b p _ _=>by cases b<;>cases p<;>rfl,fun b _=>by cases b<;>rfl,fun b _=>by cases b<;>rfl,fun b _=>by cases b<;>rfl,fun b _=>by cases b<;>rfl,fun _ b _ _ _ _ _=>by cases b<;>rfl⟩
def orE(o:Option AV)(H:List AObj)(x:Option Out):Option Out:=
 match o with
 |some v=>some (.ret v,H)
 |none=>x
def orO{α:Type}(o y:Option α):Option α:=
 match o with
 |some v=>some v
 |none=>y
def n8{α:Type}(F:Nat→α→Option AV):Nat→List α→Option AV
 |_,[]=>none
 |i,x::l=>orO (F i x) (n8 F (i+1) l)
theorem zd(v:AV)(H:List AObj)(x:Option Out):orE (some v) H x=some (.ret v,H):=rfl
theorem Jb(H:List AObj)(x:Option Out):orE none H x=x:=rfl
theorem F0(b:Bool)(o o':Option AV)(H:List AObj)(x:Option Out):orE (sel b o o') H x=sel b (orE o H x) (orE o' H x):=by cases b<;>rfl
theorem KS(o o':Option AV)(H:List AObj)(x:Option Out):orE (orO o o') H x=orE o H (orE o' H x):=by cases o<;>rfl
theorem ze{α:Type}(v:α)(y:Option α):orO (some v) y=some v:=rfl
theorem zf{α:Type}(y:Option α):orO none y=y:=rfl
theorem F4{α:Type}(b:Bool)(o o' y:Option α):orO (sel b o o') y=sel b (orO o y) (orO o' y):=by cases b<;>rfl
theorem Fc{α:Type}(F:Nat→α→Option AV)(i:Nat):n8 F i []=none:=rfl
theorem pO{α:Type}(F:Nat→α→Option AV)(i:Nat)(x:α)(l:List α):n8 F i (x::l)=orO (F i x) (n8 F (i+1) l):=rfl
theorem DT{H0 H:List AObj}(h:dh H0 H)(L:List AObj):dh H0 (H++L):=
 ⟨by have:=h.1;simp;omega,fun i x hi hx=>h.2 i x hi (by
  have:=h.1;rwa [List.getElem?_append_left (by omega)] at hx)⟩
theorem Hm{H0 H:List AObj}(h:dh H0 H)(L:List AObj):(H++L).take H0.length=H.take H0.length:=
 List.take_append_of_le_length h.1
theorem uu{sz:Nat}{r:List AV}(h1:r.length=sz)(h2:r.all AV.cell=true):uk sz [r]=true:=by simp [uk,h1,h2]
def zg(pl:Nat→Option (Nat×Nat))(cs:List AV)(rest:List (Nat×AV))(o:Option (Nat×Nat))(c:Option (List AV)):Option (List AV):=
 match o,c with
 |some (off,size),some cells=>if cells.length=size∧off+cells.length≤cs.length then gn pl (bo cs off cells) rest else none
 |_,_=>none
theorem Hn(pl:Nat→Option (Nat×Nat))(cs:List AV):gn pl cs []=some cs:=rfl
theorem Fe(pl:Nat→Option (Nat×Nat))(cs:List AV)(i:Nat)(v:AV)(rest:List (Nat×AV)):gn pl cs ((i,v)::rest)=zg pl cs rest (pl i) (b6 v):=by
 rfl
theorem DU(pl:Nat→Option (Nat×Nat))(cs:List AV)(rest:List (Nat×AV))(off size:Nat)(cells:List AV)(h1:cells.length=size)(h2:off+size≤cs.length):zg pl cs rest (some (off,size)) (some cells)=gn pl (bo cs off cells) rest:=by
 subst h1;rw [zg];exact if_pos ⟨rfl,h2⟩
theorem Nt(f:Nat×RX→Nat×AV):List.map f []=[]:=rfl
theorem Nu(f:Nat×RX→Nat×AV)(x:Nat×RX)(l:List (Nat×RX)):List.map f (x::l)=f x::List.map f l:=rfl
theorem amF :
 (∀ (pl:Nat→Option (Nat×Nat)) (cs:List AV),gn pl cs []=some cs) ∧
 (∀ (pl:Nat→Option (Nat×Nat)) (cs:List AV) (i:Nat) (v:AV) (rest:List (Nat×AV)),gn pl cs ((i,v)::rest)=zg pl cs rest (pl i) (b6 v)) ∧
 (∀ (pl:Nat→Option (Nat×Nat)) (cs:List AV) (rest:List (Nat×AV)) (off size:Nat) (cells:List AV),cells.length=size→off+size≤cs.length→zg pl cs rest (some (off,size)) (some cells)=gn pl (bo cs off cells) rest) ∧
 (∀ (f:Nat×RX→Nat×AV),List.map f []=[]) ∧
 (∀ (f:Nat×RX→Nat×AV) (x:Nat×RX) (l:List (Nat×RX)),List.map f (x::l)=f x::List.map f l) ∧
 (∀ (z:List AV),qX 0 z=[]) ∧
 (∀ (n:Nat) (z:List AV),qX (n+1) z=z++qX n z) ∧
 (∀ (n:Nat) (cs:List AV),oY n 0 cs=[]) ∧
 (∀ (n k:Nat) (cs:List AV),oY n (k+1) cs=cs.take n::oY n k (cs.drop n)) ∧
 (∀ (l:List AV),l.take 0=[])∧(∀ (n:Nat) (x:AV) (l:List AV),(x::l).take (n+1)=x::l.take n) ∧
 (∀ (l:List AV),l.drop 0=l)∧(∀ (n:Nat) (x:AV) (l:List AV),(x::l).drop (n+1)=l.drop n) ∧
 (∀ (s:Str),AV.strip (.str s) = .str s)∧(∀ (k:IntKind) (n:Int),AV.strip (.int k n) = .int k n)∧(∀ (b:Bool),AV.strip (.bool b) = .bool b)∧(∀ (f:Fn) (x y:List AV),AV.strip (.fn f x y) = .fn f x y) ∧
 (∀ (t n:Nat) (r:List (List AV)),AV.strip (.slice (.own t) n r) = .slice .any n r)∧(∀ (n:Nat) (r:List (List AV)),AV.strip (.slice .any n r) = .slice .any n r)∧(∀ (n:Nat) (r:List (List AV)),AV.strip (.slice .nil n r) = .slice .nil n r)∧(∀ (n:Nat) (r:List (List AV)),AV.strip (.slice .full n r) = .slice .full n r) ∧
 (∀ (f:AV→AV),List.map f []=[])∧(∀ (f:AV→AV) (x:AV) (l:List AV),List.map f (x::l)=f x::List.map f l) ∧
 (∀ (x:Nat×Nat) (l:List (Nat×Nat)),(x::l)[0]?=some x)∧(∀ (x:Nat×Nat) (l:List (Nat×Nat)) (n:Nat),(x::l)[n+1]?=l[n]?):=
 ⟨Hn,Fe,DU,Nt,Nu,fun _=>rfl,fun _ _=>rfl,fun _ _=>rfl,fun _ _ _=>rfl,fun _=>rfl,fun _ _ _=>rfl,fun _=>rfl,fun _ _ _=>rfl,fun _=>rfl,fun _ _=>rfl,fun _=>rfl,fun _ _ _=>rfl,fun _ _ _=>rfl,fun _ _=>rfl,fun _ _=>rfl,fun _ _=>rfl,fun _=>rfl,fun _ _ _=>rfl,fun _ _=>rfl,fun _ _ _=>rfl⟩
theorem amL :
 (∀ (v:AV) (H:List AObj) (x:Option Out),orE (some v) H x=some (.ret v,H)) ∧
 (∀ (H:List AObj) (x:Option Out),orE none H x=x) ∧
 (∀ (b:Bool) (o o':Option AV) (H:List AObj) (x:Option Out),orE (slc b o o') H x=slc b (orE o H x) (orE o' H x)) ∧
 (∀ (o o':Option AV) (H:List AObj) (x:Option Out),orE (orO o o') H x=orE o H (orE o' H x)) ∧
 (∀ (v:AV) (y:Option AV),orO (some v) y=some v) ∧
 (∀ (y:Option AV),orO none y=y) ∧
 (∀ (b:Bool) (o o' y:Option AV),orO (slc b o o') y=slc b (orO o y) (orO o' y)) ∧
 (∀ (α:Type) (F:Nat→α→Option AV) (i:Nat),n8 F i []=none) ∧
 (∀ (α:Type) (F:Nat→α→Option AV) (i:Nat) (x:α) (l:List α),n8 F i (x::l)=orO (F i x) (n8 F (i+1) l)) ∧
 (∀ (α:Type) (l:List α) (row:α→List AV),(l.map row).length=l.length) ∧
 (∀ (α:Type) (row:α→List AV) (l:List α) (i:Nat),(l.map row)[i]?=(l[i]?).map row) ∧
 (∀ (α:Type) (f:α→List AV) (x:α),(some x).map f=some (f x)) ∧
 (∀ (H0 H:List AObj),dh H0 H→∀ (L:List AObj),dh H0 (H++L)) ∧
 (∀ (H0 H:List AObj),dh H0 H→∀ (L:List AObj),(H++L).take H0.length=H.take H0.length):=
 ⟨zd,Jb,F0,KS,ze,zf,F4,fun _=>Fc,fun _=>pO,fun _ l row=>List.length_map ..,fun _ row l i=>Ja row l i,fun _ _ _=>rfl,fun _ _=>DT,fun _ _=>Hm⟩
def amA{E:aT}(M:br bP E):=And.intro (am1 M) (And.intro am2 (And.intro am3 (And.intro am4 (And.intro am5 (And.intro amL amS)))))
def amB:=And.intro @beq_true (And.intro @beq_false (And.intro @decide_true (And.intro @decide_false (And.intro and_true (And.intro true_and (And.intro Bool.and_true (And.intro Bool.true_and (And.intro Bool.and_false (And.intro Bool.false_and (And.intro Bool.or_false (And.intro Bool.false_or (And.intro Bool.or_true (And.intro Bool.true_or (And.intro Bool.false_eq_true
 (And.intro @if_false.{1} (And.intro @if_true.{1} (And.intro Bool.not_true (And.intro Bool.not_false (And.intro Nat.le_add_right (And.intro @Nat.le_add_right_of_le (And.intro @Option.map_some.{0,0} (And.intro @Option.map_none.{0,0} (And.intro @List.nil_append.{0} (And.intro @List.append_nil.{0} (And.intro @List.map_nil.{0,0} @rias_nat)))))))))))))))))))))))))
def amC{E:aT}(M:br bP E):=And.intro (amA M) amB
def amD:=And.intro @slc_true (And.intro @slc_false (And.intro @slc_not @fget_at))
def amG:=And.intro amF (And.intro setRow_nil (And.intro setRow_cons (And.intro @List.set_cons_zero.{0} (And.intro @List.length_cons.{0} (And.intro @List.length_nil.{0} (And.intro Nat.zero_add (And.intro Nat.le_refl (And.intro @List.all_cons.{0} (And.intro @List.all_nil.{0} @List.cons_append.{0})))))))))
end Go.Am
end
section
namespace Go.Am
open Go.RowKit Go.ChangeShapes Go.WideShapes
structure VL (K:aq) (row:List AV) (cs:List Value):Prop where
 len:row.length=cs.length
 at_:∀ (i:Nat) (av:AV),row[i]?=some av→V K av (cs.getD i undef)
theorem VL.nil(K:aq):VL K [] []:=⟨rfl,fun i av h=>by simp at h⟩
theorem VL.one{K:aq}{a:AV}{v:Value}(h:V K a v):VL K [a] [v]:=⟨rfl,fun i av hi=>by
 cases i with
 |zero=>obtain rfl:a=av:=by simpa using hi
        simpa using h
 |succ i=>simp at hi⟩
theorem VL.append{K:aq}{a b:List AV}{c d:List Value}(h:VL K a c)(h':VL K b d):VL K (a++b) (c++d):=⟨by simp [h.len,h'.len],fun i av hi=>by
 have e:=h.len
 by_cases hl:i<a.length
 ·rw [List.getElem?_append_left hl] at hi
  have:=h.at_ i av hi;rwa [List.getD_eq_getElem?_getD,List.getElem?_append_left (by omega),← List.getD_eq_getElem?_getD]
 ·rw [List.getElem?_append_right (by omega)] at hi
  have:=h'.at_ _ av hi;rwa [List.getD_eq_getElem?_getD,List.getElem?_append_right (by omega),← e,← List.getD_eq_getElem?_getD]⟩
theorem VL.vs{K:aq}{row:List AV}{cs:Array Value}(h:VL K row cs.toList):Vs K row cs:=⟨by simpa using h.len,fun i av hi=>by simpa [Array.getD_eq_getD_getElem?] using h.at_ i av hi⟩
theorem VL.agg{K:aq}{row:List AV}{cs:Array Value}(h:VL K row cs.toList):V K (.agg row) (.agg cs):=.agg _ _ h.vs.size h.vs.at_
section
variable(P:Program)(W:World)(G:Nat→Option (List AV))
def pa(t:TypeId){α:Type}(row:α→List AV)(ok:α→Prop):Prop:=
 ∀ (H:Type) (enc:TypeId×Value→H) (spare:Nat→Bool) (fuel:Nat) (cs:List Value) (x:DataW H×List MemPlace),DataW.trod enc P W 0 spare true fuel t cs=some x→(∀ n∈DataW.weights P t x.1,n≤reachBytes)→∃ a,ok a∧VL (aq.start W G) (row a) cs
def Cx(fl:List (Nat×TypeId))(off w:Nat){α:Type}(row:α→List AV)(ok:α→Prop):Prop:=
 ∀ (H:Type) (enc:TypeId×Value→H) (spare:Nat→Bool) (fuel:Nat) (cs:List Value),
  (∀ (i:Nat) (f:Nat×TypeId),fl[i]?=some f→∃ x,DataW.trod enc P W 0 spare true fuel f.2 ((cs.drop f.1).take (P.cellsOf f.2))=some x∧∀ n∈DataW.weights P f.2 x.1,n≤reachBytes)→cs.length=off+w→∃ a,ok a∧VL (aq.start W G) (row a) (cs.drop off)
def fieldsOf(t:TypeId):Option (List (Nat×TypeId)):=
 match P.underlying t with
 |some (.struct fs)=>some (fs.toList.map fun f=>(f.offset,f.type))
 |_=>none
end
section
variable{P:Program}{W:World}{G:Nat→Option (List AV)}
theorem Bx{t:TypeId}(ht:P.underlying t=some .string):pa P W G t aA (fun s=>s.length≤bh):=fun H enc spare fuel cs x h hw=>by
 obtain ⟨s,rfl,rfl,hs⟩:=DataW.trod_string ht h;exact ⟨s.data.toList,by simpa [reachBytes] using hw s.data.toList.length (by simp [DataW.weights]),VL.one (.str _)⟩
theorem KT{t:TypeId}{k:IntKind}(ht:P.underlying t=some (.int k)):pa P W G t (fun n:Int=>[.int k n]) (fun n=>k.min≤n∧n≤k.max):=fun H enc spare fuel cs x h _=>by
 obtain ⟨n,rfl,_,hn⟩:=DataW.trod_int ht h;exact ⟨n,by simpa [Lit.wf,IntKind.has] using hn,VL.one (.int _ _)⟩
theorem Ff{t:TypeId}(ht:P.underlying t=some .bool):pa P W G t (fun b:Bool=>[.bool b]) (fun _=>True):=fun H enc spare fuel cs x h _=>by
 obtain ⟨n,rfl,_⟩:=DataW.trod_bool ht h;exact ⟨n,trivial,VL.one (.bool _)⟩
theorem Fg(off:Nat):Cx P W G [] off 0 (fun _:Unit=>[]) (fun _=>True):=fun H enc spare fuel cs _ hl=>⟨(),trivial,by
 rw [List.drop_of_length_le (by omega)];exact VL.nil _⟩
theorem sX{t:TypeId}{fl:List (Nat×TypeId)}{off w1 w2:Nat}{α β:Type}{row1:α→List AV}{row2:β→List AV}{ok1:α→Prop}{ok2:β→Prop}
  (h1:pa P W G t row1 ok1) (hw:P.cellsOf t=w1) (h2:Cx P W G fl (off+w1) w2 row2 ok2):Cx P W G ((off,t)::fl) off (w1+w2) (fun a:α×β=>row1 a.1++row2 a.2) (fun a=>ok1 a.1∧ok2 a.2):=fun H enc spare fuel cs hf hl=>by
 obtain ⟨x,hx,hxw⟩:=hf 0 (off,t) rfl;obtain ⟨a,ha,va⟩:=h1 H enc spare fuel _ x hx hxw;obtain ⟨b,hb,vb⟩:=h2 H enc spare fuel cs (fun i f hi=>hf (i+1) f (by simpa using hi)) (by omega);refine ⟨(a,b),⟨ha,hb⟩, ?_⟩;have:=va.append vb;simp only [hw] at this;have e:(cs.drop off).take w1++cs.drop (off+w1)=cs.drop off:=by rw [← List.drop_drop,List.take_append_drop]
 rwa [e] at this
theorem Cy{t:TypeId}{fl:List (Nat×TypeId)}{w:Nat}{α S:Type}{row:α→List AV}{ok:α→Prop}{rowS:S→List AV}{okS:S→Prop}(hf:fieldsOf P t=some fl)(hw:P.cellsOf t=w)
  (h:Cx P W G fl 0 w row ok) (φ:α→S) (hr:∀ a,rowS (φ a)=row a) (ho:∀ a,ok a→okS (φ a)):pa P W G t rowS okS:=fun H enc spare fuel cs x hx hw0=>by
 unfold fieldsOf at hf;split at hf
 ·rename_i fs ht
  simp only [Option.some.injEq] at hf;subst hf;obtain ⟨xs,n,_,rfl,hl,hxl,hat⟩:=DataW.trod_struct ht hx
  obtain ⟨a,ha,va⟩:=h H enc spare n cs (fun i f hi=>by
   rw [List.getElem?_map] at hi;cases hfi:fs.toList[i]? with
   |none=>rw [hfi] at hi;cases hi
   |some g=>
    rw [hfi] at hi;obtain rfl:(g.offset,g.type)=f:=by simpa using hi
    have hg:fs[i]?=some g:=by simpa using hfi
    have:=hat i g hg;have hlt:i<xs.length:=by rw [hxl];exact (Array.getElem?_eq_some_iff.1 hg).1
    rw [List.getElem?_eq_getElem hlt] at this;refine ⟨_,this,fun n hn=>hw0 n ?_⟩;simp only [DataW.weights,ht];exact DataW.weights_mem_each (j:=i) (t:=g.type) (d:=xs[i].1) (by simp [hfi]) (by simp [List.getElem?_eq_getElem hlt]) n hn) (by omega)
  exact ⟨φ a,ho a ha,by rw [hr];simpa using va⟩
 ·cases hf
theorem F5{α:Type}{p:Nat→α→Prop}:∀ (n:Nat),(∀ i,i<n→∃ a,p i a)→∃ l:List α,l.length=n∧∀ i a,l[i]?=some a→p i a
 |0,_=>⟨[],rfl,fun i a h=>by simp at h⟩
 |n+1,h=>by
  obtain ⟨l,h1,h2⟩:=F5 n (fun i hi=>h i (by omega));obtain ⟨a,ha⟩:=h n (by omega);refine ⟨l++[a],by simp [h1],fun i b hi => ?_⟩
  by_cases hl:i<l.length
  ·rw [List.getElem?_append_left hl] at hi;exact h2 i b hi
  ·rw [List.getElem?_append_right (by omega)] at hi
   have:i-l.length=0:=by
    cases hq:i-l.length with
    |zero=>rfl
    |succ k=>rw [hq] at hi;simp at hi
   rw [this] at hi;obtain rfl:a=b:=by simpa using hi
   have:i=n:=by omega
   subst this;exact ha
theorem F6{n:Nat}(h:Nat.blt 0 n=true):0<n:=by rwa [Nat.blt_eq] at h
theorem zh{H:Type}{P:Program}{e:TypeId}{n:Nat}:∀ {l:List (DataW H)}{d:DataW H},d∈l→n∈DataW.weights P e d→n∈DataW.weightsAll P e l
 |x::l,d,hd,hn=>by
  simp only [DataW.weightsAll,List.mem_append];rcases List.mem_cons.1 hd with rfl | h
  ·exact .inl hn
  ·exact .inr (zh h hn)
theorem Cz{t e:TypeId}{α:Type}{row:α→List AV}{ok:α→Prop}{sz:Nat}(ht:P.underlying t=some (.slice e))(hsz:P.cellsOf e=sz)(hpos:0<sz)(hby:0<P.bytesOf e)(hrow:∀ a,(row a).length=sz)(he:pa P W G e row ok) :
  pa P W G t (fun s:Sl α=>[.slice s.tag sz (s.l.map row)]) (fun s=>s.ok 0 ok∧(s.tag = .nil∧s.l=[]∨s.tag = .some)):=fun H enc spare fuel cs x h hw0=>by
 rcases Go.Deep.open_slice ht h with ⟨rfl,_⟩ | ⟨a,len,cap,m,n,D,Pl,rfl,hb,hl,hcap,hm,rfl,hel⟩
 ·exact ⟨⟨.nil,[]⟩,⟨⟨trivial,by simp,fun x hx=>by cases hx⟩,.inl ⟨rfl,rfl⟩⟩,VL.one (.slice0 _ _ _ (by simp))⟩
 ·rw [hsz] at hel
  have hlm:len≤m:=by rw [hm];split<;>omega
  have hww:∀ i,i<m→∀ n∈DataW.weights P e (D i),n≤reachBytes:=fun i hi n hn=>hw0 n (by
   simp only [DataW.weights,ht,List.mem_cons,List.mem_append];right
   by_cases hlt:i<len
   ·left;exact zh (List.mem_map.2 ⟨i,List.mem_range.2 hlt,rfl⟩) hn
   ·right;exact zh (List.mem_map.2 ⟨i-len,List.mem_range.2 (by omega),by rw [show len+(i-len)=i by omega]⟩) hn)
  have hlb:len≤reachBytes:=by
   have:=hw0 ((((List.range len).map D).length+((List.range (m-len)).map fun j=>D (len+j)).length)*P.bytesOf e) (by simp only [DataW.weights,ht];exact List.mem_cons_self);simp only [List.length_map,List.length_range] at this;have h2:len*1≤(len+(m-len))*P.bytesOf e:=Nat.mul_le_mul (by omega) hby;omega
  obtain ⟨l,hll,hat⟩:=F5 (α:=α) (p:=fun i a'=>ok a'∧∃ cs',W.cells? 0 (a.add (i*sz)) sz=some cs'∧VL (aq.start W G) (row a') cs') len (fun i hi=>by
   obtain ⟨cs',h1,h2⟩:=hel i (by omega);obtain ⟨a',h3,h4⟩:=he H enc spare n cs' _ h2 (hww i (by omega));exact ⟨a',h3,cs',h1,h4⟩)
  refine ⟨⟨.some,l⟩,⟨⟨trivial,by rw [hll];exact hlb,fun x hx => ?_⟩,.inr rfl⟩,VL.one ?_⟩
  ·obtain ⟨i,hi⟩:=List.getElem?_of_mem hx
   exact (hat i x hi).1
  ·obtain ⟨b,o,spot⟩:=a
   cases l with
   |nil=>
    have:len=0:=by simpa using hll.symm
    subst this;exact .sliceAny .some _ _ _ (.inr ⟨rfl,by simp⟩)
   |cons a0 l0=>
    obtain ⟨_,cs0,hc0,hv0⟩:=hat 0 a0 rfl;obtain ⟨_,hcl,hcat⟩:=World.cells?_some hc0
    have hsp:spot=none:=by
     have h0:=hcat 0 hpos;rw [List.getElem?_eq_getElem (by omega)] at h0;simpa [Addr.add] using World.cell?_spot h0
    subst hsp;have hlen:len=((a0::l0).map row).length:=by simpa using hll.symm
    rw [hlen]
    have key:∀ (i:Nat) (r:List AV),((a0::l0).map row)[i]?=some r→∃ cs',VL (aq.start W G) r cs'∧∀ j,j<sz→W.cell? ⟨b,o+i*sz+j,none⟩=cs'[j]? := fun i r hi=>by
     rw [List.getElem?_map] at hi;cases hai:(a0::l0)[i]? with
     |none=>rw [hai] at hi;cases hi
     |some ai=>
      rw [hai] at hi;obtain rfl:row ai=r:=by simpa using hi
      obtain ⟨_,cs',hc,hv⟩:=hat i ai hai;obtain ⟨_,hcl',hcat'⟩:=World.cells?_some hc;refine ⟨cs',hv,fun j hj => ?_⟩;rw [← hcat' j hj];congr 1;unfold Addr.add
      by_cases h1:i*sz=0<;>by_cases h2:j=0<;>simp [h1,h2,Nat.add_assoc]
    refine .slice .some sz _ b o cap (fun i j=>(W.cell? ⟨b,o+i*sz+j,none⟩).getD undef) (fun r hr => ?_) (fun i j r av hi hj => ?_) (fun i j r av hi hj => ?_) (by rw [← hlen];exact hl) trivial
    ·obtain ⟨a',_,rfl⟩:=List.mem_map.1 hr
     exact hrow a'
    ·obtain ⟨cs',hv,hc⟩:=key i r hi
     have hjl:j<r.length:=(List.getElem?_eq_some_iff.1 hj).1
     have hrl:r.length=sz:=by
      obtain ⟨a',_,rfl⟩:=List.mem_map.1 (List.mem_of_getElem? hi);exact hrow a'
     show W.cell? _=_;have hcj:=hc j (by omega);rw [hcj,List.getElem?_eq_getElem (by rw [← hv.len];omega)];rfl
    ·obtain ⟨cs',hv,hc⟩:=key i r hi
     have hjl:j<r.length:=(List.getElem?_eq_some_iff.1 hj).1
     have hrl:r.length=sz:=by
      obtain ⟨a',_,rfl⟩:=List.mem_map.1 (List.mem_of_getElem? hi);exact hrow a'
     have:=hv.at_ j av hj;rw [hc j (by omega),← List.getD_eq_getElem?_getD];exact this
theorem Fh{t:TypeId}{α:Type}{row:α→List AV}{ok ok':α→Prop}(h:pa P W G t row ok)(hm:∀ a,ok a→ok' a):pa P W G t row ok':=fun H enc spare fuel cs x hh hw=>
 let ⟨a,h1,h2⟩:=h H enc spare fuel cs x hh hw;⟨a,hm a h1,h2⟩
theorem w7{t e:TypeId}{α:Type}{row:α→List AV}{ok:α→Prop}{sz:Nat}(ht:P.underlying t=some (.slice e))(hsz:P.cellsOf e=sz)(hpos:0<sz)(hby:0<P.bytesOf e)(hrow:∀ a,(row a).length=sz)(he:pa P W G e row ok) :
  pa P W G t (fun s:Sl α=>[.slice s.tag sz (s.l.map row)]) (fun s=>s.ok 0 ok):=Fh (Cz ht hsz hpos hby hrow he) fun _ h=>h.1
theorem By{t e:TypeId}{r:Reach}{b:Nat}{v:Value}(ht:P.underlying t=some (.slice e))(h:Value.okWide P W r b t v):∃ a l c,v = .slice a l c:=by
 simp only [Value.okWide,ht,Cell.okWide,Cell.ok] at h;split at h<;>first | exact ⟨_,_,_,rfl⟩ | (simp_all;done) | cases h
theorem DV{H:Type}{enc:TypeId×Value→H}{spare:Nat→Bool}{t:TypeId}{α:Type}{row:α→List AV}{ok:α→Prop}(ho:pa P W G t row ok){v:Value}{d:DataW H}{ps:List MemPlace}
  (h:DataW.Trod enc P W 0 spare true t v d ps) (hw:∀ n∈DataW.weights P t d,n≤reachBytes):∃ a,ok a∧VL (aq.start W G) (row a) v.cells.toList:=by
 obtain ⟨fuel,hf⟩:=h;exact ho H enc spare fuel _ _ hf hw
end
end Go.Am
end
section
namespace Go.Am
open Go.RowKit
def fY:FuncId:=6
def gv:FuncId:=7
def jx:FuncId:=8
def cE:FuncId:=9
def zi:FuncId:=10
def bt:FuncId:=12
def mJ:FuncId:=13
def jy:FuncId:=14
def cI:FuncId:=15
def du:FuncId:=16
def kb:FuncId:=17
def ng:FuncId:=21
def gy:FuncId:=22
def dK:FuncId:=23
def nS:FuncId:=24
def fZ:FuncId:=25
def sY:FuncId:=26
def ke:FuncId:=27
def DW:FuncId:=28
def aZ:FuncId:=29
def dv:FuncId:=30
def dw:FuncId:=31
def AE:FuncId:=32
def Fi:FuncId:=33
def xq:FuncId:=34
def vi:FuncId:=35
def zj:FuncId:=36
def gz:FuncId:=37
def gA:FuncId:=38
def nE:FuncId:=39
def iK:FuncId:=43
def bQ:FuncId:=44
def kf:FuncId:=45
def mK:FuncId:=46
def fA:FuncId:=47
def iv:FuncId:=48
def gK:FuncId:=49
def jz:FuncId:=50
def iw:FuncId:=51
def fO:FuncId:=52
def fP:FuncId:=53
def pY:FuncId:=54
def nh:FuncId:=55
def eY:FuncId:=56
def dx:FuncId:=57
def AF:FuncId:=58
def pZ:FuncId:=59
def qH:FuncId:=60
def jr:FuncId:=61
def pb:FuncId:=62
def dD:FuncId:=63
def lH:FuncId:=64
def xr:FuncId:=65
def AG:FuncId:=66
def CA:FuncId:=67
def Fj:FuncId:=68
def nT:FuncId:=69
def ni:FuncId:=70
def cD:FuncId:=71
def jA:FuncId:=72
def fU:FuncId:=73
def CB:FuncId:=74
def gi:FuncId:=75
def bp:FuncId:=76
def gj:FuncId:=77
def nF:FuncId:=78
def fC:FuncId:=80
def fQ:FuncId:=81
def bX:FuncId:=82
def nG:FuncId:=83
def iy:FuncId:=84
def gL:FuncId:=85
def mY:FuncId:=86
def kg:FuncId:=87
def kh:FuncId:=88
def fD:FuncId:=89
def gB:FuncId:=90
def jU:FuncId:=91
def fh:FuncId:=92
def gC:FuncId:=93
def gD:FuncId:=94
def fi:FuncId:=95
def kT:FuncId:=96
def rp:FuncId:=97
def iL:FuncId:=98
def eS:FuncId:=99
def bH:FuncId:=100
def xt:FuncId:=101
def oH:FuncId:=102
def lU:FuncId:=103
def eZ:FuncId:=104
def kU:FuncId:=105
def CC:FuncId:=106
def ki:FuncId:=107
def vV:FuncId:=108
def pc:FuncId:=109
def vj:FuncId:=110
def jb:FuncId:=111
def CD:FuncId:=112
def lI:FuncId:=113
def eh:FuncId:=114
def iM:FuncId:=115
def fj:FuncId:=118
def fR:FuncId:=119
def kj:FuncId:=120
def kV:FuncId:=121
def kM:FuncId:=122
def n9:FuncId:=123
def dy:FuncId:=124
def ie:FuncId:=125
def fk:FuncId:=126
def iN:FuncId:=127
def fm:FuncId:=128
def dL:FuncId:=129
def dM:FuncId:=130
def zk:FuncId:=131
def zl:FuncId:=132
def zm:FuncId:=133
def zn:FuncId:=134
def zo:FuncId:=135
def zp:FuncId:=136
def km:FuncId:=137
def CE:FuncId:=138
def AH:FuncId:=139
def pd:FuncId:=140
def kn:FuncId:=141
def dN:FuncId:=142
def bV:FuncId:=143
def eT:FuncId:=144
def kW:FuncId:=148
def bO:FuncId:=149
def ez:FuncId:=150
def fE:FuncId:=151
def jB:FuncId:=152
def ig:FuncId:=153
def gM:FuncId:=154
def w8:FuncId:=155
def lJ:FuncId:=156
def bu:FuncId:=163
def mj:FuncId:=164
def cR:FuncId:=165
def CF:TypeId:=1
def Nv:TypeId:=3
def CG:TypeId:=4
def rq:TypeId:=5
def ak:TypeId:=9
def KU:TypeId:=21
def ao:TypeId:=22
def bn:TypeId:=23
def Bz:TypeId:=46
def oc:TypeId:=51
def ae:TypeId:=53
def DX:TypeId:=60
def b7:TypeId:=69
def bk:TypeId:=82
def mL:TypeId:=90
def nj:TypeId:=106
def sZ:TypeId:=108
def oI:TypeId:=110
def lP:TypeId:=117
def gN:TypeId:=119
def fb:TypeId:=126
def eF:TypeId:=134
def vW:TypeId:=145
def s4:TypeId:=149
def zq:TypeId:=150
def dt:TypeId:=182
def pP:TypeId:=187
end Go.Am
end
section
set_option maxRecDepth 100000
namespace Go.Am
open Go.RowKit Sh
def ga:AC:=
 (Q (O [mc 4 F]) (Q (Q (Q (O [m 11 0,o 12 (.bs 1 [(.slice .nil 0 [])] 1 [(0,(t 11))]),k1 13 gv 12,m 14 13,h 15 14 (.mv (t 1)),⟨(some 16),(some (14,false)),
 (.call (.c (.fn (.func jx) [] [])) [(.t 15)])⟩,pt 17 14 16]) (Y [0,1,17])) (C 17 (Q (O [k 18 (f cE) [],m 4 18]) R) X)) (Q (Q (O [m 20 0,k1
 21 mJ 20,m 19 21,ex 22 19 0,ex 23 19 1,m 5 22,m 6 23]) (Y [0,1,5,6])) (Q (Q (O [m 25 0,k1 26 jy 25,m 24 26,ex 27 24 0,ex 28 24 1,m 7 27,m
 8 28]) (Y [0,1,5,6,7,8])) (Q (Q (Q (O [m 29 6,m 30 8,ar 31 .neq 29 30,m 32 31,h 33 32 (.mv (t 5)),h 34 32 (.mv (t 7)),⟨(some 35),(some (32,false)),(.call (.c (.fn
 (.func du) [] [])) [(.t 33),(.t 34)])⟩,h 36 32 (.un .not (t 35)),pt 37 32 36,m 38 37,h 39 38 (.mv (t 1)),⟨(some 40),(some (38,false)),(.call (.c (.fn
 (.func gy) [] [])) [(.t 39)])⟩,h 41 38 (.mv (t 1)),⟨(some 42),(some (38,false)),(.call (.c (.fn (.func dK) [] [])) [(.t 41)])⟩,h 43 38
 (.ar .neq (t 40) (t 42)),pt 44 38 43,m 45 44,h 46 45 (.mv (t 1)),⟨(some 47),(some (45,false)),(.call (.c (.fn (.func nS) [] [])) [(.t 46)])⟩,h 48 45 (.mv (t 1)),
 ⟨(some 49),(some (45,false)),(.call (.c (.fn (.func kb) [] [])) [(.t 48)])⟩,⟨(some 50),(some (45,false)),(.call (.c (.fn (.func du) []
 [])) [(.t 47),(.t 49)])⟩,h 51 45 (.un .not (t 50)),pt 52 45 51]) (Y [0,1,52])) (C 52 (rt 4 F) X)) (Q (Q (O [m 54 1,k1 55 ng 54,m 53 55,ex 56 53 0,ex 57 53 1,
 m 9 56,m 6 57]) (Y [0,1,6,9])) (Q (Q (O [m 59 1,k1 60 fZ 59,m 58 60,ex 61 58 0,ex 62 58 1,m 10 61,m 8 62]) (Y [0,6,8,9,10])) (Q (Q (Q (O [m 63
 6,m 64 8,ar 65 .neq 63 64,m 66 65,h 67 66 (.mv (t 9)),h 68 66 (.mv (t 10)),⟨(some 69),(some (66,false)),(.call (.c (.fn (.func bt) [] [])) [(.t 67),
 (.t 68)])⟩,h 70 66 (.un .not (t 69)),pt 71 66 70]) (Y [0,71])) (C 71 (rt 4 F) X)) (Q (Q (O [m 73 0,k1 74 sY 73,m 72 74,ex 75 72 0,ex 76 72 1,m 5 75,m 6 76]) (Y [0,
 5,6])) (Q (Q (O [m 78 0,k1 79 ke 78,m 77 79,ex 80 77 0,ex 81 77 1,m 7 80,m 8 81]) (Y [5,6,7,8])) (Q (Q (O [m 82 6,m 83 8,ar 84 .eql 82 83,m 85 84,g
 86 85 (.mv (t 5)),g 87 85 (.mv (t 7)),⟨(some 88),(some (85,true)),(.call (.c (.fn (.func du) [] [])) [(.t 86),(.t 87)])⟩,pf 89 85 88,m 90 89,⟨(some 91),
 (some (90,true)),(.call (.c (.fn (.func cE) [] [])) [])⟩,pf 92 90 91,m 4 92]) (Y [4])) R)))))))))))
def gb:AFn:=⟨ga,93,[.t 4],.drop,[],none⟩
theorem gd:qf gb [.t 4] .drop:=⟨rfl,rfl,rfl⟩
def c8:AC:=
 (Q (Q (Q (O [m 19 5,m 20 0,m 21 4,ia 22 1 20 21,ld 23 22,ls 24 23,bl 25 19 24,m 26 25,g 27 26 (.mv (t 3)),g 28 26 (.ar .lss (t 27) (i 5000)),pf 29 26 28]) (Y [0,3,4,5,
 29])) (C 29 X (.exit 2))) (Q (.block 3 (Q (O [m 32 3,m 33 0,m 34 4,ia 35 1 33 34,ld 36 35,m 37 5,ia 38 3 36 37,fa 39 1 38,ld 40 39,lt 41 40,ar 42 .add 32 41,m 3 42]) (Y
 [0,3,4,5]))) (ic 30 5 31)))
def dO:AC:=
 (Q (Q (Q (O [m 6 4,m 7 0,ls 8 7,bl 9 6 8]) (Y [0,3,4,9])) (C 9 X (.exit 0))) (Q (Q (.block 1 (Q (Q (O [m 12 3,m 13 0,m 14 4,ia 15 1 13 14,ld 16 15,ls 17 16,ar 18 .add 12
 17,m 3 18]) (Y [0,3,4])) (Q (O [mc 5 (i 0)]) (Q (.block 2 (lo [0,3,4,5] c8)) (Y [0,3,4]))))) (Y [0,3,4])) (ic 10 4 11)))
def ko:AC:=
 (Q (O [mc 2 F]) (Q (O [mc 3 (i 0)]) (Q (Q (O [mc 4 (i 0)]) (Q (.block 0 (lo [0,3,4] dO)) (Y [3]))) (Q (O [m 43 3,ac 44 .gtr 43 (i 2500),m 2 44]) R))))
def cS:AFn:=⟨ko,45,[.t 2],.drop,[],none⟩
theorem dz:qf cS [.t 2] .drop:=⟨rfl,rfl,rfl⟩
def b8:AC:=
 (Q (Q (Q (O [m 7 4,m 8 0,ls 9 8,bl 10 7 9,m 11 10,g 12 11 (.mv (t 4)),g 13 11 (.ar .lss (t 12) (i 700)),pf 14 11 13]) (Y [0,3,4,14])) (C 14 X (.exit 0))) (Q (.block 1 (Q
 (O [m 17 3,m 18 0,m 19 4,ia 20 1 18 19,ld 21 20,lt 22 21,ar 23 .add 17 22,m 3 23]) (Y [0,3,4]))) (ic 15 4 16)))
def jC:AC:=
 (Q (O [mc 2 F]) (Q (O [m 5 0,ls 6 5,m 3 6]) (Q (Q (O [mc 4 (i 0)]) (Q (.block 0 (lo [0,3,4] b8)) (Y [3]))) (Q (O [m 24 3,ac 25 .gtr 24 (i 3000),m 2 25])
 R))))
def ep:AFn:=⟨jC,26,[.t 2],.drop,[],none⟩
theorem er:qf ep [.t 2] .drop:=⟨rfl,rfl,rfl⟩
def cB:AC:=
 (Q (Q (Q (O [m 11 5,m 12 0,ls 13 12,bl 14 11 13]) (Y [0,1,5,14])) (C 14 X (.exit 0))) (Q (.block 1 (Q (Q (D [Pm 17 0,Pm 18 5,P (ia 19 3 17 18),W (la 20 3 19),Pm 21 1,Pm
 22 5,P (ia 23 3 21 22),W (la 24 3 23),P (o 25 (.eq true (.st [(0,(.int .u8)),(1,.str),(2,.bool)]) (t 20) (t 24)))]) (Y [0,1,5,25])) (C 25 (rt 4 F) X))) (ic 15 5 16)))
def fF:AC:=
 (Q (O [mc 4 F]) (Q (Q (Q (O [m 6 0,ls 7 6,m 8 1,ls 9 8,ar 10 .neq 7 9]) (Y [0,1,10])) (C 10 (rt 4 F) X)) (Q (Q (O [mc 5 (i 0)]) (Q (.block 0 (lo [0,1,5]
 cB)) (Y []))) (rt 4 T))))
def b9:AFn:=⟨fF,26,[.t 4],.drop,[],none⟩
theorem fG:qf b9 [.t 4] .drop:=⟨rfl,rfl,rfl⟩
def fH:AC:=
 (.block 3 (Q (Q (O [la 33 2 9,k1 34 fA 33]) (C 34 (Q (Q (O [ld 35 8,fa 36 0 9,ld 37 36,o 38 (.cvs (t 37)),ar 39 .add 35 38,n (.st 1 (t 8) (t 39))]) (Y []))
 (.exit 3)) X)) (Q (Q (O [ld 40 8,ac 41 .neq 40 (s [])]) (C 41 (Q (Q (O [ld 42 5,ld 43 8,o 44 (.bs 1 [(.str [])] 1 [(0,(t 43))]),o 45 (.ap false ak 1 16 false (t 42) (t
 44)),n (.st 1 (t 5) (t 45))]) (Y [5,8,9])) (O [n (.st 1 (t 8) (s []))])) X)) (Q (O [la 46 2 9,k1 47 iv 46]) (C 47 (Q (O [ld 48 5,fa 49 0 9,ld 50 49,o 51 (.cvs
 (t 50)),o 52 (.bs 1 [(.str [])] 1 [(0,(t 51))]),o 53 (.ap false ak 1 16 false (t 48) (t 52)),n (.st 1 (t 5) (t 53))]) (Y [])) X)))))
def fI:AC:=
 (Q (O [bl 18 17 16]) (Q (C 18 X (.exit 0)) (Q (Q (.block 1 (Q (Q (O [ia 19 3 15 17,la 20 3 19,o 7 (.nw [(.int .u8 0),(.str []),(.bool false)] ae),n (.st 3 (t 7) (t
 20))]) (Y [2,3,5,7,9,15,16,17,32,33,34,35,36,37,38,39,40,41,42,43,44,45,46,47,48,49,50,51,52,53])) (Q (Q (O [fa 21 0 7,ld 22 21,ac 23 .neq 22 (u 1)])
 (C 23 (Q (Q (D [Wl 24 5,W (la 25 3 7),K (k1 26 kf 25),P (o 27 (.bs 1 [(.str [])] 1 [(0,(t 26))])),E (o 28 (.ap false ak 1 16 false (t 24) (t 27))),E (n (.st
 1 (t 5) (t 28)))]) (Y [2,3,5,9,15,16,17,32,33,34,35,36,37,38,39,40,41,42,43,44,45,46,47,48,49,50,51,52,53])) (.exit 1)) X)) (Q (O [o 8 (.nw [(.str [])]
 ak),n (.st 1 (t 8) (s []))]) (Q (Q (O [la 29 3 7,o 30 (.bs 3 [(.int .u8 0),(.str []),(.bool false)] 1 [(0,(t 29))]),k1 31 mK 30]) (Q (.block 2 (.rfn (.t 31)
 [32] [[o 9 (.nw [(.int .i32 0),(.bool false)] bk),n (.st 2 (t 9) (t 32))]] fH)) (Y [2,3,5,8,9,15,16,17,32,33,34,35,36,37,38,39,40,41,42,43,
 44,45,46,47,48,49,50,51,52,53]))) (Q (O [ld 54 8,ac 55 .neq 54 (s [])]) (C 55 (Q (O [ld 56 5,ld 57 8,o 58 (.bs 1 [(.str [])] 1 [(0,(t 57))]),o 59 (.ap false ak 1
 16 false (t 56) (t 58)),n (.st 1 (t 5) (t 59))]) (Y [2,3,5,9,15,16,17,32,33,34,35,36,37,38,39,40,41,42,43,44,45,46,47,48,49,50,51,52,53])) X))))))) (Y
 [2,3,5,9,15,16,17,32,33,34,35,36,37,38,39,40,41,42,43,44,45,46,47,48,49,50,51,52,53])) (O [ad 60 17,m 17 60]))))
def iO:AC:=
 (Q (O [mc 2 (.c (.slice .nil 1 [])),mc 3 (u 0)]) (Q (Q (O [m 10 0,k1 11 bQ 10,m 4 11]) (Q (O [m 12 4,ac 13 .neq 12 (u 0)]) (C 13 (Q (O [m 14 4,mc 2 (.c (.slice
 .nil 1 [])),m 3 14]) R) X))) (Q (O [o 5 (.nw [(.slice .nil 1 [])] bn)]) (Q (Q (O [m 15 0,ls 16 15,mc 17 (i 0)]) (Q (.block 0 (.loop ⟨(some [2,3,5,9,15,16,17,32,
 33,34,35,36,37,38,39,40,41,42,43,44,45,46,47,48,49,50,51,52,53]),[(42,1,ak),(48,1,ak)],false⟩ fI)) (Y [5]))) (Q (Q (O [ld 61 5,ls
 62 61,ac 63 .gtr 62 (i 512)]) (C 63 (Q (O [mc 2 (.c (.slice .nil 1 [])),mc 3 (u 3)]) R) X)) (Q (O [ld 64 5,m 2 64,mc 3 (u 0)]) R))))))
def bY:AFn:=⟨iO,65,[.t 2,.t 3],.drop,[],none⟩
theorem dj:qf bY [.t 2,.t 3] .drop:=⟨rfl,rfl,rfl⟩
def cF:AC:=
 (Q (O [mc 2 (.c (.slice .nil 1 [])),mc 3 (u 0)]) (Q (O [m 6 0,k1 7 cI 6,m 4 7]) (Q (Q (O [m 8 4,ac 9 .neq 8 (u 0)]) (C 9 (Q (O [m 10 4,mc 2 (.c (.slice
 .nil 1 [])),m 3 10]) R) X)) (Q (O [m 11 0,k1 12 gK 11,m 5 12]) (Q (Q (O [m 13 5,ls 14 13,ac 15 .gtr 14 (i 512)]) (C 15 (Q (O [mc 2 (.c (.slice .nil 1
 [])),mc 3 (u 3)]) R) X)) (Q (O [m 16 5,m 2 16,mc 3 (u 0)]) R))))))
def jD:AFn:=⟨cF,17,[.t 2,.t 3],.drop,[],none⟩
theorem jE:qf jD [.t 2,.t 3] .drop:=⟨rfl,rfl,rfl⟩
def aH:AC:=
 (Q (Q (Q (O [m 9 4,m 10 0,ls 11 10,bl 12 9 11]) (Y [0,3,4,12])) (C 12 X (.exit 0))) (Q (.block 1 (Q (Q (O [m 15 0,m 16 4,k2 17 jz 15 16,m 5 17]) (Y [0,
 3,4,5])) (Q (Q (O [m 18 5,ac 19 .eql 18 (u 0)]) (C 19 (Q (O [m 20 0,m 21 4,k2 22 iw 20 21,m 5 22]) (Y [0,3,4,5])) X)) (Q (Q (O [m 23 5,ac 24 .neq 23
 (u 0)]) (C 24 (Q (O [m 25 5,m 2 25]) R) X)) (Q (Q (Q (O [m 26 0,m 27 4,ia 28 3 26 27,fa 29 0 28,ld 30 29,ac 31 .eql 30 (u 3)]) (Y [0,3,4,31])) (C 31 (Q (Q (Q (D [Pm 32 3,W
 (ls 33 32),P (ac 34 .eql 33 (i 0)),Pm 35 34,P (h 36 35 (.mv (t 3))),P (h 37 35 (.mv (t 3))),W (h 38 35 (.len .sl (t 37))),P (h 39 35 (.ar .sub (t 38) (i 1))),P (h 40 35 (.ias
 1 (t 36) (t 39))),W (h 41 35 (.ld none (t 40))),P (h 42 35 (.mv (t 0))),P (h 43 35 (.mv (t 4))),P (h 44 35 (.ias 3 (t 42) (t 43))),P (h 45 35 (.fa 1 (t 44))),W (h 46 35 (.ld
 none (t 45))),P (h 47 35 (.ar .neq (t 41) (t 46))),P (pt 48 35 47)]) (Y [0,3,4,48])) (C 48 (rt 2 (u 9)) X)) (Q (O [m 49 3,m 50 3,ls 51 50,ac 52 .sub 51 (i 1),o 53 (.sll 1
 (t 49) none (some (t 52)) none),m 3 53]) (Y [0,3,4]))) X)) (Q (Q (O [m 54 0,m 55 4,ia 56 3 54 55,fa 57 0 56,ld 58 57,ac 59 .eql 58 (u 2)]) (Y [0,3,4,59])) (C 59 (Q (Q (O
 [m 60 3,m 61 0,m 62 4,ia 63 3 61 62,fa 64 1 63,ld 65 64,o 66 (.bs 1 [(.str [])] 1 [(0,(t 65))]),o 67 (.ap true ak 1 16 false (t 60) (t 66)),m 3 67]) (Y [0,3,4])) (Q
 (O [m 68 3,ls 69 68,ac 70 .gtr 69 (i 16)]) (C 70 (rt 2 (u 3)) X))) X))))))) (ic 13 4 14)))
def fo:AC:=
 (Q (O [mc 2 (u 0)]) (Q (Q (O [m 6 0,ls 7 6,ac 8 .gtr 7 (i 512)]) (C 8 (rt 2 (u 3)) X)) (Q (O [mc 3 (.c (.slice .nil 1 []))]) (Q (Q (O [mc 4 (i 0)]) (Q (.block 0 (lo [0,3,4]
 aH)) (Y [3]))) (Q (Q (O [m 71 3,ls 72 71,ac 73 .gtr 72 (i 0)]) (C 73 (rt 2 (u 9)) X)) (rt 2 (u 0)))))))
def cJ:AFn:=⟨fo,74,[.t 2],.drop,[17],none⟩
theorem aL:qf cJ [.t 2] .drop:=⟨rfl,rfl,rfl⟩
def dQ:AC:=
 (Q (Q (Q (O [m 11 5,m 12 0,ls 13 12,bl 14 11 13]) (Y [0,1,5,14])) (C 14 X (.exit 0))) (Q (.block 1 (Q (Q (D [Pm 17 0,Pm 18 5,P (ia 19 1 17 18),Wl 20 19,Pm 21 1,Pm 22 5,P
 (ia 23 1 21 22),Wl 24 23,P (ar 25 .neq 20 24)]) (Y [0,1,5,25])) (C 25 (rt 4 F) X))) (ic 15 5 16)))
def kp:AC:=
 (Q (O [mc 4 F]) (Q (Q (Q (O [m 6 0,ls 7 6,m 8 1,ls 9 8,ar 10 .neq 7 9]) (Y [0,1,10])) (C 10 (rt 4 F) X)) (Q (Q (O [mc 5 (i 0)]) (Q (.block 0 (lo [0,1,5]
 dQ)) (Y []))) (rt 4 T))))
def dA:AFn:=⟨kp,26,[.t 4],.drop,[],none⟩
theorem kq:qf dA [.t 4] .drop:=⟨rfl,rfl,rfl⟩
def c9:AC:=
 (Q (Q (Q (O [m 5 4,m 6 0,ls 7 6,bl 8 5 7]) (Y [0,3,4,8])) (C 8 X (.exit 0))) (Q (.block 1 (Q (Q (O [m 11 0,m 12 4,ia 13 1 11 12,ld 14 13,k1 15 fO 14,no
 16 15]) (Y [0,3,4,16])) (C 16 (Q (O [m 17 3,m 18 0,m 19 4,ia 20 1 18 19,ld 21 20,o 22 (.bs 1 [(.str [])] 1 [(0,(t 21))]),o 23 (.ap false ak 1 16 false (t 17) (t
 22)),m 3 23]) (Y [0,3,4])) X))) (ic 9 4 10)))
def kr:AC:=
 (Q (O [mc 2 (.c (.slice .nil 1 []))]) (Q (O [mc 3 (.c (.slice .nil 1 []))]) (Q (Q (O [mc 4 (i 0)]) (Q (.block 0 (.loop ⟨(some [0,3,4]),[(3,1,ak)],false⟩
 c9)) (Y [3]))) (Q (O [m 24 3,m 2 24]) R))))
def eG:AFn:=⟨kr,25,[.t 2],.drop,[],none⟩
theorem gE:qf eG [.t 2] .drop:=⟨rfl,rfl,rfl⟩
def eA:AC:=
 (Q (O [mc 2 (.c (.slice .nil 3 [])),mc 3 (u 0)]) (Q (Q (O [m 6 0,k1 7 gy 6,m 4 7]) (Q (O [m 8 4,ac 9 .neq 8 (u 0)]) (C 9 (Q (O [m 10 4,mc 2 (.c (.slice .nil 3
 [])),m 3 10]) R) X))) (Q (O [m 11 0,k1 12 nE 11,m 5 12]) (Q (Q (O [m 13 5,ls 14 13,ac 15 .gtr 14 (i 512)]) (C 15 (Q (O [mc 2 (.c (.slice .nil 3 [])),mc 3 (u 3)]) R)
 X)) (Q (O [m 16 5,m 2 16,mc 3 (u 0)]) R)))))
def nk:AFn:=⟨eA,17,[.t 2,.t 3],.drop,[],none⟩
theorem nm:qf nk [.t 2,.t 3] .drop:=⟨rfl,rfl,rfl⟩
def dg:AC:=
 (Q (O [bl 14 13 12]) (Q (C 14 X (.exit 0)) (Q (.block 1 (Q (O [ia 15 1 11 13,ld 16 15,m 5 16]) (Q (Q (O [m 17 5,k1 18 pY 17,no 19 18]) (C 19 (rt 2 (u 4)) X)) (Q (Q (O
 [m 21 5,k1 22 gz 21,m 20 22,ex 23 20 0,ex 24 20 1,o 6 (.nw [(.int .u8 0),(.str []),(.bool false)] ae),n (.st 3 (t 6) (t 23)),m 7 24]) (Y [3,6,7,11,
 12,13])) (Q (Q (O [m 25 7,no 26 25]) (C 26 (O [o 27 (.bd [(.int .u8 0),(.str []),(.bool false)] [(0,1),(1,1),(2,1)] [(0,(u 5)),(1,(s [120]))]),n (.st 3 (t 6) (t 27))])
 X)) (Q (O [m 28 3,la 29 3 6,o 30 (.bs 3 [(.int .u8 0),(.str []),(.bool false)] 1 [(0,(t 29))]),o 31 (.ap false ae 3 32 false (t 28) (t 30)),m 3 31]) (Y [3,11,12,
 13]))))))) (O [ad 32 13,m 13 32]))))
def dR:AC:=
 (Q (O [mc 2 (u 0)]) (Q (Q (O [m 8 0,ls 9 8,ac 10 .gtr 9 (i 512)]) (C 10 (rt 2 (u 3)) X)) (Q (O [mc 3 (.c (.slice .nil 3 []))]) (Q (Q (O [m 11 0,ls 12 11,mc 13 (i 0)]) (Q (.block
 0 (.loop ⟨(some [3,11,12,13]),[(3,3,ae)],true⟩ dg)) (Y [3]))) (Q (O [m 33 3,k1 34 bQ 33,m 2 34]) R)))))
def eQ:AFn:=⟨dR,35,[.t 2],.drop,[],none⟩
theorem dS:qf eQ [.t 2] .drop:=⟨rfl,rfl,rfl⟩
def bq:AC:=
 (Q (Q (Q (O [m 10 4,m 11 0,ls 12 11,bl 13 10 12]) (Y [0,3,4,13])) (C 13 X (.exit 0))) (Q (.block 1 (Q (Q (O [m 17 0,m 18 4,ia 19 1 17 18,ld 20 19,k1 21
 fP 20,m 16 21,ex 22 16 0,ex 23 16 1,o 5 (.nw [(.int .u8 0),(.str []),(.bool false)] ae),n (.st 3 (t 5) (t 22)),m 6 23]) (Y [0,3,4,5,6])) (Q
 (Q (O [m 24 6,no 25 24]) (C 25 (rt 2 (u 4)) X)) (Q (Q (O [fa 26 0 5,ld 27 26,ac 28 .eql 27 (u 1)]) (C 28 (O [o 29 (.bd [(.int .u8 0),(.str []),(.bool false)] [(0,1),(1,1),
 (2,1)] [(0,(u 5)),(1,(s [120]))]),n (.st 3 (t 5) (t 29))]) X)) (Q (O [m 30 3,la 31 3 5,o 32 (.bs 3 [(.int .u8 0),(.str []),(.bool false)] 1 [(0,(t 31))]),o 33 (.ap false
 ae 3 32 false (t 30) (t 32)),m 3 33]) (Y [0,3,4])))))) (ic 14 4 15)))
def bw:AC:=
 (Q (O [mc 2 (u 0)]) (Q (Q (O [m 7 0,ls 8 7,ac 9 .gtr 8 (i 512)]) (C 9 (rt 2 (u 3)) X)) (Q (O [mc 3 (.c (.slice .nil 3 []))]) (Q (Q (O [mc 4 (i 0)]) (Q (.block 0 (.loop ⟨(some [0,
 3,4]),[(3,3,ae)],true⟩ bq)) (Y [3]))) (Q (O [m 34 3,k1 35 cI 34,m 2 35]) R)))))
def cT:AFn:=⟨bw,36,[.t 2],.drop,[],none⟩
theorem bz:qf cT [.t 2] .drop:=⟨rfl,rfl,rfl⟩
def js:AC:=
 (Q (O [bl 11 10 9]) (Q (C 11 X (.exit 0)) (Q (.block 1 (Q (O [ia 12 1 8 10,ld 13 12,m 5 13]) (Q (Q (O [m 15 5,k1 16 nh 15,m 14 16,ex 17 14 0,ex 18 14 1,o 6 (.nw
 [(.int .u8 0),(.str []),(.bool false)] ae),n (.st 3 (t 6) (t 17)),m 7 18]) (Y [3,5,7,8,9,10])) (Q (O [m 19 7,no 20 19]) (C 20 (Q (O [m 21 3,m 22 5,o 23 (.bs 1
 [(.str [])] 1 [(0,(t 22))]),o 24 (.ap false ak 1 16 false (t 21) (t 23)),m 3 24]) (Y [3,8,9,10])) X))))) (O [ad 25 10,m 10 25]))))
def s5:AC:=
 (Q (O [mc 2 (.c (.slice .nil 1 []))]) (Q (O [mc 3 (.c (.slice .nil 1 []))]) (Q (Q (O [m 8 0,ls 9 8,mc 10 (i 0)]) (Q (.block 0 (.loop ⟨(some [3,8,9,10]),[(3,1,ak)],
 true⟩ js)) (Y [3]))) (Q (O [m 26 3,m 2 26]) R))))
def l9:AFn:=⟨s5,27,[.t 2],.drop,[],none⟩
theorem pQ:qf l9 [.t 2] .drop:=⟨rfl,rfl,rfl⟩
def bI:AC:=
 (Q (O [mc 2 (.c (.slice .nil 3 [])),mc 3 (u 0)]) (Q (O [m 6 0,k1 7 dK 6,m 4 7]) (Q (Q (O [m 8 4,ac 9 .neq 8 (u 0)]) (C 9 (Q (O [m 10 4,mc 2 (.c (.slice
 .nil 3 [])),m 3 10]) R) X)) (Q (O [m 11 0,k1 12 iK 11,m 5 12]) (Q (Q (O [m 13 5,ls 14 13,ac 15 .gtr 14 (i 512)]) (C 15 (Q (O [mc 2 (.c (.slice .nil 3 [])),
 mc 3 (u 3)]) R) X)) (Q (O [m 16 5,m 2 16,mc 3 (u 0)]) R))))))
def gg:AFn:=⟨bI,17,[.t 2,.t 3],.drop,[],none⟩
theorem gh:qf gg [.t 2,.t 3] .drop:=⟨rfl,rfl,rfl⟩
def gO:AC:=
 (Q (O [bl 16 15 14]) (Q (C 16 X (.exit 0)) (Q (.block 1 (Q (Q (O [ia 17 3 13 15,la 18 3 17,o 7 (.nw [(.int .u8 0),(.str []),(.bool false)] ae),n (.st 3 (t 7) (t 18))])
 (Y [5,7,13,14,15])) (Q (Q (O [fa 19 0 7,ld 20 19,ac 21 .neq 20 (u 1),m 22 21,g 23 22 (.fa 0 (t 7)),g 24 22 (.ld none (t 23)),g 25 22 (.ar .neq (t 24) (u 5)),pf 26 22 25])
 (Y [5,7,13,14,15,26])) (C 26 (Q (O [m 27 5,la 28 3 7,k1 29 kf 28,o 30 (.bs 1 [(.str [])] 1 [(0,(t 29))]),o 31 (.ap false ak 1 16 false (t 27) (t 30)),m
 5 31]) (Y [5,13,14,15])) X)))) (O [ad 32 15,m 15 32]))))
def nU:AC:=
 (Q (O [mc 2 (.c (.slice .nil 1 [])),mc 3 (u 0)]) (Q (Q (O [m 8 0,k1 9 bQ 8,m 4 9]) (Q (O [m 10 4,ac 11 .neq 10 (u 0)]) (C 11 (Q (O [m 12 4,mc 2 (.c (.slice .nil
 1 [])),m 3 12]) R) X))) (Q (O [mc 5 (.c (.slice .nil 1 []))]) (Q (Q (O [m 13 0,ls 14 13,mc 15 (i 0)]) (Q (.block 0 (.loop ⟨(some [5,13,14,15]),[(5,1,ak)],true⟩
 gO)) (Y [5]))) (Q (O [m 33 5,m 2 33,mc 3 (u 0)]) R)))))
def nV:AFn:=⟨nU,34,[.t 2,.t 3],.drop,[],none⟩
theorem mb:qf nV [.t 2,.t 3] .drop:=⟨rfl,rfl,rfl⟩
def da:AC:=
 (Q (Q (Q (O [m 12 6,m 13 0,ls 14 13,bl 15 12 14]) (Y [0,5,6,15])) (C 15 X (.exit 0))) (Q (.block 1 (Q (Q (O [m 18 0,m 19 6,ia 20 3 18 19,fa 21 0 20,ld 22 21,k1 23
 eY 22]) (Y [0,5,6,23])) (C 23 (Q (O [m 24 5,m 25 0,m 26 6,ia 27 3 25 26,la 28 3 27,k1 29 dx 28,o 30 (.bs 1 [(.str [])] 1 [(0,(t
 29))]),o 31 (.ap false ak 1 16 false (t 24) (t 30)),m 5 31]) (Y [0,5,6])) X))) (ic 16 6 17)))
def eH:AC:=
 (Q (O [mc 2 (.c (.slice .nil 1 [])),mc 3 (u 0)]) (Q (O [m 7 0,k1 8 cI 7,m 4 8]) (Q (Q (O [m 9 4,ac 10 .neq 9 (u 0)]) (C 10 (Q (O [m 11 4,mc 2 (.c
 (.slice .nil 1 [])),m 3 11]) R) X)) (Q (O [mc 5 (.c (.slice .nil 1 []))]) (Q (Q (O [mc 6 (i 0)]) (Q (.block 0 (.loop ⟨(some [0,5,6]),[(5,1,ak)],false⟩
 da)) (Y [5]))) (Q (O [m 32 5,m 2 32,mc 3 (u 0)]) R))))))
def eI:AFn:=⟨eH,33,[.t 2,.t 3],.drop,[],none⟩
theorem eJ:qf eI [.t 2,.t 3] .drop:=⟨rfl,rfl,rfl⟩
def db:AC:=
 (Q (O [o 2 (.nw [(.int .u8 0),(.str []),(.bool false)] ae),mc 3 F]) (Q (Q (Q (O [m 6 0,ac 7 .eql 6 (s []),m 8 7,h 9 8 (.mv (t 0)),h 10 8 (.ixs (t 9) (i 0)),h 11 8
 (.ar .neq (t 10) (u 60)),h 12 8 (.mv (t 11)),g 13 12 (.mv (t 0)),g 14 12 (.ixs (t 13) (i 0)),g 15 12 (.ar .neq (t 14) (u 123)),h 16 8 (.pk (t 12) (t 15) F),pt 17 8 16]) (Y [0,
 2,17])) (C 17 (Q (O [o 18 (.bd [(.int .u8 0),(.str []),(.bool false)] [(0,1),(1,1),(2,1)] []),n (.st 3 (t 2) (t 18)),mc 3 F]) R) X)) (Q (Q (O [m 20 0,k1 21 lH
 20,m 19 21,ex 22 19 0,ex 23 19 1,o 4 (.nw [(.int .u8 0),(.str []),(.bool false)] ae),n (.st 3 (t 4) (t 22)),m 5 23]) (Y [0,2,4,5])) (Q (Q (O [la 24 3 4,m 25 5,
 ac 26 .gtr 25 (i 0),m 27 26,g 28 27 (.mv (t 5)),g 29 27 (.mv (t 0)),g 30 27 (.len .str (t 29)),g 31 27 (.ar .eql (t 28) (t 30)),pf 32 27 31,n (.st 3 (t 2) (t 24)),m 3 32])
 (Y [2,3])) R))))
def oJ:AFn:=⟨db,33,[.cell 2 (some 3),.t 3],.drop,[],none⟩
theorem kN:qf oJ [.cell 2 (some 3),.t 3] .drop:=⟨rfl,rfl,rfl⟩
def ks:AC:=
 (Q (O [o 3 (.bx ae (t 1)),mc 4 F]) (Q (Q (O [fa 7 0 3,ld 8 7,ac 9 .eql 8 (u 2),m 10 9,g 11 10 (.fa 2 (t 3)),g 12 10 (.ld none (t 11)),pf 13 10 12,m 5 13]) (Y [0,3,
 5])) (Q (Q (O [fa 14 0 3,ld 15 14,ac 16 .eql 15 (u 3),m 17 16,g 18 17 (.fa 2 (t 3)),g 19 17 (.ld none (t 18)),pf 20 17 19,m 6 20]) (Y [0,5,6])) (Q (Q (Q (O [m 21 5,m 22
 21,g 23 22 (.mv (t 0)),g 24 22 (.nc (t 23)),g 25 22 (.fa 0 (t 24)),g 26 22 (.ld none (t 25)),pf 27 22 26,m 28 27,h 29 28 (.mv (t 0)),h 30 28 (.nc (t 29)),h 31 28 (.fa 1 (t
 30)),h 32 28 (.ld none (t 31)),h 33 28 (.mv (t 32)),g 34 33 (.mv (t 6)),g 35 33 (.un .not (t 34)),h 36 28 (.pk (t 33) (t 35) F),pt 37 28 36]) (Y [0,5,6,37])) (C 37 (rt 4 F)
 X)) (Q (Q (O [m 38 0,m 39 0,o 40 (.nc (t 39)),fa 41 0 40,ld 42 41,m 43 42,h 44 43 (.mv (t 5)),h 45 43 (.un .not (t 44)),pt 46 43 45,o 47 (.nc (t 38)),fa 48 0 47,n (.st 1
 (t 48) (t 46))]) (Y [0,6])) (Q (Q (O [m 49 0,m 50 0,o 51 (.nc (t 50)),fa 52 1 51,ld 53 52,m 54 53,h 55 54 (.mv (t 6)),pt 56 54 55,o 57 (.nc (t 49)),fa 58 1 57,n (.st 1 (t
 58) (t 56))]) (Y [])) (rt 4 T)))))))
def gF:AFn:=⟨ks,59,[.t 4],.drop,[],none⟩
theorem nW:qf gF [.t 4] .drop:=⟨rfl,rfl,rfl⟩
def dk:AC:=
 (Q (O [bl 23 22 21]) (Q (C 23 X (.exit 0)) (Q (.block 1 (Q (O [ia 24 1 20 22,ld 25 24,m 10 25]) (Q (Q (Q (O [m 27 10,k1 28 nh 27,m 26 28,ex 29 26 0,ex 30 26 1,o 11
 (.nw [(.int .u8 0),(.str []),(.bool false)] ae),n (.st 3 (t 11) (t 29)),m 12 30]) (Y [3,4,5,6,8,10,11,12,20,21,22])) (Q (O [m 31 12]) (C 31 (Q (Q (O [ld 32 4,
 la 33 3 11,o 34 (.bs 3 [(.int .u8 0),(.str []),(.bool false)] 1 [(0,(t 33))]),o 35 (.ap false ae 3 32 false (t 32) (t 34)),n (.st 1 (t 4) (t 35))]) (Y [3,4,5,6,8,
 20,21,22])) (.exit 1)) X))) (Q (Q (O [m 36 8,m 37 6,m 38 37,g 39 38 (.mv (t 5)),g 40 38 (.mv (t 10)),⟨(some 41),(some (38,true)),(.call (.c (.fn (.func nF) []
 [])) [(.t 39),(.t 40)])⟩,pf 42 38 41,k 43 (t 36) [(t 42)]]) (Y [3,4,8,10,20,21,22])) (Q (Q (Q (O [m 45 10,k1 46 gz 45,m 44 46,ex 47 44 0,ex 48 44 1,o 13 (.nw
 [(.int .u8 0),(.str []),(.bool false)] ae),n (.st 3 (t 13) (t 47)),m 14 48]) (Y [3,4,8,10,13,14,20,21,22])) (Q (O [m 49 14]) (C 49 (O [ld 50 3,la 51 3 13,k2
 52 bp 50 51]) (Q (O [ld 53 3,m 54 10,o 55 (.bd [(.int .u8 0),(.str []),(.bool false)] [(0,1),(1,1),(2,1)] [(0,(u 1)),(1,(t 54))]),k2 56 bp
 53 55]) (Y [3,4,8,10,20,21,22]))))) (O [m 57 10,m 5 57,mc 6 T])))))) (O [ad 58 22,m 22 58]))))
def qa:AC:=
 (Q (O [mc 2 (.c (.slice .nil 3 []))]) (Q (Q (O [o 15 (.bm ao 1 [(.slice .nil 0 [])] 1 [(0,(.c (.slice .nil 3 [])))]),o 16 (.bd [(.slice .nil 1 []),(.slice .nil 1 []),
 (.int .i64 0),(.bool false),(.slice .nil 1 [])] [(0,1),(1,1),(2,1),(3,1),(4,1)] [(0,(t 15))]),o 17 (.bx gN (t 16)),o 3 (.nw [.nilp] lP),n (.st
 1 (t 3) (t 17))]) (Y [0,3])) (Q (O [o 4 (.nw [(.slice .nil 3 [])] ao)]) (Q (O [mc 5 (s []),mc 6 F]) (Q (O [o 18 (.mf (.func gi) [] [(t 3)]),o 7 (.nw
 [.nilfn] CF),n (.st 1 (t 7) (t 18))]) (Q (O [o 19 (.mf (.func gj) [] [(t 4),(t 7),(t 3)]),m 8 19]) (Q (Q (O [m 20 0,ls 21 20,mc 22 (i 0)]) (Q (.block 0 (lo
 [3,4,5,6,8,20,21,22] dk)) (Y [3,8]))) (Q (O [m 59 8,k 60 (t 59) [F]]) (Q (Q (O [ld 61 3,o 62 (.nc (t 61)),fa 63 0 62,ld 64 63,o 65 (.ias 1 (t 64) (i 0)),
 ld 66 65,m 2 66]) (Y [2])) R)))))))))
def lK:AFn:=⟨qa,67,[.t 2],.deep,[1],none⟩
theorem gQ:qf lK [.t 2] .deep:=⟨rfl,rfl,rfl⟩
def aM:AC:=
 (Q (Q (Q (O [m 10 6,m 11 0,ls 12 11,bl 13 10 12]) (Y [0,3,4,5,6,13])) (C 13 X (.exit 0))) (Q (.block 1 (Q (Q (O [m 17 0,m 18 6,ia 19 1 17 18,ld 20 19,k1 21
 fP 20,m 16 21,ex 22 16 0,ex 23 16 1,o 7 (.nw [(.int .u8 0),(.str []),(.bool false)] ae),n (.st 3 (t 7) (t 22)),m 8 23]) (Y [0,3,4,5,6,7]))
 (Q (Q (O [fa 24 0 7,ld 25 24,k1 26 eY 25]) (C 26 (Q (Q (Q (O [fa 27 0 7,ld 28 27,ac 29 .neq 28 (u 3),m 30 29,g 31 30 (.mv (t 4)),g 32 30 (.ar .neq (t 31) (s
 [])),pf 33 30 32,m 34 33,g 35 34 (.mv (t 5)),g 36 34 (.un .not (t 35)),pf 37 34 36]) (Y [0,3,4,5,6,7,37])) (C 37 (Q (Q (O [m 38 0,m 39 6,k2 40
 fC 38 39,m 9 40]) (Y [0,3,4,6,7,9])) (Q (Q (Q (O [m 41 9,ac 42 .neq 41 (s []),m 43 42,g 44 43 (.mv (t 4)),g 45 43 (.mv (t 9)),⟨(some 46),(some
 (43,true)),(.call (.c (.fn (.func fQ) [] [])) [(.t 44),(.t 45)])⟩,pf 47 43 46]) (Y [0,3,4,6,7,47])) (C 47 (Q (O [m 48 3,o 49 (.bd [(.int .u8 0),(.str
 []),(.bool false)] [(0,1),(1,1),(2,1)] [(0,(u 1)),(1,(s [32]))]),k2 50 bX 48 49,m 3 50]) (Y [0,3,4,6,7])) X)) (O [mc 5 T]))) X)) (Q (Q (O [m 51 3,la
 52 3 7,k2 53 bX 51 52,m 3 53]) (Y [0,3,4,5,6])) (.exit 1))) X)) (Q (Q (Q (O [m 54 4,ac 55 .neq 54 (s []),m 56 55,g 57 56 (.mv (t 5)),g 58 56 (.un .not (t
 57)),pf 59 56 58,m 60 59,g 61 60 (.mv (t 4)),g 62 60 (.mv (t 0)),g 63 60 (.mv (t 6)),g 64 60 (.ias 1 (t 62) (t 63)),g 65 60 (.ld none (t 64)),⟨(some 66),(some (60,true)),
 (.call (.c (.fn (.func fQ) [] [])) [(.t 61),(.t 65)])⟩,pf 67 60 66]) (Y [0,3,6,7,67])) (C 67 (Q (O [m 68 3,o 69 (.bd [(.int .u8 0),(.str []),(.bool
 false)] [(0,1),(1,1),(2,1)] [(0,(u 1)),(1,(s [32]))]),k2 70 bX 68 69,m 3 70]) (Y [0,3,6,7])) X)) (Q (Q (O [m 71 3,la 72 3 7,k2 73 bX
 71 72,m 3 73]) (Y [0,3,6])) (Q (Q (O [m 74 0,m 75 6,ia 76 1 74 75,ld 77 76,m 4 77]) (Y [0,3,4,6])) (O [mc 5 F]))))))) (ic 14 6 15)))
def iP:AC:=
 (Q (O [mc 2 (.c (.slice .nil 3 []))]) (Q (O [mc 3 (.c (.slice .nil 3 []))]) (Q (O [mc 4 (s [])]) (Q (O [mc 5 F]) (Q (Q (O [mc 6 (i 0)]) (Q (.block 0 (lo [0,3,4,5,6]
 aM)) (Y [3]))) (Q (O [m 78 3,m 2 78]) R))))))
def ct:AFn:=⟨iP,79,[.t 2],.deep,[],none⟩
theorem aX:qf ct [.t 2] .deep:=⟨rfl,rfl,rfl⟩
def aV:AC:=
 (Q (O [bl 13 12 11]) (Q (C 13 X (.exit 0)) (Q (.block 1 (Q (Q (O [m 14 12,ia 15 3 10 12,la 16 3 15,o 6 (.nw [(.int .u8 0),(.str []),(.bool false)] ae),m 5 14,n (.st
 3 (t 6) (t 16))]) (Y [0,3,4,5,6,10,11,12])) (Q (.block 2 (Q (Q (Q (O [fa 18 0 6,ld 19 18,ac 20 .lss 19 (u 1),m 21 20,h 22 21 (.fa 0 (t 6)),h 23 21 (.ld none (t 22)),h
 24 21 (.ar .gtr (t 23) (u 5)),pt 25 21 24,m 17 25]) (Y [0,3,4,5,6,10,11,12,17])) (C 17 X (Q (O [fa 26 2 6,ld 27 26,m 28 27,g 29 28 (.fa 0 (t 6)),g 30 28 (.ld none (t
 29)),g 31 28 (.ar .neq (t 30) (u 2)),pf 32 28 31,m 33 32,g 34 33 (.fa 0 (t 6)),g 35 33 (.ld none (t 34)),g 36 33 (.ar .neq (t 35) (u 3)),pf 37 33 36,m 17 37]) (Y [0,3,4,
 5,6,10,11,12,17])))) (C 17 (rt 2 (u 1)) (Q (Q (O [fa 39 0 6,ld 40 39,ac 41 .eql 40 (u 1),m 42 41,g 43 42 (.fa 1 (t 6)),g 44 42 (.ld none (t 43)),g 45 42 (.ar .eql (t 44)
 (s [])),g 46 42 (.mv (t 45)),h 47 46 (.fa 1 (t 6)),h 48 46 (.ld none (t 47)),⟨(some 49),(some (46,false)),(.call (.c (.fn (.func jr) [] [])) [(.t 48)])⟩,h 50 46
 (.un .not (t 49)),g 51 42 (.pk (t 46) T (t 50)),g 52 42 (.mv (t 51)),h 53 52 (.mv (t 5)),h 54 52 (.ar .gtr (t 53) (i 0)),h 55 52 (.mv (t 54)),g 56 55 (.mv (t 0)),g 57 55 (.mv
 (t 5)),g 58 55 (.ar .sub (t 57) (i 1)),g 59 55 (.ias 3 (t 56) (t 58)),g 60 55 (.fa 0 (t 59)),g 61 55 (.ld none (t 60)),g 62 55 (.ar .eql (t 61) (u 1)),h 63 52 (.pk (t 55) (t
 62) F),g 64 42 (.pk (t 52) T (t 63)),pf 65 42 64,m 38 65]) (Y [0,3,4,6,10,11,12,38])) (C 38 (rt 2 (u 4)) (Q (Q (O [fa 67 0 6,ld 68 67,ac 69 .neq 68 (u 1),m 70 69,g 71
 70 (.fa 1 (t 6)),g 72 70 (.ld none (t 71)),⟨(some 73),(some (70,true)),(.call (.c (.fn (.func nG) [] [])) [(.t 72)])⟩,g 74 70 (.un .not (t 73)),pf 75 70 74,m 66
 75]) (Y [0,3,4,6,10,11,12,66])) (C 66 (rt 2 (u 5)) (Q (Q (O [la 77 3 6,k2 78 gA 4 77,no 79 78,m 76 79]) (Y [0,3,4,6,10,11,12,76])) (C 76 (rt 2 (u
 8)) (Q (Q (O [fa 81 0 6,ld 82 81,ac 83 .eql 82 (u 3),m 84 83,g 85 84 (.fa 1 (t 6)),g 86 84 (.ld none (t 85)),⟨(some 87),(some (84,true)),(.call (.c (.fn (.func
 iy) [] [])) [(.t 3),(.t 86)])⟩,g 88 84 (.un .not (t 87)),pf 89 84 88,m 80 89]) (Y [0,3,4,6,10,11,12,80])) (C 80 (rt 2 (u 9)) X))))))))))) (Q (O [fa
 90 0 6,ld 91 90,ac 92 .eql 91 (u 2)]) (C 92 (Q (O [fa 93 1 6,ld 94 93,k2 95 gL 3 94]) (Q (Q (O [fa 96 0 3,ld 97 96,ls 98 97,ac 99 .gtr 98 (i 16)]) (Y
 [0,3,4,10,11,12,99])) (C 99 (rt 2 (u 3)) X))) X))))) (O [ad 100 12,m 12 100]))))
def lV:AC:=
 (Q (O [mc 2 (u 0)]) (Q (Q (O [m 7 0,ls 8 7,ac 9 .gtr 8 (i 512)]) (C 9 (rt 2 (u 3)) X)) (Q (O [o 3 (.nw [(.slice .nil 1 [])] fb)]) (Q (O [o 4 (.nw [(.bool false),
 (.bool false)] b7)]) (Q (Q (O [m 10 0,ls 11 10,mc 12 (i 0)]) (Q (.block 0 (lo [0,3,4,10,11,12] aV)) (Y [3]))) (Q (Q (Q (O [fa 101 0 3,ld 102
 101,ls 103 102,ac 104 .gtr 103 (i 0)]) (Y [104])) (C 104 (rt 2 (u 9)) X)) (rt 2 (u 0))))))))
def eB:AFn:=⟨lV,105,[.t 2],.drop,[],none⟩
theorem bb:qf eB [.t 2] .drop:=⟨rfl,rfl,rfl⟩
def pg:AC:=
 (Q (O [o 1 (.bx ae (t 0)),mc 2 (s [])]) (Q (O [mc 3 (s [])]) (Q (Q (O [fa 4 2 1,ld 5 4]) (C 5 (O [mc 3 (s [43])]) X)) (Q (Q (O [fa 6 0 1,ld 7 6]) (.block 0 (Q (O [ac 9
 .eql 7 (u 2),m 8 9]) (C 8 (Q (Q (O [m 10 3,o 11 (.ar .add (s [60]) (t 10)),fa 12 1 1,ld 13 12,ar 14 .add 11 13,ac 15 .add 14 (s [62]),m 2 15]) (Y [2])) R) (Q (O [ac 17 .eql 7
 (u 3),m 16 17]) (C 16 (Q (Q (O [m 18 3,o 19 (.ar .add (s [60,47]) (t 18)),fa 20 1 1,ld 21 20,ar 22 .add 19 21,ac 23 .add 22 (s [62]),m 2 23]) (Y [2])) R) (Q (O [ac 25 .eql 7
 (u 4),m 24 25]) (C 24 (Q (Q (O [fa 26 1 1,ld 27 26,o 28 (.ar .add (s [60]) (t 27)),ac 29 .add 28 (s [47,62]),m 2 29]) (Y [2])) R) (Q (O [ac 31 .eql 7 (u 5),m 30 31]) (C 30 (Q
 (Q (O [fa 32 1 1,ld 33 32,o 34 (.ar .add (s [123]) (t 33)),ac 35 .add 34 (s [125]),m 2 35]) (Y [2])) R) X)))))))))) (Q (Q (D [P (o 36 (.bs 1 [(.str [])] 6 [(0,(s [92])),(1,(s
 [92,92])),(2,(s [60])),(3,(s [92,60])),(4,(s [123])),(5,(s [92,123]))])),Pf 38 1 1,Wl 39 38,K (k1 37 mY 36),K (k2 40 kg 37
 39),Pm 2 40]) (Y [2])) R)))))
def ph:AFn:=⟨pg,41,[.t 2],.drop,[1000013],none⟩
theorem eK:qf ph [.t 2] .drop:=⟨rfl,rfl,rfl⟩
def ru:AC:=
 (Q (O [o 1 (.bx ao (t 0)),mc 2 (.c .nilfn)]) (Q (O [o 3 (.mf (.func kh) [] [(t 1)]),m 2 3]) R))
def oK:AFn:=⟨ru,4,[.t 2],.keep,[],none⟩
theorem CH:qf oK [.t 2] .keep:=⟨rfl,rfl,rfl⟩
def nn:AC:=
 (Q (O [o 1 (.bx bk (t 0)),mc 2 F]) (Q (Q (O [fa 3 1 1,ld 4 3,m 5 4,h 6 5 (.ld (some 2) (t 1)),⟨(some 7),(some (5,false)),(.call (.c (.fn (.func fD)
 [] [])) [(.t 6)])⟩,pt 8 5 7,m 9 8,h 10 9 (.ld (some 2) (t 1)),⟨(some 11),(some (9,false)),(.call (.c (.fn (.func gB) [] [])) [(.t 10)])⟩,pt 12 9 11,m 2 12])
 (Y [2])) R))
def kO:AFn:=⟨nn,13,[.t 2],.drop,[],none⟩
theorem vX:qf kO [.t 2] .drop:=⟨rfl,rfl,rfl⟩
def nu:AC:=
 (Q (O [o 1 (.bx bk (t 0)),mc 2 F]) (Q (Q (O [fa 3 1 1,ld 4 3,no 5 4,m 6 5,g 7 6 (.ld (some 2) (t 1)),⟨(some 8),(some (6,true)),(.call (.c (.fn (.func
 fD) [] [])) [(.t 7)])⟩,g 9 6 (.un .not (t 8)),pf 10 6 9,m 11 10,g 12 11 (.ld (some 2) (t 1)),⟨(some 13),(some (11,true)),(.call (.c (.fn (.func
 gB) [] [])) [(.t 12)])⟩,g 14 11 (.un .not (t 13)),pf 15 11 14,m 16 15,g 17 16 (.ld (some 2) (t 1)),⟨(some 18),(some (16,true)),(.call (.c (.fn (.func
 jU) [] [])) [(.t 17)])⟩,g 19 16 (.un .not (t 18)),pf 20 16 19,m 2 20]) (Y [2])) R))
def kP:AFn:=⟨nu,21,[.t 2],.drop,[],none⟩
theorem vY:qf kP [.t 2] .drop:=⟨rfl,rfl,rfl⟩
def bc:AC:=
 (Q (Q (Q (O [m 35 7,m 36 5,ls 37 36,bl 38 35 37]) (Y [0,3,4,5,6,7,38])) (C 38 X (.exit 2))) (Q (.block 3 (Q (Q (O [m 41 5,m 42 7,ia 43 1 41 42,ld 44 43,o 45 (.bd [(.int
 .i32 0),(.bool false)] [(0,1),(1,1)] [(0,(t 44))]),o 8 (.nw [(.int .i32 0),(.bool false)] eF),n (.st 2 (t 8) (t 45))]) (Y [0,3,4,5,6,7,8])) (Q (Q (O
 [la 46 2 8,k1 47 fh 46]) (C 47 (Q (Q (O [m 48 6,m 49 5,m 50 7,ia 51 1 49 50,ld 52 51,o 53 (.cvs (t 52)),ar 54 .add 48 53,m 6 54]) (Y [0,3,4,5,6,7]))
 (.exit 3)) X)) (Q (Q (O [m 55 6,ac 56 .neq 55 (s [])]) (C 56 (Q (Q (O [m 57 3,m 58 6,o 59 (.bs 1 [(.str [])] 1 [(0,(t 58))]),o 60 (.ap false ak 1 16 false (t 57) (t 59)),
 m 3 60]) (Y [0,3,4,5,7])) (O [mc 6 (s [])])) X)) (Q (Q (O [m 61 5,m 62 7,ia 63 1 61 62,ld 64 63,o 65 (.ar .neq (t 64) (.c (.int .i32 32)))]) (Y [0,3,4,5,6,7,65])) (C
 65 (Q (O [m 66 3,m 67 5,m 68 7,ia 69 1 67 68,ld 70 69,o 71 (.cvs (t 70)),o 72 (.bs 1 [(.str [])] 1 [(0,(t 71))]),o 73 (.ap false ak 1 16 false (t 66) (t 72)),m 3 73])
 (Y [0,3,4,5,6,7])) X)))))) (ic 39 7 40)))
def bD:AC:=
 (Q (Q (Q (O [m 9 4,m 10 0,ls 11 10,bl 12 9 11]) (Y [0,3,4,12])) (C 12 X (.exit 0))) (Q (Q (.block 1 (Q (Q (Q (O [m 15 0,m 16 4,ia 17 3 15 16,fa 18 0 17,ld 19 18,ac 20
 .neq 19 (u 1)]) (Y [0,3,4,20])) (C 20 (Q (Q (O [m 21 3,m 22 0,m 23 4,ia 24 3 22 23,la 25 3 24,k1 26 dx 25,o 27 (.bs 1 [(.str [])] 1 [(0,(t 26))]),o
 28 (.ap false ak 1 16 false (t 21) (t 27)),m 3 28]) (Y [0,3,4])) (.exit 1)) X)) (Q (Q (O [m 29 0,m 30 4,ia 31 3 29 30,fa 32 1 31,ld 33 32,o 34 (.cvsr (t 33)),m 5 34])
 (Y [0,3,4,5])) (Q (O [mc 6 (s [])]) (Q (Q (O [mc 7 (i 0)]) (Q (.block 2 (.loop ⟨(some [0,3,4,5,6,7]),[(3,1,ak)],true⟩ bc)) (Y [0,3,4,
 6]))) (Q (O [m 74 6,ac 75 .neq 74 (s [])]) (C 75 (Q (O [m 76 3,m 77 6,o 78 (.bs 1 [(.str [])] 1 [(0,(t 77))]),o 79 (.ap false ak 1 16 false (t 76) (t 78)),m 3 79]) (Y
 [0,3,4])) X))))))) (Y [0,3,4])) (ic 13 4 14)))
def gR:AC:=
 (Q (O [mc 2 (.c (.slice .nil 1 []))]) (Q (O [mc 3 (.c (.slice .nil 1 []))]) (Q (Q (O [mc 4 (i 0)]) (Q (.block 0 (.loop ⟨(some [0,3,4]),[(3,1,ak)],true⟩
 bD)) (Y [3]))) (Q (O [m 80 3,m 2 80]) R))))
def bR:AFn:=⟨gR,81,[.t 2],.drop,[],none⟩
theorem aW:qf bR [.t 2] .drop:=⟨rfl,rfl,rfl⟩
def jF:AC:=
 (Q (O [mc 4 (u 0)]) (Q (Q (O [m 6 0,m 7 1,ia 8 3 6 7,la 9 3 8,o 5 (.nw [(.int .u8 0),(.str []),(.bool false)] ae),n (.st 3 (t 5) (t 9))]) (Y [0,1,5])) (Q (.block 0
 (Q (Q (O [fa 11 0 5,ld 12 11,ac 13 .lss 12 (u 1),m 14 13,h 15 14 (.fa 0 (t 5)),h 16 14 (.ld none (t 15)),h 17 14 (.ar .gtr (t 16) (u 5)),pt 18 14 17,m 10 18]) (Y [0,1,5,
 10])) (C 10 (rt 4 (u 1)) (Q (Q (O [fa 20 2 5,ld 21 20,m 22 21,g 23 22 (.fa 0 (t 5)),g 24 22 (.ld none (t 23)),g 25 22 (.ar .neq (t 24) (u 2)),pf 26 22 25,m 27 26,g 28 27
 (.fa 0 (t 5)),g 29 27 (.ld none (t 28)),g 30 27 (.ar .neq (t 29) (u 3)),pf 31 27 30,m 19 31]) (Y [0,1,5,19])) (C 19 (rt 4 (u 1)) (Q (Q (O [fa 33 0 5,ld 34 33,ac 35 .eql 34
 (u 1),m 36 35,g 37 36 (.fa 1 (t 5)),g 38 36 (.ld none (t 37)),g 39 36 (.ar .eql (t 38) (s [])),g 40 36 (.mv (t 39)),h 41 40 (.fa 1 (t 5)),h 42 40 (.ld none (t 41)),⟨(some
 43),(some (40,false)),(.call (.c (.fn (.func gC) [] [])) [(.t 42)])⟩,h 44 40 (.un .not (t 43)),g 45 36 (.pk (t 40) T (t 44)),g 46 36 (.mv (t 45)),h 47 46
 (.mv (t 1)),h 48 46 (.ar .gtr (t 47) (i 0)),h 49 46 (.mv (t 48)),g 50 49 (.mv (t 0)),g 51 49 (.mv (t 1)),g 52 49 (.ar .sub (t 51) (i 1)),g 53 49 (.ias 3 (t 50) (t 52)),g 54
 49 (.fa 0 (t 53)),g 55 49 (.ld none (t 54)),g 56 49 (.ar .eql (t 55) (u 1)),h 57 46 (.pk (t 49) (t 56) F),g 58 36 (.pk (t 46) T (t 57)),pf 59 36 58,m 32 59]) (Y [5,32])) (C
 32 (rt 4 (u 4)) (Q (Q (O [fa 61 0 5,ld 62 61,ac 63 .neq 62 (u 1),m 64 63,g 65 64 (.fa 1 (t 5)),g 66 64 (.ld none (t 65)),⟨(some 67),(some (64,true)),(.call (.c (.fn (.func
 gD) [] [])) [(.t 66)])⟩,g 68 64 (.un .not (t 67)),pf 69 64 68,m 60 69]) (Y [60])) (C 60 (rt 4 (u 5)) X))))))))) (rt 4 (u 0)))))
def jG:AFn:=⟨jF,70,[.t 4],.drop,[],none⟩
theorem rW:qf jG [.t 4] .drop:=⟨rfl,rfl,rfl⟩
def de:AC:=
 (Q (Q (O [m 8 5,m 9 1,bl 10 8 9]) (C 10 X (.exit 0))) (Q (.block 1 (Q (Q (O [m 13 0,m 14 5,ia 15 3 13 14,fa 16 2 15,ld 17 16,m 18 17,g 19 18 (.mv (t 0)),g 20 18 (.mv (t
 5)),g 21 18 (.ias 3 (t 19) (t 20)),g 22 18 (.fa 0 (t 21)),g 23 18 (.ld none (t 22)),g 24 18 (.ar .eql (t 23) (u 2)),pf 25 18 24,m 6 25]) (Y [0,1,5,6])) (Q (Q (O [m 26 0,m
 27 5,ia 28 3 26 27,fa 29 2 28,ld 30 29,m 31 30,g 32 31 (.mv (t 0)),g 33 31 (.mv (t 5)),g 34 31 (.ias 3 (t 32) (t 33)),g 35 31 (.fa 0 (t 34)),g 36 31 (.ld none (t 35)),g 37
 31 (.ar .eql (t 36) (u 3)),pf 38 31 37,m 7 38]) (Y [0,1,5,6,7])) (Q (Q (Q (O [m 39 0,m 40 1,ia 41 3 39 40,fa 42 2 41,ld 43 42,m 44 43,g 45 44 (.mv (t 0)),g 46 44 (.mv
 (t 1)),g 47 44 (.ias 3 (t 45) (t 46)),g 48 44 (.fa 0 (t 47)),g 49 44 (.ld none (t 48)),g 50 44 (.ar .eql (t 49) (u 2)),pf 51 44 50,m 52 51,g 53 52 (.mv (t 6)),g 54 52 (.un
 .not (t 53)),pf 55 52 54]) (Y [0,1,5,7,55])) (C 55 (rt 4 (u 8)) X)) (Q (Q (O [m 56 7,m 57 56,g 58 57 (.mv (t 0)),g 59 57 (.mv (t 1)),g 60 57 (.ias 3 (t 58) (t 59)),g 61 57
 (.fa 2 (t 60)),g 62 57 (.ld none (t 61)),g 63 57 (.mv (t 62)),g 64 63 (.mv (t 0)),g 65 63 (.mv (t 1)),g 66 63 (.ias 3 (t 64) (t 65)),g 67 63 (.fa 0 (t 66)),g 68 63 (.ld none
 (t 67)),g 69 63 (.ar .eql (t 68) (u 3)),g 70 57 (.pk (t 63) (t 69) F),g 71 57 (.un .not (t 70)),pf 72 57 71]) (Y [0,1,5,72])) (C 72 (rt 4 (u 8)) X)))))) (ic 11 5 12)))
def iz:AC:=
 (Q (O [mc 4 (u 0)]) (Q (Q (O [mc 5 (i 0)]) (Q (.block 0 (lo [0,1,5] de)) (Y []))) (rt 4 (u 0))))
def dB:AFn:=⟨iz,73,[.t 4],.drop,[],none⟩
theorem iA:qf dB [.t 4] .drop:=⟨rfl,rfl,rfl⟩
def eu:AC:=
 (Q (O [mc 2 F]) (Q (Q (O [m 6 0,k1 7 fi 6,m 5 7,ex 8 5 0,ex 9 5 1,o 3 (.nw [(.int .u8 0),(.str []),(.bool false)] ae),n (.st 3 (t 3) (t 8)),m 4
 9]) (Y [3,4])) (Q (Q (O [m 10 4,m 11 10,g 12 11 (.fa 0 (t 3)),g 13 11 (.ld none (t 12)),⟨(some 14),(some (11,true)),(.call (.c (.fn (.func eY) [] [])) [(.t
 13)])⟩,pf 15 11 14,m 2 15]) (Y [2])) R)))
def jH:AFn:=⟨eu,16,[.t 2],.drop,[],none⟩
theorem mZ:qf jH [.t 2] .drop:=⟨rfl,rfl,rfl⟩
def ey:AC:=
 (Q (O [o 2 (.nw [(.int .u8 0),(.str []),(.bool false)] ae),mc 3 F]) (Q (Q (O [m 7 0,k1 8 fi 7,m 6 8,ex 9 6 0,ex 10 6 1,o 4 (.nw [(.int .u8 0),
 (.str []),(.bool false)] ae),n (.st 3 (t 4) (t 9)),m 5 10]) (Y [0,2,4,5])) (Q (Q (O [m 11 5]) (C 11 (Q (O [la 12 3 4,n (.st 3 (t 2) (t 12)),mc 3 T]) R) X)) (Q (Q (O
 [m 13 0,o 14 (.bd [(.int .u8 0),(.str []),(.bool false)] [(0,1),(1,1),(2,1)] [(0,(u 1)),(1,(t 13))]),m 15 0,k1 16 kT 15,n (.st 3 (t 2) (t 14)),m 3
 16]) (Y [2,3])) R))))
def jI:AFn:=⟨ey,17,[.cell 2 (some 3),.t 3],.drop,[],none⟩
theorem m0:qf jI [.cell 2 (some 3),.t 3] .drop:=⟨rfl,rfl,rfl⟩
def cC:AC:=
 (Q (O [mc 2 F]) (Q (Q (Q (O [m 8 0,k1 9 gz 8,m 7 9,ex 10 7 0,ex 11 7 1,o 3 (.nw [(.int .u8 0),(.str []),(.bool false)] ae),n (.st 3 (t 3) (t 10)),m 4
 11]) (Y [0,4])) (Q (O [m 12 4]) (C 12 (rt 2 T) X))) (Q (Q (Q (O [m 13 0,ac 14 .eql 13 (s []),m 15 14,h 16 15 (.mv (t 0)),⟨(some 17),(some (15,false)),(.call (.c (.fn (.func
 jr) [] [])) [(.t 16)])⟩,h 18 15 (.un .not (t 17)),pt 19 15 18]) (Y [0,19])) (C 19 (rt 2 F) X)) (Q (Q (Q (O [m 21 0,k1 22 rp 21,m 20 22,ex 23 20 0,ex 24
 20 1,m 5 23,m 6 24]) (Y [0,5,6])) (Q (Q (O [m 25 6,m 26 25,g 27 26 (.mv (t 5)),g 28 26 (.bd [(.int .i32 0),(.bool false)] [(0,1),(1,1)] [(0,(t 27))]),⟨(some 29),(some
 (26,true)),(.call (.c (.fn (.func iv) [] [])) [(.t 28)])⟩,pf 30 26 29]) (Y [0,30])) (C 30 (rt 2 T) X))) (Q (Q (O [m 31 0,k 32 (f iL) [(t 31),
 (f eS)],no 33 32,m 2 33]) (Y [2])) R)))))
def nH:AFn:=⟨cC,34,[.t 2],.drop,[],none⟩
theorem jt:qf nH [.t 2] .drop:=⟨rfl,rfl,rfl⟩
def pj:AC:=
 (Q (O [o 2 (.nw [(.int .u8 0),(.str []),(.bool false)] ae),mc 3 F]) (Q (Q (O [m 7 0,k1 8 gz 7,m 6 8,ex 9 6 0,ex 10 6 1,o 4 (.nw [(.int .u8 0),(.str []),
 (.bool false)] ae),n (.st 3 (t 4) (t 9)),m 5 10]) (Y [2,4,5])) (Q (Q (.dops true [] [] [W (la 11 3 4),Pm 12 5,Pm 13 12,P (g 14 13 (.fa 0 (t 4))),W (g 15 13 (.ld
 none (t 14))),P (g 16 13 (.ar .neq (t 15) (u 5))),P (pf 17 13 16),K (n (.st 3 (t 2) (t 11))),Pm 3 17]) (Y [2,3])) R)))
def ry:AFn:=⟨pj,18,[.cell 2 (some 3),.t 3],.drop,[],none⟩
theorem zr:qf ry [.cell 2 (some 3),.t 3] .drop:=⟨rfl,rfl,rfl⟩
def kX:AC:=
 (Q (O [mc 2 F]) (Q (Q (O [m 3 0,ac 4 .eql 3 (u 2),m 5 4,h 6 5 (.mv (t 0)),h 7 5 (.ar .eql (t 6) (u 3)),pt 8 5 7,m 9 8,h 10 9 (.mv (t 0)),h 11 9 (.ar .eql (t 10) (u 4)),pt
 12 9 11,m 2 12]) (Y [2])) R))
def kY:AFn:=⟨kX,13,[.t 2],.drop,[],none⟩
theorem kZ:qf kY [.t 2] .drop:=⟨rfl,rfl,rfl⟩
def cq:AC:=
 (Q (Q (Q (O [m 38 5,fa 39 1 1,ld 40 39,lt 41 40,bl 42 38 41]) (Y [1,4,5,42])) (C 42 X (.exit 1))) (Q (.block 2 (Q (Q (Q (O [fa 45 1 1,ld 46 45,m 47 5,o 48 (.ixs (t 46) (t
 47)),ac 49 .eql 48 (u 92),m 50 49,h 51 50 (.fa 1 (t 1)),h 52 50 (.ld none (t 51)),h 53 50 (.mv (t 5)),h 54 50 (.ixs (t 52) (t 53)),h 55 50 (.ar .eql (t 54) (u 60)),pt 56 50
 55,m 57 56,h 58 57 (.fa 1 (t 1)),h 59 57 (.ld none (t 58)),h 60 57 (.mv (t 5)),h 61 57 (.ixs (t 59) (t 60)),h 62 57 (.ar .eql (t 61) (u 123)),pt 63 57 62]) (Y [1,4,5,63]))
 (C 63 (O [m 64 4,ac 65 .add 64 (s [92]),m 4 65]) X)) (Q (O [m 66 4,fa 67 1 1,ld 68 67,m 69 5,m 70 5,ad 71 70,o 72 (.sls (t 68) (some (t 69)) (some (t 71))),ar 73 .add 66
 72,m 4 73]) (Y [1,4,5])))) (ic 43 5 44)))
def iB:AC:=
 (Q (O [o 1 (.bx ae (t 0)),mc 2 (s [])]) (Q (O [mc 3 (s [])]) (Q (Q (O [fa 6 2 1,ld 7 6]) (C 7 (O [mc 3 (s [43])]) X)) (Q (Q (O [fa 8 0 1,ld 9 8]) (.block 0 (Q (O [ac 11
 .eql 9 (u 2),m 10 11]) (C 10 (Q (Q (O [m 12 3,o 13 (.ar .add (s [60]) (t 12)),fa 14 1 1,ld 15 14,ar 16 .add 13 15,ac 17 .add 16 (s [62]),m 2 17]) (Y [2])) R) (Q (O [ac 19
 .eql 9 (u 3),m 18 19]) (C 18 (Q (Q (O [m 20 3,o 21 (.ar .add (s [60,47]) (t 20)),fa 22 1 1,ld 23 22,ar 24 .add 21 23,ac 25 .add 24 (s [62]),m 2 25]) (Y [2])) R) (Q (O [ac 27
 .eql 9 (u 4),m 26 27]) (C 26 (Q (Q (O [fa 28 1 1,ld 29 28,o 30 (.ar .add (s [60]) (t 29)),ac 31 .add 30 (s [47,62]),m 2 31]) (Y [2])) R) (Q (O [ac 33 .eql 9 (u 5),m 32 33])
 (C 32 (Q (Q (O [fa 34 1 1,ld 35 34,o 36 (.ar .add (s [123]) (t 35)),ac 37 .add 36 (s [125]),m 2 37]) (Y [2])) R) X)))))))))) (Q (O [mc 4 (s [])]) (Q (Q (O [mc 5 (i 0)]) (Q
 (.block 1 (lo [1,4,5] cq)) (Y [4]))) (Q (O [m 74 4,m 2 74]) R)))))))
def dC:AFn:=⟨iB,75,[.t 2],.drop,[],none⟩
theorem aS:qf dC [.t 2] .drop:=⟨rfl,rfl,rfl⟩
def gk:AC:=
 (Q (Q (Q (O [m 6 3,m 7 0,lt 8 7,bl 9 6 8]) (Y [0,3,9])) (C 9 X (.exit 0))) (.block 1 (Q (Q (O [m 11 0,m 12 3,o 13 (.sls (t 11) (some (t 12)) none),k1 14
 bH 13,m 10 14,ex 15 10 0,ex 16 10 1,m 4 15,m 5 16]) (Y [0,3,4,5])) (Q (Q (Q (O [m 17 4,o 18 (.ar .eql (t 17) (.c (.int .i32 65533))),m 19
 18,g 20 19 (.mv (t 5)),g 21 19 (.ar .lss (t 20) (i 2)),pf 22 19 21,m 23 22,h 24 23 (.mv (t 4)),h 25 23 (.ar .lss (t 24) (.c (.int .i32 32))),pt 26 23 25,m 27 26,h 28 27
 (.mv (t 4)),h 29 27 (.ar .eql (t 28) (.c (.int .i32 127))),pt 30 27 29]) (Y [0,3,5,30])) (C 30 (rt 2 F) X)) (Q (O [m 31 3,m 32 5,ar 33 .add 31 32,m 3 33]) (Y [0,3]))))))
def qb:AC:=
 (Q (O [mc 2 F]) (Q (Q (O [mc 3 (i 0)]) (Q (.block 0 (lo [0,3] gk)) (Y []))) (rt 2 T)))
def ju:AFn:=⟨qb,34,[.t 2],.drop,[],none⟩
theorem nI:qf ju [.t 2] .drop:=⟨rfl,rfl,rfl⟩
def bS:AC:=
 (Q (O [o 2 (.nw [(.int .u8 0),(.str []),(.bool false)] ae),mc 3 (i 0)]) (Q (O [m 6 0,k 7 (f lU) [(t 6),(s [62,125])],m 4 7]) (Q (Q (O [m 8 4,ac 9
 .lss 8 (i 0)]) (C 9 (Q (O [o 10 (.bd [(.int .u8 0),(.str []),(.bool false)] [(0,1),(1,1),(2,1)] []),n (.st 3 (t 2) (t 10)),mc 3 (i 0)]) R) X)) (Q (Q (O [m 11 0,m 12 4,o
 13 (.sls (t 11) (some (i 1)) (some (t 12))),o 14 (.bd [(.int .u8 0),(.str []),(.bool false)] [(0,1),(1,1),(2,1)] [(0,(u 2)),(1,(t 13))]),o 5 (.nw [(.int .u8 0),(.str
 []),(.bool false)] ae),n (.st 3 (t 5) (t 14))]) (Y [0,2,4,5])) (Q (.block 0 (Q (Q (O [m 16 0,o 17 (.ixs (t 16) (i 0)),ac 18 .eql 17 (u 123),m 15 18]) (Y [0,2,4,
 5,15])) (C 15 (O [fa 19 0 5,n (.st 1 (t 19) (u 5))]) (Q (Q (O [fa 21 1 5,ld 22 21,k 23 (f eZ) [(t 22),(s [47,43])],m 20 23]) (Y [0,2,4,5,20])) (C 20 (Q
 (O [fa 24 1 5,ld 25 24,o 26 (.sls (t 25) (some (i 2)) none),o 27 (.bd [(.int .u8 0),(.str []),(.bool false)] [(0,1),(1,1),(2,1)] [(0,(u 3)),(1,(t 26)),(2,T)]),n (.st
 3 (t 5) (t 27))]) (Y [0,2,4,5])) (Q (Q (O [fa 29 1 5,ld 30 29,k 31 (f eZ) [(t 30),(s [47])],m 28 31]) (Y [0,2,4,5,28])) (C 28 (Q (O [fa 32 1 5,ld 33 32,
 o 34 (.sls (t 33) (some (i 1)) none),o 35 (.bd [(.int .u8 0),(.str []),(.bool false)] [(0,1),(1,1),(2,1)] [(0,(u 3)),(1,(t 34))]),n (.st 3 (t 5) (t 35))]) (Y [0,2,4,
 5])) (Q (Q (O [fa 37 1 5,ld 38 37,k 39 (f eZ) [(t 38),(s [43])],m 36 39]) (Y [0,2,4,5,36])) (C 36 (Q (O [fa 40 1 5,ld 41 40,o 42 (.sls (t 41) (some (i 1))
 none),o 43 (.bd [(.int .u8 0),(.str []),(.bool false)] [(0,1),(1,1),(2,1)] [(0,(u 2)),(1,(t 42)),(2,T)]),n (.st 3 (t 5) (t 43))]) (Y [0,2,4,5])) (Q (Q (O [fa 45 1
 5,ld 46 45,k 47 (f kU) [(t 46),(s [47])],m 44 47]) (Y [0,2,4,5,44])) (C 44 (Q (O [fa 48 1 5,ld 49 48,fa 50 1 5,ld 51 50,lt 52 51,ac 53 .sub 52 (i 1),o
 54 (.sls (t 49) none (some (t 53))),o 55 (.bd [(.int .u8 0),(.str []),(.bool false)] [(0,1),(1,1),(2,1)] [(0,(u 4)),(1,(t 54))]),n (.st 3 (t 5) (t 55))]) (Y [0,2,4,
 5])) X))))))))))) (Q (Q (Q (D [Pf 56 1 5,Wl 57 56,E (k1 58 nG 57),P (no 59 58),Pm 60 59,W (h 61 60 (.ld (some 3) (t 5))),E (⟨(some 62),(some (60,false)),(.call
 (.c (.fn (.func kf) [] [])) [(.t 61)])⟩),P (h 63 60 (.mv (t 0))),P (h 64 60 (.mv (t 4))),P (h 65 60 (.ar .add (t 64) (i 1))),P (h 66 60 (.sls (t 63) none (some (t
 65)))),P (h 67 60 (.ar .neq (t 62) (t 66))),P (pt 68 60 67)]) (Y [2,4,5,68])) (C 68 (Q (O [o 69 (.bd [(.int .u8 0),(.str []),(.bool false)] [(0,1),(1,1),(2,1)] []),n
 (.st 3 (t 2) (t 69)),mc 3 (i 0)]) R) X)) (Q (Q (O [la 70 3 5,m 71 4,ad 72 71,n (.st 3 (t 2) (t 70)),m 3 72]) (Y [2,3])) R)))))))
def nJ:AFn:=⟨bS,73,[.cell 2 (some 3),.t 3],.drop,[],none⟩
theorem gS:qf nJ [.cell 2 (some 3),.t 3] .drop:=⟨rfl,rfl,rfl⟩
def od:AC:=
 (O [ld 1 0,o 2 (.bd [(.int .u8 0),(.str []),(.bool false)] [(0,1),(1,1),(2,1)] [(0,(u 1)),(1,(s [32]))]),k2 3 bp 1 2])
def lQ:AFn:=⟨od,4,[],.keep,[],none⟩
theorem xu:qf lQ [] .keep:=⟨rfl,rfl,rfl⟩
def cK:AC:=
 (Q (O [o 3 (.bx ae (t 1))]) (Q (Q (O [m 6 0,o 7 (.nc (t 6)),fa 8 0 7,ld 9 8,ls 10 9,ac 11 .sub 10 (i 1),m 4 11]) (Y [0,3,4])) (Q (Q (Q (O [m 12 0,o 13 (.nc (t
 12)),fa 14 0 13,ld 15 14,m 16 4,ia 17 1 15 16,ld 18 17,ls 19 18,m 5 19]) (Y [0,3,4,5])) (Q (Q (O [fa 20 0 3,ld 21 20,ac 22 .eql 21 (u 1),m 23 22,g 24 23 (.mv (t 5)),g
 25 23 (.ar .gtr (t 24) (i 0)),pf 26 23 25,m 27 26,g 28 27 (.mv (t 0)),g 29 27 (.nc (t 28)),g 30 27 (.fa 0 (t 29)),g 31 27 (.ld none (t 30)),g 32 27 (.mv (t 4)),g 33 27 (.ias
 1 (t 31) (t 32)),g 34 27 (.ld none (t 33)),g 35 27 (.mv (t 5)),g 36 27 (.ar .sub (t 35) (i 1)),g 37 27 (.ias 3 (t 34) (t 36)),g 38 27 (.fa 0 (t 37)),g 39 27 (.ld none (t 38)),
 g 40 27 (.ar .eql (t 39) (u 1)),pf 41 27 40]) (Y [0,3,4,5,41])) (C 41 (Q (Q (D [Pm 42 0,P (o 43 (.nc (t 42))),Pf 44 0 43,Wl 45 44,Pm 46 4,P (ia 47 1 45 46),Wl 48 47,Pm
 49 5,P (ac 50 .sub 49 (i 1)),P (ia 51 3 48 50),Pf 52 1 51,Wl 53 52,Pf 54 1 3,Wl 55 54,P (ar 56 .add 53 55),P (ia 57 3 48 50),Pf 58 1 57,E (n (.st 1 (t 58) (t 56)))]) (Y
 [])) R) X))) (Q (.dops true [] [] [Pm 59 0,P (o 60 (.nc (t 59))),Pf 61 0 60,Wl 62 61,Pm 63 4,Pm 64 0,P (o 65 (.nc (t 64))),Pf 66 0 65,(ld 67 66,.quiet),Pm 68 4,P (ia 69 1
 67 68),(ld 70 69,.quiet),(la 71 3 3,.quiet),P (o 72 (.bs 3 [(.int .u8 0),(.str []),(.bool false)] 1 [(0,(t 71))])),K (o 73 (.ap true ae 3 32 false (t 70) (t 72))),
 P (ia 74 1 62 63),K (n (.st 1 (t 74) (t 73)))]) (Y [])))))
def jV:AFn:=⟨cK,75,[],.keep,[5],none⟩
theorem jW:qf jV [] .keep:=⟨rfl,rfl,rfl⟩
def dU:AC:=
 (Q (O [bl 10 9 8]) (Q (C 10 X (.exit 0)) (Q (.block 1 (Q (Q (O [ia 11 3 7 9,la 12 3 11,o 6 (.nw [(.int .u8 0),(.str []),(.bool false)] ae),n (.st 3 (t 6) (t 12))]) (Y
 [0,1,2,3,6,7,8,9])) (Q (Q (Q (O [m 13 0,m 14 13,g 15 14 (.fa 0 (t 6)),g 16 14 (.ld none (t 15)),g 17 14 (.ar .neq (t 16) (u 3)),pf 18 14 17]) (Y [0,1,2,3,6,7,8,9,
 18])) (C 18 (Q (O [ld 19 2,k 20 (t 19) []]) (O [mc 0 F])) X)) (O [ld 21 3,la 22 3 6,k2 23 bp 21 22])))) (O [ad 24 9,m 9 24]))))
def jd:AC:=
 (Q (Q (O [ld 7 1,ls 8 7,mc 9 (i 0)]) (Q (.block 0 (lo [0,1,2,3,7,8,9] dU)) (Y [0,1,2]))) (Q (Q (O [m 25 0]) (C 25 (O [ld 26 2,k 27 (t 26) []]) X)) (O [n
 (.st 1 (t 1) (.c (.slice .nil 3 [])))])))
def gl:AFn:=⟨jd,28,[],.keep,[],none⟩
theorem gm:qf gl [] .keep:=⟨rfl,rfl,rfl⟩
def gT:AC:=
 (Q (O [mc 4 F]) (Q (Q (O [o 5 (.bs 1 [(.str [])] 8 [(0,(s [46])),(1,(s [44])),(2,(s [59])),(3,(s [58])),(4,(s [33])),(5,(s [63])),(6,(s [41])),(7,(s [93]))]),m 6 1,
 k2 7 eh 5 6,no 8 7,m 9 8,g 10 9 (.mv (t 0)),g 11 9 (.ar .neq (t 10) (s [40])),pf 12 9 11,m 13 12,g 14 13 (.mv (t 0)),g 15 13 (.ar .neq (t 14) (s
 [91])),pf 16 13 15,m 4 16]) (Y [4])) R))
def nK:AFn:=⟨gT,17,[.t 4],.drop,[],none⟩
theorem qc:qf nK [.t 4] .drop:=⟨rfl,rfl,rfl⟩
def bK:AC:=
 (Q (Q (Q (O [m 7 5,m 8 0,ls 9 8,bl 10 7 9]) (Y [0,5,10])) (C 10 X (.exit 0))) (Q (.block 1 (Q (Q (O [m 13 0,m 14 5,ia 15 1 13 14,ld 16 15,k1 17 fO 16,no
 18 17]) (Y [0,5,18])) (C 18 (Q (Q (O [m 19 0,m 20 5,ia 21 1 19 20,ld 22 21,m 4 22]) (Y [4])) R) X))) (ic 11 5 12)))
def cU:AC:=
 (Q (O [mc 4 (s [])]) (Q (Q (O [m 6 1,m 5 6]) (Q (.block 0 (lo [0,5] bK)) (Y []))) (rt 4 (s []))))
def cV:AFn:=⟨cU,23,[.t 4],.drop,[],none⟩
theorem cW:qf cV [.t 4] .drop:=⟨rfl,rfl,rfl⟩
def cG:AC:=
 (Q (O [mc 4 F]) (Q (Q (O [o 5 (.bs 1 [(.str [])] 8 [(0,(s [46])),(1,(s [44])),(2,(s [59])),(3,(s [58])),(4,(s [33])),(5,(s [63])),(6,(s [41])),(7,(s [93]))]),m 6 1,
 k2 7 iM 5 6,no 8 7,m 9 8,g 10 9 (.bs 1 [(.str [])] 2 [(0,(s [40])),(1,(s [91]))]),g 11 9 (.mv (t 0)),⟨(some 12),(some (9,true)),(.call (.c (.fn (.func
 iM) [] [])) [(.t 10),(.t 11)])⟩,g 13 9 (.un .not (t 12)),pf 14 9 13,m 4 14]) (Y [4])) R))
def jJ:AFn:=⟨cG,15,[.t 4],.drop,[],none⟩
theorem jK:qf jJ [.t 4] .drop:=⟨rfl,rfl,rfl⟩
def bZ:AC:=
 (Q (O [o 3 (.bx ae (t 1)),mc 4 (.c (.slice .nil 3 []))]) (Q (O [m 6 0,ls 7 6,m 5 7]) (Q (Q (Q (O [fa 8 0 3,ld 9 8,ac 10 .eql 9 (u 1),m 11 10,g 12 11 (.mv (t 5)),g
 13 11 (.ar .gtr (t 12) (i 0)),pf 14 11 13,m 15 14,g 16 15 (.mv (t 0)),g 17 15 (.mv (t 5)),g 18 15 (.ar .sub (t 17) (i 1)),g 19 15 (.ias 3 (t 16) (t 18)),g 20 15 (.fa 0 (t
 19)),g 21 15 (.ld none (t 20)),g 22 15 (.ar .eql (t 21) (u 1)),pf 23 15 22]) (Y [0,3,5,23])) (C 23 (Q (Q (D [Pm 24 0,Pm 25 5,P (ac 26 .sub 25 (i 1)),Pm 27 0,Pm 28 5,P (ac
 29 .sub 28 (i 1)),P (ia 30 3 27 29),Pf 31 1 30,Wl 32 31,Pf 33 1 3,Wl 34 33,P (ar 35 .add 32 34),P (ia 36 3 24 26),Pf 37 1 36,E (n (.st 1 (t 37) (t 35)))]) (Y [0])) (Q (O [m
 38 0,m 4 38]) R)) X)) (Q (Q (O [m 39 0,la 40 3 3,o 41 (.bs 3 [(.int .u8 0),(.str []),(.bool false)] 1 [(0,(t 40))]),o 42 (.ap true ae 3 32 false (t 39) (t 41)),m 4
 42]) (Y [4])) R))))
def k6:AFn:=⟨bZ,43,[.t 4],.keep,[5],none⟩
theorem ij:qf k6 [.t 4] .keep:=⟨rfl,rfl,rfl⟩
def je:AC:=
 (Q (O [bl 25 24 23]) (Q (C 25 X (.exit 0)) (Q (.block 1 (Q (O [m 26 24,m 3 26]) (Q (Q (O [m 27 0,m 28 3,o 29 (.ixs (t 27) (t 28)),m 4 29]) (Y [0,4,23,24])) (Q (Q (O [m 30 4,
 ac 31 .geq 30 (u 97),m 32 31,g 33 32 (.mv (t 4)),g 34 32 (.ar .leq (t 33) (u 122)),pf 35 32 34,m 36 35,h 37 36 (.mv (t 4)),h 38 36 (.ar .geq (t 37) (u 48)),h 39 36 (.mv (t
 38)),g 40 39 (.mv (t 4)),g 41 39 (.ar .leq (t 40) (u 57)),h 42 36 (.pk (t 39) (t 41) F),pt 43 36 42,m 44 43,h 45 44 (.mv (t 4)),h 46 44 (.ar .eql (t 45) (u 45)),pt 47 44 46,
 no 48 47]) (Y [0,23,24,48])) (C 48 (rt 2 F) X))))) (O [ad 49 24,m 24 49]))))
def qd:AC:=
 (Q (O [mc 2 F]) (Q (Q (Q (O [m 5 0,ac 6 .eql 5 (s []),m 7 6,h 8 7 (.mv (t 0)),h 9 7 (.len .str (t 8)),h 10 7 (.ar .gtr (t 9) (i 16)),pt 11 7 10,m 12 11,h 13 12 (.mv (t 0)),
 h 14 12 (.ixs (t 13) (i 0)),h 15 12 (.ar .lss (t 14) (u 97)),pt 16 12 15,m 17 16,h 18 17 (.mv (t 0)),h 19 17 (.ixs (t 18) (i 0)),h 20 17 (.ar .gtr (t 19) (u 122)),pt 21 17
 20]) (Y [0,21])) (C 21 (rt 2 F) X)) (Q (Q (O [m 22 0,lt 23 22,mc 24 (i 0)]) (Q (.block 0 (lo [0,23,24] je)) (Y []))) (rt 2 T))))
def jv:AFn:=⟨qd,50,[.t 2],.drop,[],none⟩
theorem nL:qf jv [.t 2] .drop:=⟨rfl,rfl,rfl⟩
def cf:AC:=
 (Q (O [mc 4 F]) (Q (Q (O [m 6 0,o 7 (.nc (t 6)),fa 8 0 7,ld 9 8,ls 10 9,m 5 10]) (Y [0,1,5])) (Q (Q (Q (O [m 11 5,ac 12 .eql 11 (i 0),m 13 12,h 14 13 (.mv (t 0)),h 15 13
 (.nc (t 14)),h 16 13 (.fa 0 (t 15)),h 17 13 (.ld none (t 16)),h 18 13 (.mv (t 5)),h 19 13 (.ar .sub (t 18) (i 1)),h 20 13 (.ias 1 (t 17) (t 19)),h 21 13 (.ld none (t 20)),h
 22 13 (.mv (t 1)),h 23 13 (.ar .neq (t 21) (t 22)),pt 24 13 23]) (Y [0,5,24])) (C 24 (rt 4 F) X)) (Q (Q (O [m 25 0,m 26 0,o 27 (.nc (t 26)),fa 28 0 27,ld 29 28,m 30 5,ac
 31 .sub 30 (i 1),o 32 (.sll 1 (t 29) none (some (t 31)) none),o 33 (.nc (t 25)),fa 34 0 33,n (.st 1 (t 34) (t 32))]) (Y [])) (rt 4 T)))))
def eR:AFn:=⟨cf,35,[.t 4],.drop,[],none⟩
theorem iC:qf eR [.t 4] .drop:=⟨rfl,rfl,rfl⟩
def gU:AC:=
 (Q (O [m 4 0,m 5 0,o 6 (.nc (t 5)),fa 7 0 6,ld 8 7,m 9 1,o 10 (.bs 1 [(.str [])] 1 [(0,(t 9))]),o 11 (.ap true ak 1 16 false (t 8) (t 10)),o 12 (.nc (t 4)),fa 13 0
 12,n (.st 1 (t 13) (t 11))]) (Y []))
def gV:AFn:=⟨gU,14,[],.keep,[0],none⟩
theorem qe:qf gV [] .keep:=⟨rfl,rfl,rfl⟩
def vZ:AC:=
 (Q (O [o 26 (.nx (t 25)),ex 27 26 0]) (Q (C 27 X (.exit 3)) (.block 4 (Q (O [ex 28 26 2,m 6 28]) (Q (Q (O [m 29 0,m 30 6,o 31 (.bd [(.int .i32 0),(.bool false)] [(0,1),(1,
 1)] [(0,(t 30))]),k 32 (t 29) [(t 31)],no 33 32]) (Y [0,7,8,9,25,33])) (C 33 (.exit 0) X))))))
def wc:AC:=
 (Q (O [bl 10 9 8]) (Q (C 10 X (.exit 0)) (Q (Q (.block 1 (Q (Q (O [ia 11 3 7 9,la 12 3 11,o 4 (.nw [(.int .u8 0),(.str []),(.bool false)] ae),n (.st 3 (t 4) (t 12))])
 (Y [0,4,7,8,9])) (Q (O [fa 13 0 4,ld 14 13]) (Q (.block 2 (Q (O [ac 16 .eql 14 (u 5),m 15 16]) (C 15 (Q (Q (O [m 17 0,o 18 (.bd [(.int .i32 0),(.bool false)] [(0,1),(1,
 1)] [(1,T)]),k 19 (t 17) [(t 18)],no 20 19]) (Y [0,7,8,9,20])) (C 20 (.exit 0) X)) (Q (O [ac 22 .eql 14 (u 1),m 21 22]) (C 21 (Q (O [fa 23 1 4,ld 24 23,o 25 (.rg (t 24))])
 (Q (.block 3 (lo [0,7,8,9,25] vZ)) (Y [0,7,8,9]))) X))))) (Y [0,7,8,9]))))) (Y [0,7,8,9])) (O [ad 34 9,m 9 34]))))
def zt:AC:=
 (.scope (Q (.lbl 0) (Q (O [ld 7 1,ls 8 7,mc 9 (i 0)]) (Q (.block 0 (lc [0,7,8,9] wc)) (Y [])))) X)
def s6:AFn:=⟨zt,35,[],.drop,[],none⟩
def lW:AC:=
 (Q (O [o 1 (.bx bk (t 0)),mc 2 F]) (Q (Q (O [fa 3 1 1,ld 4 3,no 5 4,m 6 5,g 7 6 (.fa 0 (t 1)),g 8 6 (.ld none (t 7)),g 9 6 (.ar .geq (t 8) (.c (.int .i32 65))),g 10
 6 (.mv (t 9)),g 11 10 (.fa 0 (t 1)),g 12 10 (.ld none (t 11)),g 13 10 (.ar .leq (t 12) (.c (.int .i32 90))),g 14 6 (.pk (t 10) (t 13) F),g 15 6 (.mv (t 14)),h 16 15 (.fa 0 (t
 1)),h 17 15 (.ld none (t 16)),h 18 15 (.ar .geq (t 17) (.c (.int .i32 97))),h 19 15 (.mv (t 18)),g 20 19 (.fa 0 (t 1)),g 21 19 (.ld none (t 20)),g 22 19 (.ar .leq (t 21) (.c
 (.int .i32 122))),h 23 15 (.pk (t 19) (t 22) F),g 24 6 (.pk (t 15) T (t 23)),g 25 6 (.mv (t 24)),h 26 25 (.fa 0 (t 1)),h 27 25 (.ld none (t 26)),h 28 25 (.ar .gtr (t 27) (.c
 (.int .i32 127))),g 29 6 (.pk (t 25) T (t 28)),pf 30 6 29,m 2 30]) (Y [2])) R))
def iQ:AFn:=⟨lW,31,[.t 2],.drop,[],none⟩
theorem uv:qf iQ [.t 2] .drop:=⟨rfl,rfl,rfl⟩
def mM:AC:=
 (Q (O [o 1 (.bx bk (t 0)),mc 2 F]) (Q (Q (O [fa 3 1 1,ld 4 3,no 5 4,m 6 5,g 7 6 (.fa 0 (t 1)),g 8 6 (.ld none (t 7)),g 9 6 (.ar .geq (t 8) (.c (.int .i32 48))),pf
 10 6 9,m 11 10,g 12 11 (.fa 0 (t 1)),g 13 11 (.ld none (t 12)),g 14 11 (.ar .leq (t 13) (.c (.int .i32 57))),pf 15 11 14,m 2 15]) (Y [2])) R))
def jX:AFn:=⟨mM,16,[.t 2],.drop,[],none⟩
theorem vk:qf jX [.t 2] .drop:=⟨rfl,rfl,rfl⟩
def mN:AC:=
 (Q (O [o 1 (.bx bk (t 0)),mc 2 F]) (Q (Q (O [fa 3 1 1,ld 4 3,no 5 4,m 6 5,g 7 6 (.fa 0 (t 1)),g 8 6 (.ld none (t 7)),g 9 6 (.ar .eql (t 8) (.c (.int .i32 32))),pf
 10 6 9,m 2 10]) (Y [2])) R))
def jY:AFn:=⟨mN,11,[.t 2],.drop,[],none⟩
theorem vl:qf jY [.t 2] .drop:=⟨rfl,rfl,rfl⟩
def iR:AC:=
 (Q (O [o 1 (.bx eF (t 0)),mc 2 F]) (Q (Q (O [fa 3 1 1,ld 4 3,m 5 4,h 6 5 (.ld (some 2) (t 1)),⟨(some 7),(some (5,false)),(.call (.c (.fn (.func
 fj) [] [])) [(.t 6)])⟩,pt 8 5 7,m 9 8,h 10 9 (.ld (some 2) (t 1)),⟨(some 11),(some (9,false)),(.call (.c (.fn (.func fR) [] [])) [(.t
 10)])⟩,pt 12 9 11,m 2 12]) (Y [2])) R))
def iS:AFn:=⟨iR,13,[.t 2],.drop,[],none⟩
theorem rz:qf iS [.t 2] .drop:=⟨rfl,rfl,rfl⟩
def dV:AC:=
 (Q (Q (Q (O [m 11 4,m 12 3,ls 13 12,bl 14 11 13]) (Y [3,4,14])) (C 14 X (.exit 0))) (Q (.block 1 (Q (Q (O [m 17 3,m 18 4,ia 19 1 17 18,ld 20 19,o 21 (.ar .lss (t 20) (.c
 (.int .i32 32))),m 22 21,h 23 22 (.mv (t 3)),h 24 22 (.mv (t 4)),h 25 22 (.ias 1 (t 23) (t 24)),h 26 22 (.ld none (t 25)),h 27 22 (.ar .eql (t 26) (.c (.int .i32 127))),pt 28
 22 27]) (Y [3,4,28])) (C 28 (rt 2 F) X))) (ic 15 4 16)))
def ku:AC:=
 (Q (O [mc 2 F]) (Q (O [m 5 0,o 6 (.cvsr (t 5)),m 3 6]) (Q (Q (Q (O [m 7 3,o 8 (.cvrs (t 7)),m 9 0,ar 10 .neq 8 9]) (Y [3,10])) (C 10 (rt 2 F) X)) (Q (Q (O [mc 4 (i 0)]) (Q
 (.block 0 (lo [3,4] dV)) (Y []))) (rt 2 T)))))
def eL:AFn:=⟨ku,29,[.t 2],.drop,[],none⟩
theorem kx:qf eL [.t 2] .drop:=⟨rfl,rfl,rfl⟩
def dW:AC:=
 (Q (Q (Q (O [m 23 3,m 24 0,lt 25 24,bl 26 23 25]) (Y [0,3,26])) (C 26 X (.exit 0))) (Q (.block 1 (Q (Q (O [m 29 0,m 30 3,o 31 (.ixs (t 29) (t 30)),m 4 31]) (Y [0,3,4])) (Q
 (Q (O [m 32 4,ac 33 .lss 32 (u 97),m 34 33,h 35 34 (.mv (t 4)),h 36 34 (.ar .gtr (t 35) (u 122)),pt 37 34 36,m 38 37,g 39 38 (.mv (t 4)),g 40 38 (.ar .lss (t 39) (u 48)),g
 41 38 (.mv (t 40)),h 42 41 (.mv (t 4)),h 43 41 (.ar .gtr (t 42) (u 57)),g 44 38 (.pk (t 41) T (t 43)),pf 45 38 44,m 46 45,g 47 46 (.mv (t 4)),g 48 46 (.ar .neq (t 47) (u
 45)),pf 49 46 48]) (Y [0,3,49])) (C 49 (rt 2 F) X)))) (ic 27 3 28)))
def ky:AC:=
 (Q (O [mc 2 F]) (Q (Q (Q (O [m 5 0,lt 6 5,ac 7 .eql 6 (i 0),m 8 7,h 9 8 (.mv (t 0)),h 10 8 (.len .str (t 9)),h 11 8 (.ar .gtr (t 10) (i 16)),pt 12 8 11,m 13 12,h 14 13 (.mv
 (t 0)),h 15 13 (.ixs (t 14) (i 0)),h 16 13 (.ar .lss (t 15) (u 97)),pt 17 13 16,m 18 17,h 19 18 (.mv (t 0)),h 20 18 (.ixs (t 19) (i 0)),h 21 18 (.ar .gtr (t 20) (u 122)),pt
 22 18 21]) (Y [0,22])) (C 22 (rt 2 F) X)) (Q (Q (O [mc 3 (i 0)]) (Q (.block 0 (lo [0,3] dW)) (Y []))) (rt 2 T))))
def eM:AFn:=⟨ky,50,[.t 2],.drop,[],none⟩
theorem gG:qf eM [.t 2] .drop:=⟨rfl,rfl,rfl⟩
def aC:AC:=
 (Q (O [o 2 (.nw [(.int .u8 0),(.str []),(.bool false)] ae),mc 3 F]) (Q (O [m 6 0,lt 7 6,m 4 7]) (Q (Q (O [m 8 4,ac 9 .lss 8 (i 3)]) (C 9 (Q (O [o 10 (.bd [(.int .u8
 0),(.str []),(.bool false)] [(0,1),(1,1),(2,1)] []),n (.st 3 (t 2) (t 10)),mc 3 F]) R) X)) (Q (Q (O [m 11 0,m 12 4,ac 13 .sub 12 (i 1),o 14 (.sls (t 11) (some (i 1))
 (some (t 13))),o 15 (.bd [(.int .u8 0),(.str []),(.bool false)] [(0,1),(1,1),(2,1)] [(0,(u 2)),(1,(t 14))]),o 5 (.nw [(.int .u8 0),(.str []),(.bool false)]
 ae),n (.st 3 (t 5) (t 15))]) (Y [0,2,4,5])) (Q (.block 0 (Q (Q (O [m 17 0,o 18 (.ixs (t 17) (i 0)),ac 19 .eql 18 (u 123),m 20 19,g 21 20 (.mv (t 0)),g 22 20 (.mv
 (t 4)),g 23 20 (.ar .sub (t 22) (i 1)),g 24 20 (.ixs (t 21) (t 23)),g 25 20 (.ar .eql (t 24) (u 125)),pf 26 20 25,m 16 26]) (Y [0,2,4,5,16])) (C 16 (O [fa 27 0 5,n (.st 1
 (t 27) (u 5))]) (Q (Q (O [m 29 0,o 30 (.ixs (t 29) (i 0)),ac 31 .neq 30 (u 60),m 32 31,h 33 32 (.mv (t 0)),h 34 32 (.mv (t 4)),h 35 32 (.ar .sub (t 34) (i 1)),h 36 32 (.ixs
 (t 33) (t 35)),h 37 32 (.ar .neq (t 36) (u 62)),pt 38 32 37,m 28 38]) (Y [0,2,4,5,28])) (C 28 (Q (O [la 39 3 5,n (.st 3 (t 2) (t 39)),mc 3 F]) R) (Q (Q (O [m 41 0,o 42
 (.ixs (t 41) (i 1)),ac 43 .eql 42 (u 47),m 40 43]) (Y [0,2,4,5,40])) (C 40 (Q (O [fa 44 0 5,n (.st 1 (t 44) (u 3))]) (Q (O [m 45 0,m 46 4,ac 47 .sub 46 (i 1),o 48 (.sls (t
 45) (some (i 2)) (some (t 47))),fa 49 1 5,n (.st 1 (t 49) (t 48))]) (Y [0,2,5]))) (Q (Q (O [m 51 0,m 52 4,ac 53 .sub 52 (i 2),o 54 (.ixs (t 51) (t 53)),ac 55 .eql 54 (u 47),
 m 50 55]) (Y [0,2,4,5,50])) (C 50 (Q (O [fa 56 0 5,n (.st 1 (t 56) (u 4))]) (Q (O [m 57 0,m 58 4,ac 59 .sub 58 (i 2),o 60 (.sls (t 57) (some (i 1)) (some (t 59))),fa 61 1
 5,n (.st 1 (t 61) (t 60))]) (Y [0,2,5]))) X))))))))) (Q (Q (Q (O [fa 62 1 5,ld 63 62,lt 64 63,ac 65 .gtr 64 (i 0),m 66 65,g 67 66 (.fa 1 (t 5)),g 68 66 (.ld none (t 67)),g
 69 66 (.ixs (t 68) (i 0)),g 70 66 (.ar .eql (t 69) (u 43)),pf 71 66 70,m 72 71,g 73 72 (.fa 0 (t 5)),g 74 72 (.ld none (t 73)),g 75 72 (.ar .eql (t 74) (u 2)),g 76 72 (.mv (t
 75)),h 77 76 (.fa 0 (t 5)),h 78 76 (.ld none (t 77)),h 79 76 (.ar .eql (t 78) (u 3)),g 80 72 (.pk (t 76) T (t 79)),pf 81 72 80]) (Y [0,2,5,81])) (C 81 (Q (O [fa 82 2 5,n
 (.st 1 (t 82) T)]) (Q (O [fa 83 1 5,ld 84 83,o 85 (.sls (t 84) (some (i 1)) none),fa 86 1 5,n (.st 1 (t 86) (t 85))]) (Y [0,2,5]))) X)) (Q (Q (D [W (la 87 3 5),Pf 88 1 5,Wl
 89 88,K (k1 90 gD 89),Pm 91 90,W (g 92 91 (.ld (some 3) (t 5))),K (⟨(some 93),(some (91,true)),(.call (.c (.fn (.func dx) [] [])) [(.t
 92)])⟩),P (g 94 91 (.mv (t 0))),P (g 95 91 (.ar .eql (t 93) (t 94))),P (pf 96 91 95),E (n (.st 3 (t 2) (t 87))),Pm 3 96]) (Y [2,3])) R)))))))
def iT:AFn:=⟨aC,97,[.cell 2 (some 3),.t 3],.drop,[],none⟩
theorem aY:qf iT [.cell 2 (some 3),.t 3] .drop:=⟨rfl,rfl,rfl⟩
def di:AC:=
 (Q (Q (Q (O [m 25 4,m 26 3,ls 27 26,bl 28 25 27]) (Y [3,4,28])) (C 28 X (.exit 0))) (Q (.block 1 (Q (Q (O [m 31 3,m 32 4,ia 33 1 31 32,ld 34 33,o 35 (.bd [(.int .i32 0),
 (.bool false)] [(0,1),(1,1)] [(0,(t 34))]),k1 36 fh 35,no 37 36]) (Y [3,4,37])) (C 37 (rt 2 F) X))) (ic 29 4 30)))
def aU:AC:=
 (Q (O [mc 2 F]) (Q (O [m 5 0,o 6 (.cvsr (t 5)),m 3 6]) (Q (Q (Q (O [m 7 0,k1 8 gC 7,no 9 8,m 10 9,h 11 10 (.mv (t 3)),h 12 10 (.len .sl (t 11)),h 13 10
 (.ar .eql (t 12) (i 0)),pt 14 10 13]) (Y [3,14])) (C 14 (rt 2 F) X)) (Q (Q (Q (O [m 15 3,ls 16 15,ac 17 .eql 16 (i 1),m 18 17,g 19 18 (.mv (t 3)),g 20 18 (.ias 1 (t 19) (i
 0)),g 21 18 (.ld none (t 20)),g 22 18 (.bd [(.int .i32 0),(.bool false)] [(0,1),(1,1)] [(0,(t 21))]),⟨(some 23),(some (18,true)),(.call (.c (.fn (.func
 kj) [] [])) [(.t 22)])⟩,pf 24 18 23]) (Y [3,24])) (C 24 (rt 2 T) X)) (Q (Q (O [mc 4 (i 0)]) (Q (.block 0 (lo [3,4] di)) (Y []))) (rt 2
 T))))))
def fc:AFn:=⟨aU,38,[.t 2],.drop,[],none⟩
theorem bG:qf fc [.t 2] .drop:=⟨rfl,rfl,rfl⟩
def rA:AC:=
 (Q (O [mc 2 (.c (.int .i32 0)),mc 3 F]) (Q (Q (O [m 7 0,k1 8 bH 7,m 6 8,ex 9 6 0,ex 10 6 1,m 4 9,m 5 10]) (Y [0,4,5])) (Q (Q (O [m 11 4,m 12
 5,m 13 0,lt 14 13,ar 15 .eql 12 14,m 2 11,m 3 15]) (Y [2,3])) R)))
def oL:AFn:=⟨rA,16,[.t 2,.t 3],.drop,[],none⟩
theorem CI:qf oL [.t 2,.t 3] .drop:=⟨rfl,rfl,rfl⟩
def iU:AC:=
 (Q (O [mc 4 F]) (Q (Q (O [m 5 0,m 6 1,k2 7 kV 5 6,ac 8 .geq 7 (i 0),m 4 8]) (Y [4])) R))
def fp:AFn:=⟨iU,9,[.t 4],.drop,[],none⟩
theorem rB:qf fp [.t 4] .drop:=⟨rfl,rfl,rfl⟩
def oe:AC:=
 (Q (O [mc 2 F]) (Q (Q (O [m 3 0,o 4 (.bd [(.int .i32 0),(.bool false)] [(0,1),(1,1)] [(0,(t 3))]),k1 5 fA 4,no 6 5,m 2 6]) (Y [2])) R))
def lR:AFn:=⟨oe,7,[.t 2],.drop,[],none⟩
theorem xv:qf lR [.t 2] .drop:=⟨rfl,rfl,rfl⟩
def eN:AC:=
 (Q (Q (Q (O [m 33 8,m 34 0,lt 35 34,bl 36 33 35]) (Y [0,6,8,36])) (C 36 X (.exit 0))) (Q (.block 1 (Q (Q (O [m 39 0,m 40 8,o 41 (.ixs (t 39) (t 40)),k2 42
 fm 6 41]) (Y [0,6,8,42])) (C 42 (Q (O [m 43 8,m 4 43]) R) X))) (ic 37 8 38)))
def cX:AC:=
 (Q (O [o 46 (.nx (t 45)),ex 47 46 0]) (Q (C 47 X (.exit 2)) (.block 3 (Q (Q (O [ex 48 46 1,ex 49 46 2,m 9 48,m 10 49]) (Y [1,9,10,45])) (Q (Q (O [m 50 1,m 51 10,k2 52
 ie 50 51,ac 53 .geq 52 (i 0)]) (Y [1,9,45,53])) (C 53 (Q (O [m 54 9,m 4 54]) R) X))))))
def lX:AC:=
 (Q (O [mc 4 (i 0)]) (Q (Q (O [m 11 1,ac 12 .eql 11 (s [])]) (C 12 (rt 4 (i (-1))) X)) (Q (Q (O [m 13 1,lt 14 13,ac 15 .eql 14 (i 1)]) (C 15 (Q (Q (O [m 16 1,o 17 (.ixs (t 16) (i
 0)),o 18 (.cvi .i32 (t 17)),m 5 18]) (Y [0,5])) (Q (Q (O [m 19 5,o 20 (.ar .geq (t 19) (.c (.int .i32 128)))]) (C 20 (O [mc 5 (.c (.int .i32 65533))]) X)) (Q (Q (O [m 21 0,m 22
 5,k2 23 ie 21 22,m 4 23]) (Y [4])) R))) X)) (Q (Q (O [m 24 0,lt 25 24,k1 26 fk 25]) (C 26 (Q (Q (O [m 28 1,k1 29
 iN 28,m 27 29,ex 30 27 0,ex 31 27 1,o 6 (.nw (List.replicate 256 (.bool false)) dt),n (.st 256 (t 6) (t 30)),m 7 31]) (Y [0,1,6,7])) (Q
 (O [m 32 7]) (C 32 (Q (Q (O [mc 8 (i 0)]) (Q (.block 0 (lo [0,6,8] eN)) (Y []))) (rt 4 (i (-1)))) X))) X)) (Q (Q (O [m 44 0,o 45 (.rg (t 44))]) (Q (.block 2 (lo
 [1,45] cX)) (Y []))) (rt 4 (i (-1))))))))
def cY:AFn:=⟨lX,55,[.t 4],.drop,[],none⟩
theorem cu:qf cY [.t 4] .drop:=⟨rfl,rfl,rfl⟩
def k7:AC:=
 (Q (O [mc 4 F]) (Q (Q (O [m 5 0,m 6 1,k2 7 dL 5 6,m 4 7]) (Y [4])) R))
def ik:AFn:=⟨k7,8,[.t 4],.drop,[],none⟩
theorem tI:qf ik [.t 4] .drop:=⟨rfl,rfl,rfl⟩
def k8:AC:=
 (Q (O [mc 4 F]) (Q (Q (O [m 5 0,m 6 1,k2 7 dM 5 6,m 4 7]) (Y [4])) R))
def il:AFn:=⟨k8,8,[.t 4],.drop,[],none⟩
theorem tJ:qf il [.t 4] .drop:=⟨rfl,rfl,rfl⟩
def ej:AC:=
 (Q (O [mc 4 F]) (Q (Q (O [m 5 0,m 6 1,k2 7 eT 5 6,ac 8 .geq 7 (i 0),m 4 8]) (Y [4])) R))
def cP:AFn:=⟨ej,9,[.t 4],.drop,[],none⟩
theorem mU:qf cP [.t 4] .drop:=⟨rfl,rfl,rfl⟩
def eO:AC:=
 (Q (Q (Q (O [m 6 5,m 7 0,ls 8 7,bl 9 6 8]) (Y [0,1,5,9])) (C 9 X (.exit 0))) (Q (.block 1 (Q (Q (O [m 12 0,m 13 5,ia 14 1 12 13,ld 15 14,m 16 1,ar 17 .eql 15 16]) (Y [0,
 1,5,17])) (C 17 (rt 4 T) X))) (ic 10 5 11)))
def lY:AC:=
 (Q (O [mc 4 F]) (Q (Q (O [mc 5 (i 0)]) (Q (.block 0 (lo [0,1,5] eO)) (Y []))) (rt 4 F)))
def fJ:AFn:=⟨lY,18,[.t 4],.drop,[],none⟩
theorem lZ:qf fJ [.t 4] .drop:=⟨rfl,rfl,rfl⟩
def iV:AC:=
 (Q (O [o 1 (.bx eF (t 0)),mc 2 F]) (Q (Q (O [fa 3 1 1,ld 4 3,no 5 4,m 6 5,g 7 6 (.fa 0 (t 1)),g 8 6 (.ld none (t 7)),g 9 6 (.ar .geq (t 8) (.c (.int .i32
 65))),g 10 6 (.mv (t 9)),g 11 10 (.fa 0 (t 1)),g 12 10 (.ld none (t 11)),g 13 10 (.ar .leq (t 12) (.c (.int .i32 90))),g 14 6 (.pk (t 10) (t 13) F),g 15 6 (.mv (t 14)),h 16
 15 (.fa 0 (t 1)),h 17 15 (.ld none (t 16)),h 18 15 (.ar .geq (t 17) (.c (.int .i32 97))),h 19 15 (.mv (t 18)),g 20 19 (.fa 0 (t 1)),g 21 19 (.ld none (t 20)),g 22 19 (.ar .leq
 (t 21) (.c (.int .i32 122))),h 23 15 (.pk (t 19) (t 22) F),g 24 6 (.pk (t 15) T (t 23)),g 25 6 (.mv (t 24)),h 26 25 (.fa 0 (t 1)),h 27 25 (.ld none (t 26)),h 28 25 (.ar .gtr
 (t 27) (.c (.int .i32 127))),g 29 6 (.pk (t 25) T (t 28)),pf 30 6 29,m 2 30]) (Y [2])) R))
def iW:AFn:=⟨iV,31,[.t 2],.drop,[],none⟩
theorem rC:qf iW [.t 2] .drop:=⟨rfl,rfl,rfl⟩
def jL:AC:=
 (Q (O [o 1 (.bx eF (t 0)),mc 2 F]) (Q (Q (O [fa 3 1 1,ld 4 3,no 5 4,m 6 5,g 7 6 (.fa 0 (t 1)),g 8 6 (.ld none (t 7)),g 9 6 (.ar .geq (t 8) (.c (.int .i32
 48))),pf 10 6 9,m 11 10,g 12 11 (.fa 0 (t 1)),g 13 11 (.ld none (t 12)),g 14 11 (.ar .leq (t 13) (.c (.int .i32 57))),pf 15 11 14,m 2 15]) (Y [2])) R))
def jM:AFn:=⟨jL,16,[.t 2],.drop,[],none⟩
theorem rX:qf jM [.t 2] .drop:=⟨rfl,rfl,rfl⟩
def kz:AC:=
 (Q (O [o 1 (.bx eF (t 0)),mc 2 F]) (Q (Q (O [fa 3 1 1,ld 4 3,no 5 4,m 6 5,g 7 6 (.fa 0 (t 1)),g 8 6 (.ld none (t 7)),g 9 6 (.ar .neq (t 8) (.c (.int .i32
 32))),pf 10 6 9,m 11 10,g 12 11 (.ld (some 2) (t 1)),⟨(some 13),(some (11,true)),(.call (.c (.fn (.func fj) [] [])) [(.t 12)])⟩,g 14 11 (.un .not (t
 13)),pf 15 11 14,m 16 15,g 17 16 (.ld (some 2) (t 1)),⟨(some 18),(some (16,true)),(.call (.c (.fn (.func fR) [] [])) [(.t 17)])⟩,g 19 16 (.un .not (t
 18)),pf 20 16 19,m 2 20]) (Y [2])) R))
def kA:AFn:=⟨kz,21,[.t 2],.drop,[],none⟩
theorem s7:qf kA [.t 2] .drop:=⟨rfl,rfl,rfl⟩
def k9:AC:=
 (Q (O [mc 4 (i 0)]) (Q (Q (O [m 5 0,m 6 1,k 7 (f kW) [(t 5),(t 6),T],m 4 7]) (Y [4])) R))
def im:AFn:=⟨k9,8,[.t 4],.drop,[],none⟩
theorem tK:qf im [.t 4] .drop:=⟨rfl,rfl,rfl⟩
def m7:AC:=
 (Q (O [o 176 (.nx (t 175)),ex 177 176 0]) (Q (C 177 X (.exit 9)) (.block 10 (Q (Q (O [ex 178 176 1,ex 179 176 2,m 5 178,m 6 179]) (Y [5,6,175])) (Q (O [m 180 6,o 181 (.ar
 .eql (t 180) (.c (.int .i32 65533)))]) (C 181 (Q (O [m 182 5,m 4 182]) R) X))))))
def rY:AC:=
 (Q (Q (O [m 48 12,m 49 7,lt 50 49,bl 51 48 50]) (C 51 X (.exit 3))) (Q (.block 4 (Q (D [Pm 54 0,Pm 55 9,Pm 56 12,P (ar 57 .sub 55 56),P (o 58 (.ixs (t 54) (t 57))),Pm 59 7,
 Pm 60 8,Pm 61 12,P (ar 62 .sub 60 61),P (o 63 (.ixs (t 59) (t 62))),P (ar 64 .neq 58 63)]) (C 64 (.goto 0) X))) (ic 52 12 53)))
def rZ:AC:=
 (Q X (Q (ic 68 10 69) (Q (ic 70 9 71) (Q (O [mc 72 T,g 73 72 (.mv (t 10)),g 74 72 (.mv (t 9)),⟨(some 75),(some (72,true)),(.call (.c (.fn (.func fE) []
 [])) [(.t 74)])⟩,g 76 72 (.ar .gtr (t 73) (t 75)),pf 77 72 76,m 78 77,g 79 78 (.mv (t 9)),g 80 78 (.mv (t 0)),g 81 78 (.len .str (t 80)),g 82 78 (.ar .lss (t 79) (t 81)),pf
 83 78 82,m 84 83,h 85 84 (.mv F),g 86 85 (.mv (t 10)),g 87 85 (.mv (t 9)),g 88 85 (.sh .shr (t 87) (.c (.int .u64 4))),g 89 85 (.ar .add (i 4) (t 88)),g 90 85 (.ar .geq (t
 86) (t 89)),h 91 84 (.pk (t 85) (t 90) F),h 92 84 (.mv (t 91)),g 93 92 (.mv (t 9)),g 94 92 (.mv (t 0)),g 95 92 (.len .str (t 94)),g 96 92 (.ar .lss (t 93) (t 95)),h 97 84
 (.pk (t 92) (t 96) F),pt 98 84 97]) (C 98 (.goto 1) X)))))
def jN:AC:=
 (Q (Q (Q (O [m 23 9,m 24 0,lt 25 24,bl 26 23 25]) (Y [0,4,7,8,9,10,11,12,26,27,28,29,30,31,32,33,34,35,36,37,38,39,40,41,42,43,44,45,46,47,48,49,
 50,51,52,53,54,55,56,57,58,59,60,61,62,63,64,65,66,67,68,69,70,71,72,73,74,75,76,77,78,79,80,81,82,83,84,85,86,87,88,89,90,91,92,93,94,
 95,96,97,98])) (C 26 X (.exit 1))) (Q (.block 2 (.scope (Q (Q (D [Pm 27 0,Pm 28 9,P (o 29 (.ixs (t 27) (t 28))),Pm 30 7,Pm 31 8,P (o 32 (.ixs (t 30) (t 31))),P (ar 33 .neq
 29 32)]) (C 33 (Q (D [Pm 34 0,Pm 35 9,P (ad 36 35),P (o 37 (.sls (t 34) (some (t 36)) none)),Pm 38 7,Pm 39 8,P (o 40 (.ixs (t 38) (t 39))),E (k2 41 ig 37
 40),Pm 11 41]) (Q (Q (O [m 42 11,ac 43 .lss 42 (i 0)]) (C 43 (rt 4 (i (-1))) X)) (O [m 44 9,m 45 11,ad 46 45,ar 47 .add 44 46,m 9 47]))) X)) (Q (Q (O [mc 12 (i 1)]) (.block 3
 (.loop ⟨none,[],false⟩ rY))) (Q (Q (O [m 65 9,m 66 8,ar 67 .sub 65 66,m 4 67]) R) (Q (.lbl 0) (Q (ic 68 10 69) (Q (ic 70 9 71) (Q (O [mc 72 T,g 73 72 (.mv
 (t 10)),g 74 72 (.mv (t 9)),⟨(some 75),(some (72,true)),(.call (.c (.fn (.func fE) [] [])) [(.t 74)])⟩,g 76 72 (.ar .gtr (t 73) (t 75)),pf 77 72 76,m
 78 77,g 79 78 (.mv (t 9)),g 80 78 (.mv (t 0)),g 81 78 (.len .str (t 80)),g 82 78 (.ar .lss (t 79) (t 81)),pf 83 78 82,m 84 83,h 85 84 (.mv F),g 86 85 (.mv (t 10)),g 87 85
 (.mv (t 9)),g 88 85 (.sh .shr (t 87) (.c (.int .u64 4))),g 89 85 (.ar .add (i 4) (t 88)),g 90 85 (.ar .geq (t 86) (t 89)),h 91 84 (.pk (t 85) (t 90) F),h 92 84 (.mv (t 91)),g
 93 92 (.mv (t 9)),g 94 92 (.mv (t 0)),g 95 92 (.len .str (t 94)),g 96 92 (.ar .lss (t 93) (t 95)),h 97 84 (.pk (t 92) (t 96) F),pt 98 84 97]) (C 98 (.goto 1) X)))))))) (.tab 0
 rZ X))) (Y [0,4,7,8,9,10,11,12,27,28,29,30,31,32,33,34,35,36,37,38,39,40,41,42,43,44,45,46,47,48,49,50,51,52,53,54,55,56,57,
 58,59,60,61,62,63,64,65,66,67,68,69,70,71,72,73,74,75,76,77,78,79,80,81,82,83,84,85,86,87,88,89,90,91,92,93,94,95,96,97,98])))
def r3:AC:=
 (Q (Q (Q (O [m 140 16,m 141 7,lt 142 141,bl 143 140 142]) (Y [0,7,8,9,14,15,16,143])) (C 143 X (.exit 7))) (Q (.block 8 (Q (Q (D [Pm 146 0,Pm 147 9,Pm 148 16,P (ar 149
 .sub 147 148),P (o 150 (.ixs (t 146) (t 149))),Pm 151 7,Pm 152 8,Pm 153 16,P (ar 154 .sub 152 153),P (o 155 (.ixs (t 151) (t 154))),P (ar 156 .neq 150 155)]) (Y [0,7,8,9,
 14,15,16,156])) (C 156 (.exit 6) X))) (ic 144 16 145)))
def r4:AC:=
 (Q (Q (Q (O [m 121 9,m 122 0,lt 123 122,bl 124 121 123]) (Y [0,7,8,9,14,15,124])) (C 124 X (.exit 5))) (Q (Q (.block 6 (Q (Q (O [m 127 0,m 128 9,o 129 (.ixs (t 127) (t
 128)),m 130 14,ar 131 .eql 129 130,m 132 131,g 133 132 (.mv (t 0)),g 134 132 (.mv (t 9)),g 135 132 (.ar .sub (t 134) (i 1)),g 136 132 (.ixs (t 133) (t 135)),g 137 132 (.mv
 (t 15)),g 138 132 (.ar .eql (t 136) (t 137)),pf 139 132 138]) (Y [0,7,8,9,14,15,139])) (C 139 (Q (Q (O [mc 16 (i 2)]) (Q (.block 7 (lo [0,7,8,9,14,15,16]
 r3)) (Y [8,9]))) (Q (Q (O [m 157 9,m 158 8,ar 159 .sub 157 158,m 4 159]) (Y [4])) R)) X))) (Y [0,7,8,9,14,15])) (ic 125 9 126)))
def b5:AC:=
 (Q (O [mc 4 (i 0)]) (Q (.block 0 (Q (Q (O [m 161 1,o 162 (.ar .leq (.c (.int .i32 0)) (t 161)),m 163 162,g 164 163 (.mv (t 1)),g 165 163 (.ar .lss (t 164) (.c (.int .i32 128))),
 pf 166 163 165,m 160 166]) (Y [0,1,4,11,12,27,28,29,30,31,32,33,34,35,36,37,38,39,40,41,42,43,44,45,46,47,48,49,50,51,52,53,54,55,56,57,58,59,
 60,61,62,63,64,65,66,67,68,69,70,71,72,73,74,75,76,77,78,79,80,81,82,83,84,85,86,87,88,89,90,91,92,93,94,95,96,97,98,160])) (C 160 (Q (Q (O [m
 167 0,m 168 1,o 169 (.cvi .u8 (t 168)),k2 170 ig 167 169,m 4 170]) (Y [4])) R) (Q (O [m 172 1,o 173 (.ar .eql (t 172) (.c (.int .i32 65533))),m 171 173]) (C
 171 (Q (Q (O [m 174 0,o 175 (.rg (t 174))]) (Q (.block 9 (lo [175] m7)) (Y []))) (rt 4 (i (-1)))) (Q (Q (O [m 184 1,k1 185 gM 184,no 186
 185,m 183 186]) (Y [0,1,4,11,12,27,28,29,30,31,32,33,34,35,36,37,38,39,40,41,42,43,44,45,46,47,48,49,50,51,52,53,54,55,56,57,58,59,60,61,62,
 63,64,65,66,67,68,69,70,71,72,73,74,75,76,77,78,79,80,81,82,83,84,85,86,87,88,89,90,91,92,93,94,95,96,97,98,183])) (C 183 (rt 4 (i (-1))) (.scope
 (Q (O [m 17 1,o 18 (.cvs (t 17)),m 7 18]) (Q (Q (O [m 19 7,lt 20 19,ac 21 .sub 20 (i 1),m 8 21]) (Y [0,4,7,8,11,12,27,28,29,30,31,32,33,34,35,36,37,38,39,40,
 41,42,43,44,45,46,47,48,49,50,51,52,53,54,55,56,57,58,59,60,61,62,63,64,65,66,67,68,69,70,71,72,73,74,75,76,77,78,79,80,81,82,83,84,85,
 86,87,88,89,90,91,92,93,94,95,96,97,98])) (Q (O [m 22 8,m 9 22]) (Q (O [mc 10 (i 0)]) (Q (Q (.block 1 (lo [0,4,7,8,9,10,11,12,27,28,29,30,31,32,33,34,
 35,36,37,38,39,40,41,42,43,44,45,46,47,48,49,50,51,52,53,54,55,56,57,58,59,60,61,62,63,64,65,66,67,68,69,70,71,72,73,74,75,76,77,78,79,
 80,81,82,83,84,85,86,87,88,89,90,91,92,93,94,95,96,97,98] jN)) (Y [])) (Q (rt 4 (i (-1))) (Q (.lbl 1) (Q (.cond (.c (.bool true)) (Q (Q (O [m 99
 0,m 100 9,m 101 8,ar 102 .sub 100 101,o 103 (.sls (t 99) (some (t 102)) none),m 104 1,o 105 (.cvs (t 104)),k2 106 ez 103 105,m 13 106]) (Y [8,9,
 13])) (Q (O [m 107 13,ac 108 .geq 107 (i 0)]) (C 108 (Q (Q (O [m 109 9,m 110 13,ar 111 .add 109 110,m 112 8,ar 113 .sub 111 112,m 4 113]) (Y [4])) R) X))) (.scope (Q (Q (O [m
 114 7,m 115 8,o 116 (.ixs (t 114) (t 115)),m 14 116]) (Y [0,7,8,9,14])) (Q (Q (O [m 117 7,m 118 8,ac 119 .sub 118 (i 1),o 120 (.ixs (t 117) (t 119)),m 15 120]) (Y [0,7,
 8,9,14,15])) (Q (.lbl 2) (Q (.block 5 (lo [0,7,8,9,14,15] r4)) (Y []))))) X)) (rt 4 (i (-1))))))))))) X)))))))) (Y [])))
def iq:AFn:=⟨b5,187,[.t 4],.drop,[],none⟩
theorem ir:qf iq [.t 4] .drop:=⟨rfl,rfl,rfl⟩
def fq:AC:=
 (Q (O [mc 2 F]) (Q (O [m 3 0,ac 4 .gtr 3 (i 8),m 2 4]) R))
def dE:AFn:=⟨fq,5,[.t 2],.drop,[],none⟩
theorem oM:qf dE [.t 2] .drop:=⟨rfl,rfl,rfl⟩
def lL:AC:=
 (Q (Q (Q (O [m 6 4,m 7 0,lt 8 7,bl 9 6 8]) (Y [0,2,4,9])) (C 9 X (.exit 0))) (Q (.block 1 (Q (Q (O [m 12 0,m 13 4,o 14 (.ixs (t 12) (t 13)),m 5 14]) (Y [0,2,4,5])) (Q (Q
 (O [m 15 5,ac 16 .geq 15 (u 128)]) (C 16 (Q (O [la 17 256 2,n (.st 256 (t 2) (t 17)),mc 3 F]) R) X)) (O [m 18 5,o 19 (.iaa 256 1 (t 2) (t 18)),n (.st 1 (t 19) T)])))) (ic 10 4
 11)))
def iX:AC:=
 (Q (O [o 2 (.nw (List.replicate 256 (.bool false)) dt),mc 3 F]) (Q (Q (O [mc 4 (i 0)]) (Q (.block 0 (lo [0,2,4] lL)) (Y [2]))) (Q (O [la 20
 256 2,n (.st 256 (t 2) (t 20)),mc 3 T]) R)))
def ft:AFn:=⟨iX,21,[.cell 2 (some 256),.t 3],.drop,[],none⟩
theorem rD:qf ft [.cell 2 (some 256),.t 3] .drop:=⟨rfl,rfl,rfl⟩
def fv:AC:=
 (Q (O [mc 4 F]) (Q (Q (O [m 5 0,m 6 1,o 7 (.nc (t 5)),o 8 (.iaa 256 1 (t 7) (t 6)),ld 9 8,m 4 9]) (Y [4])) R))
def dF:AFn:=⟨fv,10,[.t 4],.drop,[],none⟩
theorem oN:qf dF [.t 4] .drop:=⟨rfl,rfl,rfl⟩
def dX:AC:=
 (Q (O [mc 4 F]) (Q (Q (O [m 5 0,lt 6 5,m 7 1,lt 8 7,ar 9 .geq 6 8,m 10 9,g 11 10 (.mv (t 0)),g 12 10 (.mv (t 1)),g 13 10 (.len .str (t 12)),g 14 10 (.sls (t 11) none (some
 (t 13))),g 15 10 (.mv (t 1)),g 16 10 (.ar .eql (t 14) (t 15)),pf 17 10 16,m 4 17]) (Y [4])) R))
def cL:AFn:=⟨dX,18,[.t 4],.drop,[],none⟩
theorem gH:qf cL [.t 4] .drop:=⟨rfl,rfl,rfl⟩
def dY:AC:=
 (Q (O [mc 4 F]) (Q (Q (O [m 5 0,lt 6 5,m 7 1,lt 8 7,ar 9 .geq 6 8,m 10 9,g 11 10 (.mv (t 0)),g 12 10 (.mv (t 0)),g 13 10 (.len .str (t 12)),g 14 10 (.mv (t 1)),g 15 10
 (.len .str (t 14)),g 16 10 (.ar .sub (t 13) (t 15)),g 17 10 (.sls (t 11) (some (t 16)) none),g 18 10 (.mv (t 1)),g 19 10 (.ar .eql (t 17) (t 18)),pf 20 10 19,m 4 20]) (Y [4]))
 R))
def cM:AFn:=⟨dY,21,[.t 4],.drop,[],none⟩
theorem gI:qf cM [.t 4] .drop:=⟨rfl,rfl,rfl⟩
def cg:AC:=
 (Q (O [bl 9 8 7]) (Q (C 9 X (.exit 0)) (Q (.block 1 (Q (O [m 10 8,m 5 10]) (Q (Q (O [m 11 1,m 12 0,m 13 5,ia 14 1 12 13,ld 15 14,ar 16 .eql 11 15]) (Y [0,1,5,7,8,16])) (C
 16 (Q (O [m 17 5,m 4 17]) R) X)))) (O [ad 18 8,m 8 18]))))
def eU:AC:=
 (Q (O [mc 4 (i 0)]) (Q (Q (O [m 6 0,ls 7 6,mc 8 (i 0)]) (Q (.block 0 (lo [0,1,7,8] cg)) (Y []))) (rt 4 (i (-1)))))
def bL:AFn:=⟨eU,19,[.t 4],.drop,[],none⟩
theorem eV:qf bL [.t 4] .drop:=⟨rfl,rfl,rfl⟩
def cH:AC:=
 (Q (O [o 11 (.nx (t 10)),ex 12 11 0]) (Q (C 12 X (.exit 0)) (.block 1 (Q (Q (O [ex 13 11 1,ex 14 11 2,m 7 13,m 8 14]) (Y [1,2,7,8,10])) (Q (Q (O [m 15 1,m 16 8,k 17 (t 15)
 [(t 16)],m 18 2,o 19 (.eq false .bool (t 17) (t 18))]) (Y [1,2,7,10,19])) (C 19 (Q (O [m 20 7,m 6 20]) R) X))))))
def fe:AC:=
 (Q (O [mc 6 (i 0)]) (Q (Q (O [m 9 0,o 10 (.rg (t 9))]) (Q (.block 0 (lo [1,2,10] cH)) (Y []))) (rt 6 (i (-1)))))
def ec:AFn:=⟨fe,21,[.t 6],.drop,[],none⟩
theorem ed:qf ec [.t 6] .drop:=⟨rfl,rfl,rfl⟩
def dZ:AC:=
 (Q (O [mc 4 (i 0)]) (Q (Q (O [m 5 0,m 6 1,k2 7 bu 5 6,m 4 7]) (Y [4])) R))
def cN:AFn:=⟨dZ,8,[.t 4],.drop,[],none⟩
theorem mO:qf cN [.t 4] .drop:=⟨rfl,rfl,rfl⟩
def po:AC:=
 (Q (O [mc 2 (i 0)]) (Q (Q (O [m 3 0,ac 4 .add 3 (i 16),ac 5 .quo 4 (i 8),m 2 5]) (Y [2])) R))
def kB:AFn:=⟨po,6,[.t 2],.drop,[],none⟩
def lf:AC:=
 (Q (O [mc 4 (i 0)]) (Q (Q (O [m 5 0,m 6 1,k2 7 bO 5 6,m 4 7]) (Y [4])) R))
def iu:AFn:=⟨lf,8,[.t 4],.drop,[],none⟩
theorem tL:qf iu [.t 4] .drop:=⟨rfl,rfl,rfl⟩
def gW:AC:=
 (Q (O [mc 2 F]) (Q (.block 0 (Q (Q (O [m 4 0,o 5 (.ar .leq (.c (.int .i32 0)) (t 4)),m 6 5,g 7 6 (.mv (t 0)),g 8 6 (.ar .lss (t 7) (.c (.int .i32 55296))),pf 9 6 8,m 3 9]) (Y
 [0,3])) (C 3 (rt 2 T) (Q (Q (O [m 11 0,o 12 (.ar .lss (.c (.int .i32 57343)) (t 11)),m 13 12,g 14 13 (.mv (t 0)),g 15 13 (.ar .leq (t 14) (.c (.int .i32 1114111))),pf 16 13
 15,m 10 16]) (Y [10])) (C 10 (rt 2 T) X))))) (rt 2 F)))
def eC:AFn:=⟨gW,17,[.t 2],.drop,[],none⟩
theorem lM:qf eC [.t 2] .drop:=⟨rfl,rfl,rfl⟩
end Go.Am
end
section
set_option maxRecDepth 100000
namespace Go.Am
open Go.RowKit Sh
def rE:AC:=
 (Q (O [mc 0 F]) (Q (O [k 15 (f DW) [(s [97,32,92,60,98,62,32,60,98,62,120,60,47,98,62,123,110,125])],m 14 15,ex 16 14 0,ex 17 14 1,m 1 16,m 2 17]) (Q
 (O [k 18 (f aZ) [(s [97,32,60,98,62,32])],k 19 (f dv) [(s [98])],k 20 (f aZ) [(s [120])],k 21 (f dw)
 [(s [98])],o 22 (.bd [(.int .u8 0),(.str []),(.bool false)] [(0,1),(1,1),(2,1)] [(0,(u 5)),(1,(s [110]))]),o 23 (.bs 3 [(.int .u8 0),(.str []),(.bool false)] 5 [(0,(t
 18)),(1,(t 19)),(2,(t 20)),(3,(t 21)),(4,(t 22))]),m 3 23]) (Q (O [o 25 (.bd [(.str []),(.str []),(.bool false)] [(0,1),(1,1),(2,1)] [(0,(s [37,98,68,114,46,
 37,115]))]),o 26 (.bd [(.str []),(.str []),(.bool false)] [(0,1),(1,1),(2,1)] [(0,(s [37,112,37,115])),(1,(s [37,117])),(2,T)]),o 27 (.bs 3 [(.str []),(.str []),
 (.bool false)] 2 [(0,(t 25)),(1,(t 26))]),k 28 (f aZ) [(s [68,114,46,32,65,32,105,115,32,105,110,46,32,71,111])],o 29 (.bs 3 [(.int .u8 0),
 (.str []),(.bool false)] 1 [(0,(t 28))]),k2 30 AE 27 29,m 24 30,ex 31 24 0,ex 32 24 1,m 4 31,m 5 32]) (Q (O [k 34 (f dv) [(s [98])],k 35 (f
 aZ) [(s [79,110,101,46,32,84,119,111])],k 36 (f dw) [(s [98])],o 37 (.bs 3 [(.int .u8 0),(.str []),(.bool false)] 3 [(0,(t 34)),(1,
 (t 35)),(2,(t 36))]),o 38 (.bs 1 [(.int .i64 0)] 1 [(0,(i 5))]),k2 39 Fi 37 38,m 33 39,ex 40 33 0,ex 41 33 1,m 6 40,m 7 41]) (Q (O [k 43 (f aZ)
 [(s [72,105,44,32])],k 44 (f dv) [(s [98])],k 45 (f aZ) [(s [121,111,117])],k 46 (f dw) [(s [98])],k 47 (f
 aZ) [(s [33])],o 48 (.bs 3 [(.int .u8 0),(.str []),(.bool false)] 5 [(0,(t 43)),(1,(t 44)),(2,(t 45)),(3,(t 46)),(4,(t 47))]),k1 49 mJ 48,m
 42 49,ex 50 42 0,ex 51 42 1,m 8 50,m 9 51]) (Q (O [k 53 (f dv) [(s [98])],k 54 (f aZ) [(s [114,101,100])],k 55 (f dw)
 [(s [98])],k 56 (f aZ) [(s [32,104,111,117,115,101])],o 57 (.bs 3 [(.int .u8 0),(.str []),(.bool false)] 4 [(0,(t 53)),(1,(t 54)),(2,(t 55)),(3,(t
 56))]),o 58 (.bs 1 [(.str [])] 2 [(0,(s [99,97,115,97])),(1,(s [114,111,106,97]))]),o 59 (.bd [(.int .i64 0),(.int .i64 0)] [(0,1),(1,1)] [(0,(i 0)),(1,(i 1))]),o
 60 (.bd [(.int .i64 0),(.int .i64 0)] [(0,1),(1,1)] [(0,(i 1)),(1,(i 0))]),o 61 (.bs 2 [(.int .i64 0),(.int .i64 0)] 2 [(0,(t 59)),(1,(t 60))]),k 62 (f zi)
 [(t 57),(t 58),(t 61)],m 52 62,ex 63 52 0,ex 64 52 1,m 10 63,m 11 64]) (Q (Q (O [m 65 2,ac 66 .neq 65 (u 0),m 67 66,h 68 67 (.mv (t 5)),h 69 67 (.ar .neq (t 68) (u 0)),
 pt 70 67 69,m 71 70,h 72 71 (.mv (t 7)),h 73 71 (.ar .neq (t 72) (u 0)),pt 74 71 73,m 75 74,h 76 75 (.mv (t 9)),h 77 75 (.ar .neq (t 76) (u 0)),pt 78 75 77,m 79 78,h 80 79
 (.mv (t 11)),h 81 79 (.ar .neq (t 80) (u 0)),pt 82 79 81,m 83 82,h 84 83 (.mv (t 4)),h 85 83 (.len .sl (t 84)),h 86 83 (.ar .neq (t 85) (i 1)),pt 87 83 86,m 88 87,h 89 88
 (.mv (t 4)),h 90 88 (.ias 1 (t 89) (i 0)),h 91 88 (.ld none (t 90)),h 92 88 (.ar .neq (t 91) (i 13)),pt 93 88 92,m 94 93,h 95 94 (.mv (t 6)),h 96 94 (.len .sl (t 95)),h 97
 94 (.ar .neq (t 96) (i 2)),pt 98 94 97]) (C 98 (rt 0 F) X)) (Q (O [o 99 (.bd [(.int .u8 0),(.str []),(.bool false)] [(0,1),(1,1),(2,1)] [(0,(u 3)),(1,(s [98])),(2,T)]),
 o 12 (.nw [(.int .u8 0),(.str []),(.bool false)] ae),n (.st 3 (t 12) (t 99))]) (Q (O [o 100 (.bd [(.int .u8 0),(.str []),(.bool false)] [(0,1),(1,1),(2,1)] [(0,
 (u 2)),(1,(s [98])),(2,T)]),o 13 (.nw [(.int .u8 0),(.str []),(.bool false)] ae),n (.st 3 (t 13) (t 100))]) (Q (D [Pm 101 1,Pm 102 3,K (k2 103
 bt 101 102),Pm 104 103,P (g 105 104 (.mv (t 6))),P (g 106 104 (.ias 1 (t 105) (i 0))),W (g 107 104 (.ld none (t 106))),W (g 110 104 (.ld (some 3) (t
 12))),K (⟨(some 108),(some (104,true)),(.call (.c (.fn (.func dv) [] [])) [(.c (.str [98]))])⟩),K (⟨(some 109),(some (104,true)),(.call (.c (.fn (.func
 aZ) [] [])) [(.c (.str [79,110,101,46,32]))])⟩),P (g 111 104 (.bs 3 [(.int .u8 0),(.str []),(.bool false)] 3 [(0,(t 108)),(1,(t 109)),(2,(t 110))])),K
 (⟨(some 112),(some (104,true)),(.call (.c (.fn (.func bt) [] [])) [(.t 107),(.t 111)])⟩),P (pf 113 104 112),Pm 114 113,P (g 115 114 (.mv (t 6))),P (g
 116 114 (.ias 1 (t 115) (i 1))),W (g 117 114 (.ld none (t 116))),W (g 118 114 (.ld (some 3) (t 13))),K (⟨(some 119),(some (114,true)),(.call (.c (.fn (.func
 aZ) [] [])) [(.c (.str [84,119,111]))])⟩),K (⟨(some 120),(some (114,true)),(.call (.c (.fn (.func dw) [] [])) [(.c (.str [98]))])⟩),P (g
 121 114 (.bs 3 [(.int .u8 0),(.str []),(.bool false)] 3 [(0,(t 118)),(1,(t 119)),(2,(t 120))])),K (⟨(some 122),(some (114,true)),(.call (.c (.fn (.func
 bt) [] [])) [(.t 117),(.t 121)])⟩),P (pf 123 114 122),Pm 124 123,P (g 125 124 (.mv (t 8))),P (g 126 124 (.bs 1 [(.str [])] 6 [(0,(s [72,105])),(1,(s
 [44])),(2,(s [60,98,62])),(3,(s [121,111,117])),(4,(s [60,47,98,62])),(5,(s [33]))])),K (⟨(some 127),(some (124,true)),(.call (.c (.fn (.func
 du) [] [])) [(.t 125),(.t 126)])⟩),P (pf 128 124 127),Pm 129 128,P (g 130 129 (.mv (t 10))),K (⟨(some 131),(some (129,true)),(.call (.c (.fn (.func
 aZ) [] [])) [(.c (.str [99,97,115,97,32]))])⟩),K (⟨(some 132),(some (129,true)),(.call (.c (.fn (.func dv) [] [])) [(.c (.str [98]))])⟩),
 K (⟨(some 133),(some (129,true)),(.call (.c (.fn (.func aZ) [] [])) [(.c (.str [114,111,106,97]))])⟩),K (⟨(some 134),(some (129,true)),(.call (.c (.fn
 (.func dw) [] [])) [(.c (.str [98]))])⟩),P (g 135 129 (.bs 3 [(.int .u8 0),(.str []),(.bool false)] 4 [(0,(t 131)),(1,(t 132)),(2,(t 133)),(3,(t
 134))])),K (⟨(some 136),(some (129,true)),(.call (.c (.fn (.func bt) [] [])) [(.t 130),(.t 135)])⟩),P (pf 137 129 136),Pm 0 137]) R)))))))))))
def rF:AFn:=⟨rE,138,[.t 0],.keep,[],none⟩
def vm:AC:=
 (Q (O [bl 50 49 48]) (Q (C 50 X (.exit 0)) (Q (.block 1 (Q (O [ia 51 2 47 49,la 52 2 51,o 13 (.nw [(.int .i64 0),(.int .i64 0)] Bz),n (.st 2 (t 13) (t 52))]) (Q (O [fa 53
 0 13,ld 54 53,ac 55 .lss 54 (i 0),m 56 55,h 57 56 (.fa 0 (t 13)),h 58 56 (.ld none (t 57)),h 59 56 (.mv (t 11)),h 60 56 (.ar .geq (t 58) (t 59)),pt 61 56 60,m 62 61,h 63
 62 (.fa 1 (t 13)),h 64 62 (.ld none (t 63)),h 65 62 (.ar .lss (t 64) (i 0)),pt 66 62 65,m 67 66,h 68 67 (.fa 1 (t 13)),h 69 67 (.ld none (t 68)),h 70 67 (.mv (t 1)),h 71 67
 (.len .sl (t 70)),h 72 67 (.ar .geq (t 69) (t 71)),pt 73 67 72]) (C 73 (Q (O [mc 6 (.c (.slice .nil 3 [])),mc 7 (u 1)]) R) X)))) (O [ad 74 49,m 49 74]))))
def vn:AC:=
 (Q (O [bl 89 88 87]) (Q (C 89 X (.exit 2)) (Q (.block 3 (Q (O [ia 90 1 86 88,ld 91 90,m 18 91]) (Q (O [m 93 18,k1 94 gz 93,m 92 94,ex 95 92 0,ex 96 92 1,o 19 (.nw
 [(.int .u8 0),(.str []),(.bool false)] ae),n (.st 3 (t 19) (t 95)),m 20 96]) (Q (Q (O [m 97 20,no 98 97]) (C 98 (O [o 99 (.bd [(.int .u8 0),(.str []),(.bool false)]
 [(0,1),(1,1),(2,1)] [(0,(u 5))]),n (.st 3 (t 19) (t 99))]) X)) (Q (O [la 100 3 19,k2 101 gA 16 100,no 102 101]) (C 102 (Q (O [mc 6 (.c (.slice .nil 3
 [])),mc 7 (u 8)]) R) X)))))) (O [ad 103 88,m 88 103]))))
def xw:AC:=
 (Q (O [mc 6 (.c (.slice .nil 3 [])),mc 7 (u 0)]) (Q (Q (O [m 22 1,k1 23 gy 22,m 8 23]) (Q (O [m 24 8,ac 25 .neq 24 (u 0)]) (C 25 (Q (O [m 26 8,mc 6 (.c (.slice
 .nil 3 [])),m 7 26]) R) X))) (Q (Q (O [m 27 1,k1 28 nS 27,ls 29 28,m 30 1,ls 31 30,bl 32 29 31]) (C 32 (Q (O [mc 6 (.c (.slice .nil 3 [])),mc 7 (u 1)]) R) X)) (Q (O
 [m 34 0,k1 35 mJ 34,m 33 35,ex 36 33 0,ex 37 33 1,m 9 36,m 10 37]) (Q (Q (O [m 38 10,ac 39 .neq 38 (u 0)]) (C 39 (Q (O [m 40 10,mc 6 (.c (.slice .nil 3 [])),m 7
 40]) R) X)) (Q (Q (O [m 41 2,ls 42 41,ac 43 .gtr 42 (i 2048)]) (C 43 (Q (O [mc 6 (.c (.slice .nil 3 [])),mc 7 (u 3)]) R) X)) (Q (O [m 44 9,k1 45 nS 44,ls 46 45,m 11
 46]) (Q (Q (O [m 47 2,ls 48 47,mc 49 (i 0)]) (.block 0 (.loop ⟨none,[],false⟩ vm))) (Q (O [m 75 9,k1 76 xq 75,m 14 76]) (Q (Q (O [m 77 14,m 78 2,
 k 79 (f vi) [(t 77),(t 78),(.c .nilp)],no 80 79]) (C 80 (Q (O [mc 6 (.c (.slice .nil 3 [])),mc 7 (u 10)]) R) X)) (Q (O [m 81 14,m 82 1,m 83 1,ls 84 83,k 85 (f
 zj) [(t 81),(t 82),(i 0),(t 84)],m 15 85]) (Q (O [o 16 (.nw [(.bool false),(.bool false)] b7)]) (Q (Q (O [m 86 15,ls 87 86,mc 88 (i 0)]) (.block 2 (.loop
 ⟨none,[],false⟩ vn))) (Q (Q (O [m 104 15,ls 105 104,ac 106 .gtr 105 (i 512)]) (C 106 (Q (O [mc 6 (.c (.slice .nil 3 [])),mc 7 (u 3)]) R) X)) (Q (O [m 107 15,k1
 108 nE 107,m 21 108]) (Q (Q (O [m 109 21,ls 110 109,ac 111 .gtr 110 (i 512)]) (C 111 (Q (O [mc 6 (.c (.slice .nil 3 [])),mc 7 (u 3)]) R) X)) (Q (O [m 112 21,m 6 112,
 mc 7 (u 0)]) R)))))))))))))))))
def xx:AFn:=⟨xw,113,[.t 6,.t 7],.keep,[],none⟩
def oO:AFn:=b9.k
def AI:AFn:=bY.k
def r5:AFn:=dA.k
def uw:AFn:=eQ.k
def CJ:AFn:=l9.k
def zu:AC:=
 (Q X (Q (Q (O [m 76 7,k 77 (t 76) [],no 78 77]) (C 78 (Q (O [mc 2 (.c (.slice .nil 3 [])),mc 3 (u 4)]) R) X)) (Q (Q (O [ld 79 4,k1 80 bQ 79,m 11 80]) (Q (O [m
 81 11,ac 82 .neq 81 (u 0)]) (C 82 (Q (O [m 83 11,mc 2 (.c (.slice .nil 3 [])),m 3 83]) R) X))) (Q (O [ld 84 4,m 2 84,mc 3 (u 0)]) R))))
def zw:AC:=
 (Q X (Q (Q (O [m 16 6,m 17 0,lt 18 17,ar 19 .eql 16 18]) (C 19 (.goto 0) X)) (Q (Q (O [m 20 0,m 21 6,o 22 (.ixs (t 20) (t 21)),m 8 22]) (Q (O [m 23 8]) (.block 0 (Q (O [ac 29
 .eql 23 (u 92),m 28 29]) (C 28 (Q (Q (O [m 30 6,ad 31 30,m 32 0,lt 33 32,ar 34 .eql 31 33,m 35 34,h 36 35 (.mv (t 0)),h 37 35 (.mv (t 6)),h 38 35 (.ar .add (t 37) (i 1)),h
 39 35 (.mv (t 6)),h 40 35 (.ar .add (t 39) (i 2)),h 41 35 (.sls (t 36) (some (t 38)) (some (t 40))),⟨(some 42),(some (35,false)),(.call (.c (.fn (.func pb) []
 [])) [(.c (.str [92,60,123])),(.t 41)])⟩,h 43 35 (.un .not (t 42)),pt 44 35 43]) (C 44 (Q (O [mc 2 (.c (.slice .nil 3 [])),mc 3 (u 4)]) R) X)) (Q (O [m 45 0,m 46 6,ad 47 46,
 o 48 (.ixs (t 45) (t 47)),k2 49 dD 5 48]) (O [m 50 6,ac 51 .add 50 (i 2),m 6 51]))) (Q (Q (O [ac 53 .eql 23 (u 60),m 52 53]) (C 52 X (O [ac 54 .eql 23
 (u 123),m 52 54]))) (C 52 (Q (O [m 56 0,m 57 6,o 58 (.sls (t 56) (some (t 57)) none),k1 59 lH 58,m 55 59,ex 60 55 0,ex 61 55 1,o 9 (.nw [(.int .u8 0),(.str []),
 (.bool false)] ae),n (.st 3 (t 9) (t 60)),m 10 61]) (Q (Q (O [m 62 10,ac 63 .eql 62 (i 0),m 64 63,h 65 64 (.mv (t 7)),⟨(some 66),(some (64,false)),(.call (.t 65)
 [])⟩,h 67 64 (.un .not (t 66)),pt 68 64 67]) (C 68 (Q (O [mc 2 (.c (.slice .nil 3 [])),mc 3 (u 4)]) R) X)) (Q (O [ld 69 4,la 70 3 9,o 71 (.bs 3 [(.int .u8 0),(.str []),(.bool
 false)] 1 [(0,(t 70))]),o 72 (.ap false ae 3 32 false (t 69) (t 71)),n (.st 1 (t 4) (t 72))]) (O [m 73 6,m 74 10,ar 75 .add 73 74,m 6 75])))) (Q (O [m 24 8,k2 25
 dD 5 24]) (ic 26 6 27))))))))) (Q (.goto 1) (Q (.lbl 0) (Q (Q (O [m 76 7,k 77 (t 76) [],no 78 77]) (C 78 (Q (O [mc 2 (.c (.slice .nil 3 [])),mc 3 (u 4)])
 R) X)) (Q (Q (O [ld 79 4,k1 80 bQ 79,m 11 80]) (Q (O [m 81 11,ac 82 .neq 81 (u 0)]) (C 82 (Q (O [m 83 11,mc 2 (.c (.slice .nil 3 [])),m 3 83]) R) X))) (Q (O [ld
 84 4,m 2 84,mc 3 (u 0)]) R))))))))
def CL:AC:=
 (Q (O [mc 2 (.c (.slice .nil 3 [])),mc 3 (u 0)]) (.scope (Q (Q (O [m 12 0,lt 13 12,ac 14 .gtr 13 (i 65536)]) (C 14 (Q (O [mc 2 (.c (.slice .nil 3 [])),mc 3 (u 3)]) R) X)) (Q (O
 [o 4 (.nw [(.slice .nil 3 [])] ao)]) (Q (O [o 5 (.nwb [.nilp,(.slice .nil 1 [])] mL 1 rq)]) (Q (O [mc 6 (i 0)]) (Q (O [o 15 (.mf (.func
 AF) [] [(t 5),(t 4)]),m 7 15]) (Q (.lbl 1) (Q (Q (O [m 16 6,m 17 0,lt 18 17,ar 19 .eql 16 18]) (C 19 (.goto 0) X)) (Q (Q (O [m 20 0,m 21 6,o 22 (.ixs (t 20) (t
 21)),m 8 22]) (Q (O [m 23 8]) (.block 0 (Q (O [ac 29 .eql 23 (u 92),m 28 29]) (C 28 (Q (Q (O [m 30 6,ad 31 30,m 32 0,lt 33 32,ar 34 .eql 31 33,m 35 34,h 36 35 (.mv (t 0)),h
 37 35 (.mv (t 6)),h 38 35 (.ar .add (t 37) (i 1)),h 39 35 (.mv (t 6)),h 40 35 (.ar .add (t 39) (i 2)),h 41 35 (.sls (t 36) (some (t 38)) (some (t 40))),⟨(some 42),(some (35,
 false)),(.call (.c (.fn (.func pb) [] [])) [(.c (.str [92,60,123])),(.t 41)])⟩,h 43 35 (.un .not (t 42)),pt 44 35 43]) (C 44 (Q (O [mc 2 (.c (.slice .nil 3
 [])),mc 3 (u 4)]) R) X)) (Q (O [m 45 0,m 46 6,ad 47 46,o 48 (.ixs (t 45) (t 47)),k2 49 dD 5 48]) (O [m 50 6,ac 51 .add 50 (i 2),m 6 51]))) (Q (Q (O
 [ac 53 .eql 23 (u 60),m 52 53]) (C 52 X (O [ac 54 .eql 23 (u 123),m 52 54]))) (C 52 (Q (O [m 56 0,m 57 6,o 58 (.sls (t 56) (some (t 57)) none),k1 59 lH 58,m 55 59,
 ex 60 55 0,ex 61 55 1,o 9 (.nw [(.int .u8 0),(.str []),(.bool false)] ae),n (.st 3 (t 9) (t 60)),m 10 61]) (Q (Q (O [m 62 10,ac 63 .eql 62 (i 0),m 64 63,h 65 64
 (.mv (t 7)),⟨(some 66),(some (64,false)),(.call (.t 65) [])⟩,h 67 64 (.un .not (t 66)),pt 68 64 67]) (C 68 (Q (O [mc 2 (.c (.slice .nil 3 [])),mc 3 (u 4)]) R) X)) (Q (O [ld
 69 4,la 70 3 9,o 71 (.bs 3 [(.int .u8 0),(.str []),(.bool false)] 1 [(0,(t 70))]),o 72 (.ap false ae 3 32 false (t 69) (t 71)),n (.st 1 (t 4) (t 72))]) (O [m 73 6,m
 74 10,ar 75 .add 73 74,m 6 75])))) (Q (O [m 24 8,k2 25 dD 5 24]) (ic 26 6 27))))))))) (Q (.goto 1) (Q (.lbl 0) (Q (Q (O [m 76 7,k 77 (t 76) [],no 78
 77]) (C 78 (Q (O [mc 2 (.c (.slice .nil 3 [])),mc 3 (u 4)]) R) X)) (Q (Q (O [ld 79 4,k1 80 bQ 79,m 11 80]) (Q (O [m 81 11,ac 82 .neq 81 (u 0)]) (C 82 (Q (O [m 83
 11,mc 2 (.c (.slice .nil 3 [])),m 3 83]) R) X))) (Q (O [ld 84 4,m 2 84,mc 3 (u 0)]) R))))))))))))) (.tab 0 zu (.tab 1 zw X))))
def CM:AFn:=⟨CL,85,[.t 2,.t 3],.keep,[],none⟩
def r6:AC:=
 (Q (O [o 2 (.nw [(.int .u8 0),(.str []),(.bool false)] ae)]) (Q (O [m 3 0,o 4 (.bd [(.int .u8 0),(.str []),(.bool false)] [(0,1),(1,1),(2,1)] [(0,(u 1)),(1,(t
 3))]),n (.st 3 (t 2) (t 4))]) R))
def r7:AFn:=⟨r6,5,[.cell 2 (some 3)],.keep,[],none⟩
def r8:AC:=
 (Q (O [o 2 (.nw [(.int .u8 0),(.str []),(.bool false)] ae)]) (Q (O [m 3 0,o 4 (.bd [(.int .u8 0),(.str []),(.bool false)] [(0,1),(1,1),(2,1)] [(0,(u 2)),(1,(t
 3))]),n (.st 3 (t 2) (t 4))]) R))
def r9:AFn:=⟨r8,5,[.cell 2 (some 3)],.keep,[],none⟩
def sa:AC:=
 (Q (O [o 2 (.nw [(.int .u8 0),(.str []),(.bool false)] ae)]) (Q (O [m 3 0,o 4 (.bd [(.int .u8 0),(.str []),(.bool false)] [(0,1),(1,1),(2,1)] [(0,(u 3)),(1,(t
 3))]),n (.st 3 (t 2) (t 4))]) R))
def sb:AFn:=⟨sa,5,[.cell 2 (some 3)],.keep,[],none⟩
def zx:AC:=
 (Q (O [mc 4 (.c (.slice .nil 1 [])),mc 5 (u 0)]) (Q (O [m 10 0,k1 11 xr 10,m 9 11,ex 12 9 0,ex 13 9 1,m 6 12,m 7 13]) (Q (Q (O [m 14 7,ac 15 .neq 14 (u 0)]) (C
 15 (Q (O [m 16 7,mc 4 (.c (.slice .nil 1 [])),m 5 16]) R) X)) (Q (Q (O [m 17 1,k1 18 bQ 17,m 8 18]) (Q (O [m 19 8,ac 20 .neq 19 (u 0)]) (C 20 (Q (O [m 21 8,mc
 4 (.c (.slice .nil 1 [])),m 5 21]) R) X))) (Q (O [m 22 6,m 23 1,k2 24 AG 22 23,m 4 24,mc 5 (u 0)]) R)))))
def zy:AFn:=⟨zx,25,[.t 4,.t 5],.keep,[],none⟩
def AJ:AC:=
 (Q (O [bl 23 22 21]) (Q (C 23 X (.exit 0)) (Q (.block 1 (Q (O [m 24 22,ia 25 1 20 22,ld 26 25,m 8 24,m 9 26]) (Q (O [m 27 9,ac 28 .lss 27 (i 1),m 29 28,h 30 29 (.mv (t 9)),h
 31 29 (.mv (t 6)),h 32 29 (.ar .sub (t 31) (i 1)),h 33 29 (.ar .gtr (t 30) (t 32)),pt 34 29 33,m 35 34,h 36 35 (.mv (t 8)),h 37 35 (.ar .gtr (t 36) (i 0)),h 38 35 (.mv (t
 37)),g 39 38 (.mv (t 1)),g 40 38 (.mv (t 8)),g 41 38 (.ar .sub (t 40) (i 1)),g 42 38 (.ias 1 (t 39) (t 41)),g 43 38 (.ld none (t 42)),g 44 38 (.mv (t 9)),g 45 38 (.ar .geq (t
 43) (t 44)),h 46 35 (.pk (t 38) (t 45) F),pt 47 35 46]) (C 47 (Q (O [mc 4 (.c (.slice .nil 1 [])),mc 5 (u 1)]) R) X)))) (O [ad 48 22,m 22 48]))))
def DY:AC:=
 (Q (O [mc 4 (.c (.slice .nil 1 [])),mc 5 (u 0)]) (Q (O [m 13 0,k1 14 CA 13,m 12 14,ex 15 12 0,ex 16 12 1,m 6 15,m 7 16]) (Q (Q (O [m 17 7,ac 18 .neq 17 (u 0)]) (C
 18 (Q (O [m 19 7,mc 4 (.c (.slice .nil 1 [])),m 5 19]) R) X)) (Q (Q (O [m 20 1,ls 21 20,mc 22 (i 0)]) (.block 0 (.loop ⟨none,[],false⟩ AJ))) (Q (O [m 50 0,m 51 1,
 k2 52 Fj 50 51,m 49 52,ex 53 49 0,ex 54 49 1,m 10 53,m 11 54]) (Q (Q (O [m 55 11,no 56 55]) (C 56 (Q (O [mc 4 (.c (.slice .nil 1 [])),mc 5 (u 3)]) R) X)) (Q (O [m 57
 10,m 4 57,mc 5 (u 0)]) R)))))))
def DZ:AFn:=⟨DY,58,[.t 4,.t 5],.keep,[],none⟩
def ux:AC:=
 (Q (O [bl 20 19 18]) (Q (C 20 X (.exit 0)) (Q (.block 1 (Q (O [ia 21 1 17 19,ld 22 21,m 7 22]) (Q (O [m 24 7,k1 25 nh 24,m 23 25,ex 26 23 0,ex 27 23 1,o 8 (.nw [(.int
 .u8 0),(.str []),(.bool false)] ae),n (.st 3 (t 8) (t 26)),m 9 27]) (Q (O [fa 28 0 4,ld 29 28,fa 30 0 4,ld 31 30,ls 32 31,ac 33 .sub 32 (i 1),ia 34 1 29 33,ld 35
 34,m 10 35]) (.block 2 (Q (O [m 57 9,no 58 57,m 56 58]) (C 56 (ic 59 5 60) (Q (O [fa 62 0 8,ld 63 62,ac 64 .eql 63 (u 3),m 61 64]) (C 61 (Q (O [m 65 10,m 66 10,m 67 7,m 68
 5,o 69 (.nc (t 65)),fa 70 1 69,n (.st 1 (t 70) (t 67)),o 71 (.nc (t 66)),fa 72 3 71,n (.st 1 (t 72) (t 68))]) (O [m 73 10,k2 74 nT 4 73])) (Q (O [m
 36 7,m 37 5,m 38 5,o 39 (.bd [(.str []),(.str []),(.int .i64 0),(.int .i64 0),(.slice .nil 1 []),(.int .i64 0),(.int .i64 0)] [(0,1),(1,1),(2,1),(3,1),(4,1),(5,
 1),(6,1)] [(0,(t 36)),(2,(t 37)),(3,(t 38))]),o 40 (.bx sZ (t 39)),m 11 40]) (Q (O [m 41 10,m 42 10,o 43 (.nc (t 42)),fa 44 4 43,ld 45 44,m 46 11,o 47
 (.bs 1 [.nilp] 1 [(0,(t 46))]),o 48 (.ap false nj 1 8 false (t 45) (t 47)),o 49 (.nc (t 41)),fa 50 4 49,n (.st 1 (t 50) (t 48))]) (Q (O [fa 51 0 8,ld 52 51,ac
 53 .eql 52 (u 2)]) (C 53 (O [m 54 11,k2 55 ni 4 54]) X))))))))))))) (O [ad 75 19,m 19 75]))))
def we:AC:=
 (Q (O [mc 2 (.c (.slice .nil 1 []))]) (Q (O [o 12 (.bd [(.str []),(.str []),(.int .i64 0),(.int .i64 0),(.slice .nil 1 []),(.int .i64 0),(.int .i64 0)] [(0,1),(1,1),(2,
 1),(3,1),(4,1),(5,1),(6,1)] []),o 13 (.bx sZ (t 12)),m 3 13]) (Q (O [m 14 3,o 15 (.bs 1 [.nilp] 1 [(0,(t 14))]),o 16 (.bd [(.slice .nil 1 [])] [(0,1)] [(0,
 (t 15))]),o 4 (.nw [(.slice .nil 1 [])] oI),n (.st 1 (t 4) (t 16))]) (Q (O [mc 5 (i 0)]) (Q (Q (O [m 17 0,ls 18 17,mc 19 (i 0)]) (.block 0 (.loop ⟨none,
 [],false⟩ ux))) (Q (O [m 76 3,o 77 (.nc (t 76)),fa 78 4 77,ld 79 78,m 2 79]) R))))))
def wg:AFn:=⟨we,80,[.t 2],.keep,[],none⟩
def xy:AC:=
 (Q (O [bl 37 36 35]) (Q (C 37 X (.exit 2)) (Q (.block 3 (Q (O [ia 38 2 34 36,la 39 2 38,o 11 (.nw [(.int .i64 0),(.int .i64 0)] Bz),n (.st 2 (t 11) (t 39))]) (.block 4 (Q
 (D [Pf 41 0 11,Wl 42 41,Pm 43 8,P (o 44 (.nc (t 43))),Pf 45 2 44,Wl 46 45,P (ar 47 .geq 42 46),Pm 48 47,P (g 49 48 (.fa 0 (t 11))),W (g 50 48 (.ld none (t 49))),P (g 51 48
 (.mv (t 8))),P (g 52 48 (.nc (t 51))),P (g 53 48 (.fa 3 (t 52))),W (g 54 48 (.ld none (t 53))),P (g 55 48 (.ar .lss (t 50) (t 54))),P (pf 56 48 55),Pm 40 56]) (C 40 (Q (Q (D
 [Pm 57 8,P (o 58 (.nc (t 57))),Pf 59 5 58,Wl 60 59,P (ac 61 .lss 60 (i 0)),Pm 62 61,P (h 63 62 (.fa 1 (t 11))),W (h 64 62 (.ld none (t 63))),P (h 65 62 (.mv (t 8))),P (h 66
 62 (.nc (t 65))),P (h 67 62 (.fa 5 (t 66))),W (h 68 62 (.ld none (t 67))),P (h 69 62 (.ar .lss (t 64) (t 68))),P (pt 70 62 69)]) (C 70 (O [m 71 8,fa 72 1 11,ld 73 72,o 74
 (.nc (t 71)),fa 75 5 74,n (.st 1 (t 75) (t 73))]) X)) (D [Pm 76 8,Pm 77 8,P (o 78 (.nc (t 77))),Pf 79 6 78,Wl 80 79,Pf 81 1 11,Wl 82 81,P (ad 83 82),P (o 84 (.mx (t 80) (t
 83))),P (o 85 (.nc (t 76))),Pf 86 6 85,E (n (.st 1 (t 86) (t 84)))])) (Q (D [Pf 88 0 11,Wl 89 88,Pm 90 8,P (o 91 (.nc (t 90))),Pf 92 2 91,Wl 93 92,P (bl 94 89 93),Pm 87
 94]) (C 87 (O [m 95 9,fa 96 1 11,ld 97 96,ad 98 97,o 99 (.mx (t 95) (t 98)),m 9 99]) X))))))) (O [ad 100 36,m 36 100]))))
def xz:AC:=
 (Q (O [bl 25 24 23]) (Q (C 25 X (.exit 0)) (Q (.block 1 (Q (O [ia 26 1 22 24,ld 27 26,m 8 27]) (Q (O [m 28 8,m 29 8,o 30 (.nc (t 28)),fa 31 5 30,n (.st 1 (t 31) (i (-1))),o
 32 (.nc (t 29)),fa 33 6 32,n (.st 1 (t 33) (i (-1)))]) (Q (O [mc 9 (i 0)]) (Q (Q (O [m 34 1,ls 35 34,mc 36 (i 0)]) (.block 2 (.loop ⟨none,[],false⟩ xy))) (Q (O [m
 101 8,o 102 (.nc (t 101)),fa 103 5 102,ld 104 103,ac 105 .lss 104 (i 0)]) (C 105 (Q (Q (O [m 106 2,o 107 (.eq true .ptr (t 106) (.c .nilp))]) (C 107 (D [Pm 108 9,Pm 109 2,P
 (o 110 (.nc (t 109))),Pf 111 5 110,Wl 112 111,P (o 113 (.mx (t 108) (t 112))),Pm 114 2,P (o 115 (.nc (t 114))),Pf 116 6 115,Wl 117 116,P (o 118 (.mn (t 113) (t 117))),Pm 9
 118]) X)) (O [m 119 8,m 120 8,m 121 9,m 122 9,o 123 (.nc (t 119)),fa 124 5 123,n (.st 1 (t 124) (t 121)),o 125 (.nc (t 120)),fa 126 6 125,n (.st 1 (t 126) (t 122))]))
 X))))))) (O [ad 127 24,m 24 127]))))
def xA:AC:=
 (Q (O [bl 140 139 138]) (Q (C 140 X (.exit 7)) (Q (.block 8 (Q (O [ia 141 1 137 139,ld 142 141,m 15 142]) (Q (D [Pm 143 13,E (k1 144 cD 143),Pm 145 144,P (g
 146 145 (.mv (t 15))),E (⟨(some 147),(some (145,true)),(.call (.c (.fn (.func cD) [] [])) [(.t 146)])⟩),P (pf 148 145 147),Pm 149 148,P (g 150 149 (.mv (t
 13))),P (g 151 149 (.nc (t 150))),P (g 152 149 (.fa 5 (t 151))),W (g 153 149 (.ld none (t 152))),P (g 154 149 (.mv (t 15))),P (g 155 149 (.nc (t 154))),P (g 156 149 (.fa 6 (t
 155))),W (g 157 149 (.ld none (t 156))),P (g 158 149 (.ar .lss (t 153) (t 157))),P (pf 159 149 158),Pm 160 159,P (g 161 160 (.mv (t 15))),P (g 162 160 (.nc (t 161))),P (g 163
 160 (.fa 5 (t 162))),W (g 164 160 (.ld none (t 163))),P (g 165 160 (.mv (t 13))),P (g 166 160 (.nc (t 165))),P (g 167 160 (.fa 6 (t 166))),W (g 168 160 (.ld none (t 167))),P
 (g 169 160 (.ar .lss (t 164) (t 168))),P (pf 170 160 169)]) (C 170 (rt 6 F) X)))) (O [ad 171 139,m 139 171]))))
def xB:AC:=
 (Q (O [bl 131 130 129]) (Q (C 131 X (.exit 5)) (Q (.block 6 (Q (O [m 132 130,ia 133 1 128 130,ld 134 133,m 12 132,m 13 134]) (Q (O [m 135 0,m 136 12,o 137 (.sll 1 (t 135) none
 (some (t 136)) none),ls 138 137,mc 139 (i 0)]) (.block 7 (.loop ⟨none,[],false⟩ xA))))) (O [ad 172 130,m 130 172]))))
def xC:AC:=
 (Q (O [bl 182 181 180]) (Q (C 182 X (.exit 11)) (Q (.block 12 (Q (O [ia 183 1 179 181,ld 184 183,m 19 184]) (Q (D [Pm 185 17,E (k1 186 cD 185),P (no 187 186),
 Pm 188 187,P (g 189 188 (.mv (t 19))),E (⟨(some 190),(some (188,true)),(.call (.c (.fn (.func cD) [] [])) [(.t 189)])⟩),P (pf 191 188 190),Pm 192 191,P (g
 193 192 (.mv (t 19))),P (g 194 192 (.nc (t 193))),P (g 195 192 (.fa 5 (t 194))),W (g 196 192 (.ld none (t 195))),P (g 197 192 (.mv (t 17))),P (g 198 192 (.nc (t 197))),P (g
 199 192 (.fa 5 (t 198))),W (g 200 192 (.ld none (t 199))),P (g 201 192 (.ar .lss (t 196) (t 200))),P (pf 202 192 201),Pm 203 202,P (g 204 203 (.mv (t 17))),P (g 205 203 (.nc
 (t 204))),P (g 206 203 (.fa 5 (t 205))),W (g 207 203 (.ld none (t 206))),P (g 208 203 (.mv (t 19))),P (g 209 203 (.nc (t 208))),P (g 210 203 (.fa 6 (t 209))),W (g 211 203 (.ld
 none (t 210))),P (g 212 203 (.ar .lss (t 207) (t 211))),P (pf 213 203 212)]) (C 213 (D [Pm 214 17,Pm 215 17,Pm 216 19,P (o 217 (.nc (t 216))),Pf 218 6 217,Wl 219 218,Pm 220
 19,P (o 221 (.nc (t 220))),Pf 222 6 221,Wl 223 222,P (o 224 (.nc (t 214))),Pf 225 5 224,E (n (.st 1 (t 225) (t 219))),P (o 226 (.nc (t 215))),Pf 227 6 226,E (n (.st 1 (t
 227) (t 223)))]) X)))) (O [ad 228 181,m 181 228]))))
def xD:AC:=
 (Q (O [bl 176 175 174]) (Q (C 176 X (.exit 9)) (Q (.block 10 (Q (O [ia 177 1 173 175,ld 178 177,m 17 178]) (Q (O [m 179 0,ls 180 179,mc 181 (i 0)]) (.block 11 (.loop ⟨none,[],
 false⟩ xC))))) (O [ad 229 175,m 175 229]))))
def xE:AC:=
 (Q (O [bl 233 232 231]) (Q (C 233 X (.exit 13)) (Q (.block 14 (Q (O [ia 234 1 230 232,ld 235 234,m 21 235]) (Q (O [m 236 21,o 237 (.nc (t 236)),fa 238 4 237,ld 239 238,m 240
 1,m 241 21,k 242 (f vi) [(t 239),(t 240),(t 241)],no 243 242]) (C 243 (rt 6 F) X)))) (O [ad 244 232,m 232 244]))))
def AK:AC:=
 (Q (O [mc 6 F]) (Q (Q (O [m 22 0,ls 23 22,mc 24 (i 0)]) (.block 0 (.loop ⟨none,[],false⟩ xz))) (Q (Q (O [m 128 0,ls 129 128,mc 130 (i 0)]) (.block 5 (.loop ⟨none,
 [],false⟩ xB))) (Q (Q (O [m 173 0,ls 174 173,mc 175 (i 0)]) (.block 9 (.loop ⟨none,[],false⟩ xD))) (Q (Q (O [m 230 0,ls 231 230,mc 232 (i 0)])
 (.block 13 (.loop ⟨none,[],false⟩ xE))) (rt 6 T))))))
def AL:AFn:=⟨AK,245,[.t 6],.keep,[],none⟩
def AM:AC:=
 (Q (O [bl 20 19 18]) (Q (C 20 X (.exit 0)) (Q (.block 1 (Q (O [ia 21 1 17 19,ld 22 21,m 12 22]) (Q (O [m 23 10,m 24 1,m 25 2,m 26 12,o 27 (.nc (t 26)),fa 28 5 27,ld 29 28,o
 30 (.sll 1 (t 24) (some (t 25)) (some (t 29)) none),o 31 (.ap false ak 1 16 false (t 23) (t 30)),m 10 31]) (Q (O [m 32 10,m 33 12,o 34 (.nc (t 33)),fa 35 0 34,ld 36 35,
 o 37 (.bs 1 [(.str [])] 1 [(0,(t 36))]),o 38 (.ap false ak 1 16 false (t 32) (t 37)),m 10 38]) (Q (D [Pm 39 10,Pm 40 12,P (o 41 (.nc (t 40))),Pf 42 4 41,Wl 43 42,Pm 44
 1,Pm 45 12,P (o 46 (.nc (t 45))),Pf 47 5 46,Wl 48 47,Pm 49 12,P (o 50 (.nc (t 49))),Pf 51 6 50,Wl 52 51,E (k 53 (f zj) [(t 43),(t 44),(t 48),(t 52)]),E (o 54
 (.ap false ak 1 16 false (t 39) (t 53))),Pm 10 54]) (Q (Q (O [m 55 12,o 56 (.nc (t 55)),fa 57 1 56,ld 58 57,ac 59 .neq 58 (s [])]) (C 59 (O [m 60 10,m 61 12,o 62 (.nc
 (t 61)),fa 63 1 62,ld 64 63,o 65 (.bs 1 [(.str [])] 1 [(0,(t 64))]),o 66 (.ap false ak 1 16 false (t 60) (t 65)),m 10 66]) X)) (O [m 67 12,o 68 (.nc (t 67)),fa 69 6
 68,ld 70 69,m 2 70]))))))) (O [ad 71 19,m 19 71]))))
def D0:AC:=
 (Q (O [mc 8 (.c (.slice .nil 1 []))]) (Q (O [m 13 0,k1 14 jA 13,m 9 14]) (Q (O [m 15 9,k 16 (f
 fU) [(t 15),(f CB)]]) (Q (O [mc 10 (.c (.slice .nil 1 []))]) (Q (Q (O [m 17 9,ls 18 17,mc 19 (i 0)]) (.block 0 (.loop
 ⟨none,[],false⟩ AM))) (Q (O [m 72 10,m 73 1,m 74 2,m 75 3,o 76 (.sll 1 (t 73) (some (t 74)) (some (t 75)) none),o 77 (.ap false ak 1 16 false (t 72) (t 76)),
 m 8 77]) R))))))
def D1:AFn:=⟨D0,78,[.t 8],.keep,[],none⟩
def AN:AFn:=oJ.k
def sd:AFn:=gF.k
def wh:AC:=
 (Q (O [bl 23 22 21]) (Q (C 23 X (.exit 0)) (Q (.block 1 (Q (O [ia 24 1 20 22,ld 25 24,m 10 25]) (Q (Q (O [m 27 10,k1 28 nh 27,m 26 28,ex 29 26 0,ex 30 26 1,o 11 (.nw
 [(.int .u8 0),(.str []),(.bool false)] ae),n (.st 3 (t 11) (t 29)),m 12 30]) (Q (O [m 31 12]) (C 31 (Q (O [ld 32 4,la 33 3 11,o 34 (.bs 3 [(.int .u8 0),(.str []),
 (.bool false)] 1 [(0,(t 33))]),o 35 (.ap false ae 3 32 false (t 32) (t 34)),n (.st 1 (t 4) (t 35))]) (.exit 1)) X))) (Q (O [m 36 8,m 37 6,m 38 37,g 39 38 (.mv (t 5)),
 g 40 38 (.mv (t 10)),⟨(some 41),(some (38,true)),(.call (.c (.fn (.func nF) [] [])) [(.t 39),(.t 40)])⟩,pf 42 38 41,k 43 (t 36) [(t 42)]]) (Q (Q (O [m 45 10,k1 46
 gz 45,m 44 46,ex 47 44 0,ex 48 44 1,o 13 (.nw [(.int .u8 0),(.str []),(.bool false)] ae),n (.st 3 (t 13) (t 47)),m 14 48]) (Q (O [m 49 14]) (C 49 (O [ld
 50 3,la 51 3 13,k2 52 bp 50 51]) (O [ld 53 3,m 54 10,o 55 (.bd [(.int .u8 0),(.str []),(.bool false)] [(0,1),(1,1),(2,1)] [(0,(u 1)),(1,(t 54))]),k2 56
 bp 53 55])))) (O [m 57 10,m 5 57,mc 6 T])))))) (O [ad 58 22,m 22 58]))))
def zA:AC:=
 (Q (O [mc 2 (.c (.slice .nil 3 []))]) (Q (O [o 15 (.bm ao 1 [(.slice .nil 0 [])] 1 [(0,(.c (.slice .nil 3 [])))]),o 16 (.bd [(.slice .nil 1 []),(.slice .nil 1 []),
 (.int .i64 0),(.bool false),(.slice .nil 1 [])] [(0,1),(1,1),(2,1),(3,1),(4,1)] [(0,(t 15))]),o 17 (.bx gN (t 16)),o 3 (.nw [.nilp] lP),n (.st
 1 (t 3) (t 17))]) (Q (O [o 4 (.nw [(.slice .nil 3 [])] ao)]) (Q (O [mc 5 (s []),mc 6 F]) (Q (O [o 18 (.mf (.func gi) [] [(t 3)]),o 7 (.nw [.nilfn]
 CF),n (.st 1 (t 7) (t 18))]) (Q (O [o 19 (.mf (.func gj) [] [(t 4),(t 7),(t 3)]),m 8 19]) (Q (Q (O [m 20 0,ls 21 20,mc 22 (i 0)]) (.block 0 (.loop ⟨none,[],
 false⟩ wh))) (Q (O [m 59 8,k 60 (t 59) [F]]) (Q (O [ld 61 3,o 62 (.nc (t 61)),fa 63 0 62,ld 64 63,o 65 (.ias 1 (t 64) (i 0)),ld 66 65,m 2 66]) R)))))))))
def zB:AFn:=⟨zA,67,[.t 2],.keep,[1],none⟩
def tM:AFn:=eB.k
def xF:AC:=
 (Q (O [o 1 (.bx ae (t 0)),mc 2 (s [])]) (Q (O [mc 3 (s [])]) (Q (Q (O [fa 4 2 1,ld 5 4]) (C 5 (O [mc 3 (s [43])]) X)) (Q (Q (O [fa 6 0 1,ld 7 6]) (.block 0 (Q (O [ac 9
 .eql 7 (u 2),m 8 9]) (C 8 (Q (O [m 10 3,o 11 (.ar .add (s [60]) (t 10)),fa 12 1 1,ld 13 12,ar 14 .add 11 13,ac 15 .add 14 (s [62]),m 2 15]) R) (Q (O [ac 17 .eql 7 (u 3),m 16
 17]) (C 16 (Q (O [m 18 3,o 19 (.ar .add (s [60,47]) (t 18)),fa 20 1 1,ld 21 20,ar 22 .add 19 21,ac 23 .add 22 (s [62]),m 2 23]) R) (Q (O [ac 25 .eql 7 (u 4),m 24 25]) (C 24
 (Q (O [fa 26 1 1,ld 27 26,o 28 (.ar .add (s [60]) (t 27)),ac 29 .add 28 (s [47,62]),m 2 29]) R) (Q (O [ac 31 .eql 7 (u 5),m 30 31]) (C 30 (Q (O [fa 32 1 1,ld 33 32,o 34 (.ar
 .add (s [123]) (t 33)),ac 35 .add 34 (s [125]),m 2 35]) R) X)))))))))) (Q (D [P (o 36 (.bs 1 [(.str [])] 6 [(0,(s [92])),(1,(s [92,92])),(2,(s [60])),(3,(s [92,60])),(4,
 (s [123])),(5,(s [92,123]))])),Pf 38 1 1,Wl 39 38,K (k1 37 mY 36),K (k2 40 kg 37 39),Pm 2 40]) R)))))
def xG:AFn:=⟨xF,41,[.t 2],.keep,[],none⟩
def AO:AFn:=oK.k
def vo:AFn:=kO.k
def vp:AFn:=kP.k
def zC:AFn:=nH.k
def D2:AFn:=ry.k
def zD:AC:=
 (Q (O [mc 2 F]) (Q (O [k1 4 pZ 0,m 3 4]) (Q (O [k1 5 qH 0]) (Q (Q (O [m 6 3,ac 7 .neq 6 (s [])]) (C 7 (O [ld 8 1,m 9 3,o 10 (.bd
 [(.int .u8 0),(.str []),(.bool false)] [(0,1),(1,1),(2,1)] [(0,(u 1)),(1,(t 9))]),o 11 (.bs 3 [(.int .u8 0),(.str []),(.bool false)] 1 [(0,(t 10))]),o 12 (.ap false
 ae 3 32 false (t 8) (t 11)),n (.st 1 (t 1) (t 12))]) X)) (Q (O [m 13 3,k1 14 jr 13,m 2 14]) R)))))
def zE:AFn:=⟨zD,15,[.t 2],.keep,[],none⟩
def pA:AC:=
 (Q (O [mc 2 (s [])]) (Q (D [Pm 3 0,P (o 4 (.nc (t 3))),Pf 5 1 4,Wl 6 5,P (o 7 (.usl (t 6))),Pm 8 0,P (o 9 (.nc (t 8))),Pf 10 1 9,Wl 11 10,W (ls 12 11),E (o 13 (.ust
 rq (t 7) (t 12))),Pm 2 13]) R))
def pB:AFn:=⟨pA,14,[.t 2],.keep,[],none⟩
def qg:AC:=
 (Q (O [m 2 0,o 3 (.nc (t 2)),fa 4 0 3,n (.st 1 (t 4) (.c .nilp))]) (O [m 5 0,o 6 (.nc (t 5)),fa 7 1 6,n (.st 1 (t 7) (.c (.slice .nil 1 [])))]))
def qh:AFn:=⟨qg,8,[],.keep,[],none⟩
def zF:AFn:=ju.k
def tN:AC:=
 (Q (O [mc 4 F]) (Q (O [m 5 0,m 6 1,k2 7 xt 5 6,ac 8 .geq 7 (i 0),m 4 8]) R))
def tO:AFn:=⟨tN,9,[.t 4],.keep,[],none⟩
def og:AC:=
 (Q (O [mc 4 (.c .nilif)]) (Q (O [m 5 0,k1 6 oH 5]) (Q (O [m 7 0,m 8 0,o 9 (.nc (t 8)),fa 10 1 9,ld 11 10,m 12 1,o 13 (.bs 1 [(.int .u8 0)] 1 [(0,(t
 12))]),o 14 (.ap false rq 1 1 false (t 11) (t 13)),o 15 (.nc (t 7)),fa 16 1 15,n (.st 1 (t 16) (t 14))]) (Q (O [mc 4 (.c .nilif)]) R))))
def oh:AFn:=⟨og,17,[.t 4],.keep,[],none⟩
def zG:AFn:=nJ.k
def uy:AC:=
 (Q (O [bl 28 27 26]) (Q (C 28 X (.exit 2)) (Q (.block 3 (Q (O [m 29 27,ia 30 1 25 27,ld 31 30,m 8 29,m 9 31]) (Q (O [m 33 9,k1 34 CC 33,m 32 34,ex 35 32 0,ex 36 32
 1,m 10 35,m 11 36]) (Q (Q (O [m 37 11,no 38 37]) (C 38 (Q (O [mc 2 (.c (.slice .nil 3 [])),mc 3 (u 4)]) R) X)) (Q (Q (O [m 39 10,ls 40 39,ac 41 .gtr 40 (i 32)]) (C 41 (Q (O
 [mc 2 (.c (.slice .nil 3 [])),mc 3 (u 3)]) R) X)) (O [m 42 8,m 43 10,o 44 (.iaa 2 1 (t 7) (t 42)),n (.st 1 (t 44) (t 43))])))))) (O [ad 45 27,m 27 45]))))
def uz:AC:=
 (Q (O [bl 18 17 16]) (Q (C 18 X (.exit 0)) (Q (.block 1 (Q (O [ia 19 3 15 17,la 20 3 19,o 6 (.nw [(.str []),(.str []),(.bool false)] DX),n (.st 3 (t 6) (t 20))]) (Q (O
 [o 7 (.nw [(.slice .nil 1 []),(.slice .nil 1 [])] vW)]) (Q (Q (O [fa 21 0 6,ld 22 21,fa 23 1 6,ld 24 23,o 25 (.bs 1 [(.str [])] 2 [(0,(t 22)),(1,(t 24))]),ls
 26 25,mc 27 (i 0)]) (.block 2 (.loop ⟨none,[],false⟩ uy))) (O [m 46 4,o 47 (.iaa 2 1 (t 7) (i 0)),ld 48 47,o 49 (.iaa 2 1 (t 7) (i 1)),ld 50 49,fa 51 2 6,ld
 52 51,o 53 (.bd [(.slice .nil 1 []),(.slice .nil 1 []),(.bool false)] [(0,1),(1,1),(2,1)] [(0,(t 48)),(1,(t 50)),(2,(t 52))]),o 54 (.bs 3 [(.slice .nil 0 []),(.slice
 .nil 0 []),(.bool false)] 1 [(0,(t 53))]),o 55 (.ap false s4 3 56 false (t 46) (t 54)),m 4 55]))))) (O [ad 56 17,m 17 56]))))
def wi:AC:=
 (Q (O [mc 2 (.c (.slice .nil 3 [])),mc 3 (u 0)]) (Q (Q (O [m 12 0,ls 13 12,ac 14 .gtr 13 (i 64)]) (C 14 (Q (O [mc 2 (.c (.slice .nil 3 [])),mc 3 (u 3)]) R) X)) (Q (O [mc 4 (.c
 (.slice .nil 3 []))]) (Q (Q (O [m 15 0,ls 16 15,mc 17 (i 0)]) (.block 0 (.loop ⟨none,[],false⟩ uz))) (Q (O [m 57 4,m 2 57,mc 3 (u 0)]) R)))))
def wj:AFn:=⟨wi,58,[.t 2,.t 3],.keep,[],none⟩
def wk:AC:=
 (Q (O [bl 22 21 20]) (Q (C 22 X (.exit 2)) (Q (.block 3 (Q (O [ia 23 3 19 21,la 24 3 23,o 9 (.nw [(.slice .nil 1 []),(.slice .nil 1 []),(.bool false)] s4),n (.st 3 (t
 9) (t 24))]) (Q (Q (O [la 25 3 9,m 26 5,m 27 7,k 28 (f vV) [(t 25),(t 26),(t 27)],no 29 28]) (C 29 (.exit 3) X)) (Q (Q (O [fa 30 2 9,ld 31 30]) (C 31 (O [m 32
 6,m 33 7,o 34 (.bs 1 [(.int .i64 0)] 1 [(0,(t 33))]),o 35 (.ap false Nv 1 8 false (t 32) (t 34)),m 6 35]) X)) (.exit 2))))) (O [ad 36 21,m 21 36]))))
def wm:AC:=
 (Q (Q (O [m 13 7,m 14 5,ls 15 14,bl 16 13 15]) (C 16 X (.exit 0))) (Q (.block 1 (Q (O [m 19 0,ls 20 19,mc 21 (i 0)]) (.block 2 (.loop ⟨none,[],false⟩ wk)))) (ic
 17 7 18)))
def zH:AC:=
 (Q (O [mc 4 (.c (.slice .nil 1 []))]) (Q (O [m 10 1,k1 11 mK 10,k1 12 ki 11,m 5 12]) (Q (O [mc 6 (.c (.slice .nil 1 []))]) (Q (Q (O [mc 7 (i
 1)]) (.block 0 (.loop ⟨none,[],false⟩ wm))) (Q (O [m 37 6,m 4 37]) R)))))
def zI:AFn:=⟨zH,38,[.t 4],.keep,[],none⟩
def AP:AC:=
 (Q (O [mc 2 (i 0),mc 3 (u 0)]) (Q (Q (O [m 5 0,k1 6 bQ 5,m 4 6]) (Q (O [m 7 4,ac 8 .neq 7 (u 0)]) (C 8 (Q (O [m 9 4,mc 2 (i 0),m 3 9]) R) X))) (Q (O [m 10 0,
 k1 11 mK 10,k1 12 ki 11,ls 13 12,m 2 13,mc 3 (u 0)]) R)))
def AQ:AFn:=⟨AP,14,[.t 2,.t 3],.keep,[],none⟩
def AR:AC:=
 (Q (O [o 31 (.nx (t 30)),ex 32 31 0]) (Q (C 32 X (.exit 3)) (.block 4 (Q (O [ex 33 31 2,m 10 33]) (O [m 34 6,m 35 10,o 36 (.cvs (t 35)),o 37 (.bd [(.int .u8 0),(.str []),
 (.bool false)] [(0,1),(1,1),(2,1)] [(0,(u 1)),(1,(t 36))]),k2 38 pc 34 37])))))
def AS:AC:=
 (Q (O [bl 18 17 16]) (Q (C 18 X (.exit 0)) (Q (.block 1 (Q (O [ia 19 3 15 17,la 20 3 19,o 8 (.nw [(.int .u8 0),(.str []),(.bool false)] ae),n (.st 3 (t 8) (t 20))]) (Q
 (O [fa 21 0 8,ld 22 21]) (.block 2 (Q (O [ac 27 .eql 22 (u 1),m 26 27]) (C 26 (Q (O [fa 28 1 8,ld 29 28,o 30 (.rg (t 29))]) (.block 3 (.loop ⟨none,[],false⟩ AR)))
 (Q (O [ac 40 .eql 22 (u 5),m 39 40]) (C 39 (O [m 41 6,la 42 3 8,k2 43 pc 41 42]) (O [m 23 6,la 24 3 8,k2 25 vj 23 24]))))))))) (O [ad 44 17,m 17
 44]))))
def D3:AC:=
 (Q (O [mc 4 (.c (.slice .nil 1 [])),mc 5 F]) (Q (O [o 11 (.bm ao 1 [(.slice .nil 0 [])] 1 [(0,(.c (.slice .nil 3 [])))]),m 12 1,o 13 (.bd [(.slice .nil 1 []),
 (.slice .nil 1 []),(.int .i64 0),(.bool false),(.slice .nil 1 [])] [(0,1),(1,1),(2,1),(3,1),(4,1)] [(0,(t 11)),(1,(t 12))]),o 14 (.bx gN (t 13)),m 6 14])
 (Q (Q (O [m 15 0,ls 16 15,mc 17 (i 0)]) (.block 0 (.loop ⟨none,[],false⟩ AS))) (Q (D [Pm 45 6,P (o 46 (.nc (t 45))),Pf 47 0 46,Wl 48 47,Pm 49 6,P (o 50 (.nc (t
 49))),Pf 51 0 50,Wl 52 51,K (k 53 (f jb) [(t 52),(f CD)]),P (no 54 53),Pm 4 48,Pm 5 54]) R))))
def D4:AFn:=⟨D3,55,[.t 4,.t 5],.keep,[1],none⟩
def nv:AC:=
 (Q (O [mc 4 F]) (Q (O [m 6 0,o 7 (.nc (t 6)),fa 8 0 7,ld 9 8,ls 10 9,m 5 10]) (Q (Q (O [m 11 5,ac 12 .eql 11 (i 0),m 13 12,h 14 13 (.mv (t 0)),h 15 13 (.nc (t 14)),h 16 13
 (.fa 0 (t 15)),h 17 13 (.ld none (t 16)),h 18 13 (.mv (t 5)),h 19 13 (.ar .sub (t 18) (i 1)),h 20 13 (.ias 1 (t 17) (t 19)),h 21 13 (.ld none (t 20)),h 22 13 (.mv (t 1)),h 23
 13 (.eq true .ptr (t 21) (t 22)),pt 24 13 23]) (C 24 (rt 4 F) X)) (Q (O [m 25 0,m 26 0,o 27 (.nc (t 26)),fa 28 0 27,ld 29 28,m 30 5,ac 31 .sub 30 (i 1),o 32 (.sll 1 (t 29)
 none (some (t 31)) none),o 33 (.nc (t 25)),fa 34 0 33,n (.st 1 (t 34) (t 32))]) (rt 4 T)))))
def ny:AFn:=⟨nv,35,[.t 4],.keep,[],none⟩
def mV:AC:=
 (O [m 4 0,m 5 0,o 6 (.nc (t 5)),fa 7 0 6,ld 8 7,m 9 1,o 10 (.bs 1 [.nilp] 1 [(0,(t 9))]),o 11 (.ap false nj 1 8 false (t 8) (t 10)),o 12 (.nc (t 4)),fa 13 0
 12,n (.st 1 (t 13) (t 11))])
def mW:AFn:=⟨mV,14,[],.keep,[],none⟩
def s9:AC:=
 (Q (O [mc 2 F]) (Q (D [Pm 3 0,P (o 4 (.nc (t 3))),Pf 5 5 4,Wl 6 5,Pm 7 0,P (o 8 (.nc (t 7))),Pf 9 6 8,Wl 10 9,P (bl 11 6 10),Pm 2 11]) R))
def tc:AFn:=⟨s9,12,[.t 2],.keep,[],none⟩
def jf:AC:=
 (Q (O [mc 2 (.c (.slice .nil 1 []))]) (Q (Q (O [m 3 0,o 4 (.eq false .sl (t 3) (.c (.slice .nil 0 [])))]) (C 4 (Q (O [mc 2 (.c (.slice .nil 1 []))]) R) X)) (Q (O [o 5 (.bs 1
 [.nilp] 0 []),m 6 0,o 7 (.ap false nj 1 8 false (t 5) (t 6)),m 2 7]) R)))
def jg:AFn:=⟨jf,8,[.t 2],.keep,[],none⟩
def fK:AC:=
 (O [m 4 0,m 5 0,ls 6 5,m 7 1,k 8 (f lI) [(t 4),(t 6),(t 7)]])
def fL:AFn:=⟨fK,9,[],.keep,[],none⟩
def AT:AC:=
 (Q (O [mc 4 (i 0)]) (Q (Q (D [Pm 5 0,P (o 6 (.nc (t 5))),Pf 7 5 6,Wl 8 7,Pm 9 1,P (o 10 (.nc (t 9))),Pf 11 5 10,Wl 12 11,P (ar 13 .neq 8 12)]) (C 13 (Q (D [Pm 14 0,P (o 15
 (.nc (t 14))),Pf 16 5 15,Wl 17 16,Pm 18 1,P (o 19 (.nc (t 18))),Pf 20 5 19,Wl 21 20,P (ar 22 .sub 17 21),Pm 4 22]) R) X)) (Q (.block 0 (Q (O [m 24 0,k1 25
 cD 24,no 26 25,m 27 26,g 28 27 (.mv (t 1)),⟨(some 29),(some (27,true)),(.call (.c (.fn (.func cD) [] [])) [(.t 28)])⟩,pf 30 27 29,m 23
 30]) (C 23 (rt 4 (i (-1))) (Q (O [m 32 0,k1 33 cD 32,m 34 33,g 35 34 (.mv (t 1)),⟨(some 36),(some (34,true)),(.call (.c (.fn (.func cD) []
 [])) [(.t 35)])⟩,g 37 34 (.un .not (t 36)),pf 38 34 37,m 31 38]) (C 31 (rt 4 (i 1)) X))))) (rt 4 (i 0)))))
def AU:AFn:=⟨AT,39,[.t 4],.keep,[],none⟩
def wq:AFn:=lQ.k
def uA:AFn:=jV.k
def wt:AFn:=gl.k
def zJ:AFn:=nK.k
def zK:AFn:=jv.k
def qi:AFn:=eR.k
def pC:AC:=
 (O [m 4 0,m 5 0,o 6 (.nc (t 5)),fa 7 0 6,ld 8 7,m 9 1,o 10 (.bs 1 [(.str [])] 1 [(0,(t 9))]),o 11 (.ap false ak 1 16 false (t 8) (t 10)),o 12 (.nc (t 4)),fa 13 0 12,
 n (.st 1 (t 13) (t 11))])
def pD:AFn:=⟨pC,14,[],.keep,[],none⟩
def xH:AFn:=s6.k
def tP:AFn:=iQ.k
def uB:AFn:=jX.k
def uC:AFn:=jY.k
def AW:AFn:=oL.k
def qI:AFn:=fp.k
def wu:AFn:=lR.k
def l3:AC:=
 (Q (O [mc 2 (.c (.int .i32 0)),mc 3 (i 0)]) (Q (Q (O [m 4 0,ac 5 .neq 4 (s []),m 6 5,g 7 6 (.mv (t 0)),g 8 6 (.ixs (t 7) (i 0)),g 9 6 (.ar .lss (t 8) (u 128)),pf 10 6 9]) (C
 10 (Q (O [m 11 0,o 12 (.ixs (t 11) (i 0)),o 13 (.cvi .i32 (t 12)),m 2 13,mc 3 (i 1)]) R) (O [m 15 0,k1 16 kM 15,m 14 16,ex 17 14 0,ex 18
 14 1,m 2 17,m 3 18]))) R))
def l4:AFn:=⟨l3,19,[.t 2,.t 3],.keep,[],none⟩
def wv:AC:=
 (Q (O [mc 4 (i 0)]) (Q (O [m 5 0,m 6 1,k2 7 n9 5 6,m 4 7]) R))
def wx:AFn:=⟨wv,8,[.t 4],.keep,[],none⟩
def om:AC:=
 (Q (O [m 2 0,o 3 (.nc (t 2)),fa 4 0 3,ld 5 4,o 6 (.eq false .ptr (t 5) (.c .nilp))]) (C 6 (O [m 7 0,m 8 0,o 9 (.cvu (t 8)),k1 10 dy 9,o 11 (.cvf
 mL 2 (t 10)),o 12 (.nc (t 7)),fa 13 0 12,n (.st 1 (t 13) (t 11))]) (Q (O [m 14 0,o 15 (.nc (t 14)),fa 16 0 15,ld 17 16,m 18 0,o 19 (.eq true .ptr (t 17) (t
 18))]) (C 19 .bad X))))
def oq:AFn:=⟨om,20,[],.keep,[],none⟩
def tQ:AFn:=cY.k
def td:AFn:=ik.k
def te:AFn:=il.k
def xI:AC:=
 (Q (Q (O [m 14 6,m 15 5,ls 16 15,bl 17 14 16]) (C 17 X (.exit 0))) (Q (.block 1 (Q (O [m 20 5,m 21 6,ia 22 1 20 21,ld 23 22,o 7 (.nw [(.int .i32 0)] KU),n (.st 1 (t 7)
 (t 23))]) (Q (Q (O [ld 24 7,o 25 (.ar .neq (t 24) (.c (.int .i32 37)))]) (C 25 (Q (O [m 26 4,o 27 (.mf (.func zk) [] [(t 7)]),o 28 (.bd [.nilfn] [(0,1)] [(0,(t
 27))]),o 29 (.bs 1 [.nilfn] 1 [(0,(t 28))]),o 30 (.ap false pP 1 8 false (t 26) (t 29)),m 4 30]) (.exit 1)) X)) (Q (Q (ic 31 6 32) (Q (O [m 33 6,m 34 5,ls 35 34,ar
 36 .eql 33 35]) (C 36 (Q (O [mc 2 (.c (.slice .nil 1 [])),mc 3 F]) R) X))) (Q (O [o 37 (.bd [.nilfn] [(0,1)] []),o 8 (.nw [.nilfn] pP),n (.st 1 (t 8) (t 37))]) (Q (Q (O
 [m 38 5,m 39 6,ia 40 1 38 39,ld 41 40]) (.block 2 (Q (O [o 43 (.ar .eql (t 41) (.c (.int .i32 97))),m 42 43]) (C 42 (O [fa 44 0 8,n (.st 1 (t 44) (f fD))]) (Q
 (O [o 46 (.ar .eql (t 41) (.c (.int .i32 117))),m 45 46]) (C 45 (O [fa 47 0 8,n (.st 1 (t 47) (f zl))]) (Q (O [o 49 (.ar .eql (t 41) (.c (.int .i32 108))),m 48 49])
 (C 48 (O [fa 50 0 8,n (.st 1 (t 50) (f zm))]) (Q (O [o 52 (.ar .eql (t 41) (.c (.int .i32 100))),m 51 52]) (C 51 (O [fa 53 0 8,n (.st 1 (t 53) (f
 gB))]) (Q (O [o 55 (.ar .eql (t 41) (.c (.int .i32 115))),m 54 55]) (C 54 (O [fa 56 0 8,n (.st 1 (t 56) (f jU))]) (Q (O [o 58 (.ar .eql (t 41) (.c
 (.int .i32 112))),m 57 58]) (C 57 (O [fa 59 0 8,n (.st 1 (t 59) (f iv))]) (Q (O [o 61 (.ar .eql (t 41) (.c (.int .i32 104))),m 60 61]) (C 60 (O [fa 62 0 8,n (.st 1
 (t 62) (f zn))]) (Q (O [o 64 (.ar .eql (t 41) (.c (.int .i32 46))),m 63 64]) (C 63 (O [fa 65 0 8,n (.st 1 (t 65) (f zo))]) (Q (O [o 67 (.ar .eql (t 41) (.c
 (.int .i32 37))),m 66 67]) (C 66 (O [fa 68 0 8,n (.st 1 (t 68) (f zp))]) (Q (O [o 70 (.ar .eql (t 41) (.c (.int .i32 98))),m 69 70]) (C 69 X (Q (O [mc 2 (.c (.slice
 .nil 1 [])),mc 3 F]) R))))))))))))))))))))))) (O [m 71 4,la 72 1 8,o 73 (.bs 1 [.nilfn] 1 [(0,(t 72))]),o 74 (.ap false pP 1 8 false (t 71) (t 73)),m 4 74]))))))) (ic
 18 6 19)))
def AX:AC:=
 (Q (O [mc 2 (.c (.slice .nil 1 [])),mc 3 F]) (Q (Q (O [m 9 0,k1 10 jr 9,no 11 10]) (C 11 (Q (O [mc 2 (.c (.slice .nil 1 [])),mc 3 F]) R) X)) (Q (O [mc 4 (.c (.slice
 .nil 1 []))]) (Q (O [m 12 0,o 13 (.cvsr (t 12)),m 5 13]) (Q (Q (O [mc 6 (i 0)]) (.block 0 (.loop ⟨none,[],false⟩ xI))) (Q (O [m 75 4,m 2 75,mc 3 T]) R))))))
def AY:AFn:=⟨AX,76,[.t 2,.t 3],.keep,[],none⟩
def oP:AC:=
 (Q (O [mc 2 (.c (.slice .nil 2 []))]) (Q (O [m 3 0,k 4 (f km) [(.c (.slice .nil 2 [])),(t 3)],m 2 4]) R))
def oQ:AFn:=⟨oP,5,[.t 2],.keep,[],none⟩
def vq:AC:=
 (Q (O [o 3 (.bx s4 (t 0)),mc 6 F]) (Q (O [fa 7 0 3,ld 8 7,m 9 1,m 10 2,k 11 (f CE) [(t 8),(t 9),(t 10)],m 12 11,g 13 12 (.fa 1 (t 3)),g 14 12 (.ld none
 (t 13)),g 15 12 (.mv (t 1)),g 16 12 (.mv (t 2)),⟨(some 17),(some (12,true)),(.call (.c (.fn (.func AH) [] [])) [(.t 14),(.t 15),(.t 16)])⟩,pf 18 12 17,m 6 18])
 R))
def vr:AFn:=⟨vq,19,[.t 6],.keep,[],none⟩
def tR:AC:=
 (Q (O [o 3 (.bx ae (t 1))]) (Q (Q (O [m 4 0,o 5 (.nc (t 4)),fa 6 3 5,ld 7 6]) (C 7 (O [m 8 0,k1 9 pd 8]) X)) (Q (O [m 10 0,la 11 3 3,k2 12
 bp 10 11]) (Q (O [m 13 0,o 14 (.nc (t 13)),fa 15 2 14,ld 16 15,ad 17 16,o 18 (.nc (t 13)),fa 19 2 18,n (.st 1 (t 19) (t 17))]) (Q (D [Pm 20 0,P (o 21 (.nc (t
 20))),Pf 22 1 21,Wl 23 22,W (ls 24 23),P (ac 25 .gtr 24 (i 0)),Pm 26 25,P (g 27 26 (.mv (t 0))),P (g 28 26 (.nc (t 27))),P (g 29 26 (.fa 1 (t 28))),W (g 30 26 (.ld none (t
 29))),P (g 31 26 (.ias 1 (t 30) (i 0))),W (g 32 26 (.ld none (t 31))),P (g 33 26 (.mv (t 0))),P (g 34 26 (.nc (t 33))),P (g 35 26 (.fa 2 (t 34))),W (g 36 26 (.ld none (t
 35))),P (g 37 26 (.ar .eql (t 32) (t 36))),P (pf 38 26 37)]) (C 38 (Q (O [m 39 0,m 40 0,o 41 (.nc (t 40)),fa 42 1 41,ld 43 42,o 44 (.sll 1 (t 43) (some (i 1)) none none),o
 45 (.nc (t 39)),fa 46 1 45,n (.st 1 (t 46) (t 44))]) (O [m 47 0,o 48 (.nc (t 47)),fa 49 3 48,n (.st 1 (t 49) T)])) X))))))
def tS:AFn:=⟨tR,50,[],.keep,[],none⟩
def uD:AC:=
 (Q (O [o 3 (.bx ae (t 1))]) (Q (Q (O [m 4 0,o 5 (.nc (t 4)),fa 6 3 5,ld 7 6,m 8 7,g 9 8 (.fa 0 (t 3)),g 10 8 (.ld none (t 9)),g 11 8 (.ar .neq (t 10) (u 3)),pf 12 8
 11]) (C 12 (O [m 13 0,k1 14 pd 13]) X)) (Q (Q (O [fa 15 0 3,ld 16 15]) (.block 0 (Q (O [ac 18 .eql 16 (u 2),m 17 18]) (C 17 (D [Pm 19 0,Pm 20 0,P (o 21 (.nc (t
 20))),Pf 22 4 21,Wl 23 22,Pf 24 1 3,Wl 25 24,P (o 26 (.bs 1 [(.str [])] 1 [(0,(t 25))])),E (o 27 (.ap false ak 1 16 false (t 23) (t 26))),P (o 28 (.nc (t 19))),Pf 29
 4 28,E (n (.st 1 (t 29) (t 27)))]) (Q (O [ac 31 .eql 16 (u 3),m 30 31]) (C 30 (D [Pm 32 0,Pm 33 0,P (o 34 (.nc (t 33))),Pf 35 4 34,Wl 36 35,Pm 37 0,P (o 38 (.nc (t 37))),Pf
 39 4 38,Wl 40 39,W (ls 41 40),P (ac 42 .sub 41 (i 1)),P (o 43 (.sll 1 (t 36) none (some (t 42)) none)),P (o 44 (.nc (t 32))),Pf 45 4 44,E (n (.st 1 (t 45) (t 43)))]) X))))))
 (O [m 46 0,la 47 3 3,k2 48 bp 46 47]))))
def uE:AFn:=⟨uD,49,[],.keep,[],none⟩
def iY:AC:=
 (Q (O [mc 4 F]) (Q (O [m 5 0,m 6 1,k2 7 kn 5 6,ac 8 .geq 7 (i 0),m 4 8]) R))
def iZ:AFn:=⟨iY,9,[.t 4],.keep,[],none⟩
def AZ:AC:=
 (Q (O [mc 2 F]) (Q (O [m 3 0,ls 4 3,ac 5 .gtr 4 (i 512),m 2 5]) R))
def A1:AFn:=⟨AZ,6,[.t 2],.keep,[],none⟩
def kC:AC:=
 (Q (Q (O [m 11 8,m 12 1,ar 13 .leq 11 12]) (C 13 X (.exit 0))) (.block 1 (Q (O [m 14 0,m 15 7,m 16 8,m 17 2,k 18 (f dN) [(t 14),(t
 15),(t 16),(t 17)]]) (Q (O [m 19 8,m 7 19]) (O [m 20 8,m 21 6,ar 22 .add 20 21,m 8 22])))))
def kD:AC:=
 (Q (Q (O [m 33 8,m 34 1,ar 35 .leq 33 34]) (C 35 X (.exit 4))) (.block 5 (Q (O [m 36 0,m 37 7,m 38 7,m 39 6,ar 40 .add 38 39,m 41 8,m 42 2,k 43 (f
 bV) [(t 36),(t 37),(t 40),(t 41),(t 42)]]) (Q (O [m 44 8,m 7 44]) (O [m 45 8,m 46 6,o 47 (.ar .mul (i 2) (t 46)),ar 48 .add 45 47,m 8
 48])))))
def kE:AC:=
 (Q (Q (O [m 28 6,m 29 1,bl 30 28 29]) (C 30 X (.exit 2))) (.block 3 (Q (O [m 31 6,o 32 (.ar .mul (i 2) (t 31)),mc 7 (i 0),m 8 32]) (Q (.block 4 (.loop ⟨none,[],false⟩
 kD)) (Q (Q (O [m 49 7,m 50 6,ar 51 .add 49 50,m 9 51]) (Q (O [m 52 9,m 53 1,bl 54 52 53]) (C 54 (O [m 55 0,m 56 7,m 57 9,m 58 1,m 59 2,
 k 60 (f bV) [(t 55),(t 56),(t 57),(t 58),(t 59)]]) X))) (O [m 61 6,ac 62 .mul 61 (i 2),m 6 62]))))))
def lg:AC:=
 (Q (O [mc 6 (i 20)]) (Q (O [m 10 6,mc 7 (i 0),m 8 10]) (Q (.block 0 (.loop ⟨none,[],false⟩ kC)) (Q (O [m 23 0,m 24 7,m 25 1,m 26 2,k 27
 (f dN) [(t 23),(t 24),(t 25),(t 26)]]) (.block 2 (.loop ⟨none,[],false⟩ kE))))))
def lj:AFn:=⟨lg,63,[],.keep,[],none⟩
def mP:AFn:=cP.k
def tf:AFn:=im.k
def mX:AC:=
 (Q (Q (O [m 57 8,m 58 9,bl 59 57 58]) (C 59 X (.exit 1))) (.block 2 (Q (Q (O [m 60 0,m 61 8,o 62 (.ixs (t 60) (t 61)),m 63 6,ar 64 .neq 62 63]) (C 64 (Q (O [m 65 0,m 66 8,ad
 67 66,m 68 9,o 69 (.sls (t 65) (some (t 67)) (some (t 68))),m 70 6,k2 71 bO 69 70,m 11 71]) (Q (Q (O [m 72 11,ac 73 .lss 72 (i 0)]) (C 73 (rt 4
 (i (-1))) X)) (O [m 74 8,m 75 11,ad 76 75,ar 77 .add 74 76,m 8 77]))) X)) (Q (Q (O [m 78 0,m 79 8,ad 80 79,o 81 (.ixs (t 78) (t 80)),m 82 7,ar 83 .eql 81 82,m 84 83,g 85
 84 (.mv (t 0)),g 86 84 (.mv (t 8)),g 87 84 (.mv (t 8)),g 88 84 (.mv (t 5)),g 89 84 (.ar .add (t 87) (t 88)),g 90 84 (.sls (t 85) (some (t 86)) (some (t 89))),g 91 84 (.mv (t
 1)),g 92 84 (.ar .eql (t 90) (t 91)),pf 93 84 92]) (C 93 (Q (O [m 94 8,m 4 94]) R) X)) (Q (ic 95 8 96) (Q (ic 97 10 98) (Q (O [m 99 5,o 100 (.ld none (.c .unk)),ar 101 .leq 99
 100,m 102 101,g 103 102 (.mv (t 10)),g 104 102 (.mv (t 8)),⟨(some 105),(some (102,true)),(.call (.c (.fn (.func fE) [] [])) [(.t 104)])⟩,g 106 102
 (.ar .gtr (t 103) (t 105)),pf 107 102 106]) (C 107 (Q (O [m 108 0,m 109 8,o 110 (.sls (t 108) (some (t 109)) none),m 111 1,k2 112 ez 110 111,m 12
 112]) (Q (Q (O [m 113 12,ac 114 .geq 113 (i 0)]) (C 114 (Q (O [m 115 12,m 116 8,ar 117 .add 115 116,m 4 117]) R) X)) (rt 4 (i (-1))))) (Q (O [m 118 5,o 119 (.ld none (.c
 .unk)),ar 120 .gtr 118 119,m 121 120,g 122 121 (.mv (t 10)),g 123 121 (.mv (t 8)),g 124 121 (.sh .shr (t 123) (.c (.int .u64 4))),g 125 121 (.ar .add (i 4) (t 124)),g 126 121
 (.ar .geq (t 122) (t 125)),pf 127 121 126,m 128 127,g 129 128 (.mv (t 8)),g 130 128 (.mv (t 9)),g 131 128 (.ar .lss (t 129) (t 130)),pf 132 128 131]) (C 132 (Q (O [m 133 0,m
 134 8,o 135 (.sls (t 133) (some (t 134)) none),m 136 1,k2 137 jB 135 136,m 13 137]) (Q (Q (O [m 138 13,ac 139 .lss 138 (i 0)]) (C 139 (rt
 4 (i (-1))) X)) (Q (O [m 140 8,m 141 13,ar 142 .add 140 141,m 4 142]) R))) X))))))))))
def nX:AC:=
 (Q (O [mc 4 (i 0)]) (Q (O [m 14 1,lt 15 14,m 5 15]) (Q (.block 0 (Q (O [m 17 5,ac 18 .eql 17 (i 0),m 19 18,h 20 19 (.mv (t 1)),h 21 19 (.mv (t 0)),h 22 19 (.ar .eql (t 20) (t
 21)),pt 23 19 22,m 16 23]) (C 16 (rt 4 (i 0)) (Q (O [m 25 5,ac 26 .eql 25 (i 1),m 24 26]) (C 24 (Q (O [m 27 0,m 28 1,o 29 (.ixs (t 28) (i 0)),k2 30
 bO 27 29,m 4 30]) R) (Q (O [m 32 5,m 33 0,lt 34 33,ar 35 .geq 32 34,m 31 35]) (C 31 (rt 4 (i (-1))) (Q (O [m 37 5,o 38 (.ld none (.c .unk)),ar
 39 .leq 37 38,m 40 39,g 41 40 (.mv (t 0)),g 42 40 (.len .str (t 41)),g 43 40 (.ar .leq (t 42) (i 64)),pf 44 40 43,m 36 44]) (C 36 (Q (O [m 45 0,m 46 1,k2 47
 ez 45 46,m 4 47]) R) X))))))))) (Q (O [m 48 1,o 49 (.ixs (t 48) (i 0)),m 6 49]) (Q (O [m 50 1,o 51 (.ixs (t 50) (i 1)),m 7 51]) (Q (O [mc 8 (i 0)])
 (Q (O [m 52 0,lt 53 52,m 54 5,ar 55 .sub 53 54,ad 56 55,m 9 56]) (Q (O [mc 10 (i 0)]) (Q (.block 1 (.loop ⟨none,[],false⟩ mX)) (rt 4 (i
 (-1))))))))))))
def nY:AFn:=⟨nX,143,[.t 4],.keep,[],none⟩
def th:AFn:=iq.k
def ot:AFn:=dE.k
def qJ:AFn:=ft.k
def ou:AFn:=dF.k
def ml:AFn:=cL.k
def mo:AFn:=cM.k
def xJ:AC:=
 (Q (O [o 2 (.bx bk (t 0)),mc 3 F]) (Q (O [fa 4 1 2,ld 5 4,no 6 5,m 7 6,g 8 7 (.fa 0 (t 2)),g 9 7 (.ld none (t 8)),g 10 7 (.ld none (t 1)),g 11 7 (.ar .eql (t 9) (t
 10)),pf 12 7 11,m 3 12]) R))
def xK:AFn:=⟨xJ,13,[.t 3],.keep,[],none⟩
def xL:AC:=
 (Q (O [o 1 (.bx bk (t 0)),mc 2 F]) (Q (O [fa 3 1 1,ld 4 3,no 5 4,m 6 5,g 7 6 (.fa 0 (t 1)),g 8 6 (.ld none (t 7)),g 9 6 (.ar .geq (t 8) (.c (.int .i32 65))),pf 10 6
 9,m 11 10,g 12 11 (.fa 0 (t 1)),g 13 11 (.ld none (t 12)),g 14 11 (.ar .leq (t 13) (.c (.int .i32 90))),pf 15 11 14,m 2 15]) R))
def xM:AFn:=⟨xL,16,[.t 2],.keep,[],none⟩
def xN:AC:=
 (Q (O [o 1 (.bx bk (t 0)),mc 2 F]) (Q (O [fa 3 1 1,ld 4 3,no 5 4,m 6 5,g 7 6 (.fa 0 (t 1)),g 8 6 (.ld none (t 7)),g 9 6 (.ar .geq (t 8) (.c (.int .i32 97))),pf 10 6
 9,m 11 10,g 12 11 (.fa 0 (t 1)),g 13 11 (.ld none (t 12)),g 14 11 (.ar .leq (t 13) (.c (.int .i32 122))),pf 15 11 14,m 2 15]) R))
def xO:AFn:=⟨xN,16,[.t 2],.keep,[],none⟩
def xP:AC:=
 (Q (O [o 1 (.bx bk (t 0)),mc 2 F]) (Q (O [fa 3 1 1,ld 4 3,m 2 4]) R))
def xQ:AFn:=⟨xP,5,[.t 2],.keep,[],none⟩
def xR:AC:=
 (Q (O [o 1 (.bx bk (t 0)),mc 2 F]) (rt 2 T))
def xS:AFn:=⟨xR,3,[.t 2],.keep,[],none⟩
def xU:AC:=
 (Q (O [o 1 (.bx bk (t 0)),mc 2 F]) (Q (O [fa 3 1 1,ld 4 3,no 5 4,m 6 5,g 7 6 (.fa 0 (t 1)),g 8 6 (.ld none (t 7)),g 9 6 (.ar .eql (t 8) (.c (.int .i32 37))),pf 10 6
 9,m 2 10]) R))
def xV:AFn:=⟨xU,11,[.t 2],.keep,[],none⟩
def jh:AC:=
 (.block 1 (O [ld 8 2,la 9 2 5,o 10 (.bs 2 [(.int .i32 0),(.bool false)] 1 [(0,(t 9))]),o 11 (.ap false bk 2 8 false (t 8) (t 10)),n (.st 1 (t 2) (t 11))]))
def jZ:AC:=
 (Q (O [o 2 (.bx zq (t 0)),mc 4 (.c (.slice .nil 2 []))]) (Q (Q (O [m 6 1]) (.block 0 (.rfn (.t 6) [7] [[o 5 (.nw [(.int .i32 0),(.bool false)] bk),n (.st 2
 (t 5) (t 7))]] jh))) (Q (O [ld 12 2,m 4 12]) R)))
def j0:AFn:=⟨jZ,13,[.t 4],.keep,[],none⟩
def xW:AC:=
 (Q (Q (O [m 11 7,ac 12 .geq 11 (i 0)]) (C 12 X (.exit 0))) (Q (.block 1 (Q (Q (O [m 15 0,m 16 7,ia 17 1 15 16,fa 18 0 17,ld 19 18,o 20 (.eq false .fn (t 19) (.c .nilfn))]) (C
 20 (Q (Q (O [m 21 1,m 22 2,k2 23 w8 21 22,no 24 23]) (C 24 (rt 6 F) X)) (.exit 1)) X)) (Q (Q (D [Pm 25 2,P (ac 26 .eql 25 (i 0)),Pm 27 26,P (h 28 27 (.mv (t 0))),P
 (h 29 27 (.mv (t 7))),P (h 30 27 (.ias 1 (t 28) (t 29))),P (h 31 27 (.fa 0 (t 30))),W (h 32 27 (.ld none (t 31))),P (h 33 27 (.mv (t 1))),P (h 34 27 (.mv (t 2))),P (h 35 27
 (.ar .sub (t 34) (i 1))),P (h 36 27 (.ias 2 (t 33) (t 35))),W (h 37 27 (.ld (some 2) (t 36))),E (⟨(some 38),(some (27,false)),(.call (.t 32) [(.t 37)])⟩),P (h 39 27 (.un .not
 (t 38))),P (pt 40 27 39)]) (C 40 (rt 6 F) X)) (O [m 41 2,ac 42 .sub 41 (i 1),m 2 42])))) (O [m 13 7,ac 14 .sub 13 (i 1),m 7 14])))
def A2:AC:=
 (Q (O [mc 6 F]) (Q (Q (O [m 8 0,ls 9 8,ac 10 .sub 9 (i 1),m 7 10]) (.block 0 (.loop ⟨none,[],false⟩ xW))) (rt 6 T)))
def A3:AFn:=⟨A2,43,[.t 6],.keep,[],none⟩
def wy:AC:=
 (Q (O [bl 12 11 10]) (Q (C 12 X (.exit 0)) (Q (.block 1 (Q (O [ia 13 1 9 11,la 14 1 13,o 8 (.nw [.nilfn] pP),n (.st 1 (t 8) (t 14))]) (Q (Q (O [fa 15 0 8,ld 16 15,o 17
 (.eq false .fn (t 16) (.c .nilfn))]) (C 17 (Q (Q (O [m 18 1,m 19 2,k2 20 w8 18 19,no 21 20]) (C 21 (rt 6 F) X)) (.exit 1)) X)) (Q (Q (D [Pm 22 2,Pm 23 1,W (ls 24 23),
 P (ar 25 .eql 22 24),Pm 26 25,P (h 27 26 (.fa 0 (t 8))),W (h 28 26 (.ld none (t 27))),P (h 29 26 (.mv (t 1))),P (h 30 26 (.mv (t 2))),P (h 31 26 (.ias 2 (t 29) (t 30))),W (h
 32 26 (.ld (some 2) (t 31))),E (⟨(some 33),(some (26,false)),(.call (.t 28) [(.t 32)])⟩),P (h 34 26 (.un .not (t 33))),P (pt 35 26 34)]) (C 35 (rt 6 F) X)) (ic 36 2 37))))) (O
 [ad 38 11,m 11 38]))))
def zL:AC:=
 (Q (O [mc 6 F]) (Q (Q (O [m 9 0,ls 10 9,mc 11 (i 0)]) (.block 0 (.loop ⟨none,[],false⟩ wy))) (rt 6 T)))
def zM:AFn:=⟨zL,39,[.t 6],.keep,[],none⟩
def se:AC:=
 (Q (Q (O [m 11 2,ac 12 .geq 11 (i 0)]) (C 12 X (.exit 0))) (Q (.block 1 (O [m 15 0,m 16 0,o 17 (.nc (t 16)),fa 18 4 17,ld 19 18,m 20 2,ia 21 1 19 20,ld 22 21,o 23 (.bd
 [(.int .u8 0),(.str []),(.bool false)] [(0,1),(1,1),(2,1)] [(0,(u 3)),(1,(t 22)),(2,T)]),k2 24 bp 15 23])) (O [m 13 2,ac 14 .sub 13 (i 1),m 2 14])))
def sf:AC:=
 (Q (O [bl 40 39 38]) (Q (C 40 X (.exit 2)) (Q (.block 3 (Q (O [ia 41 1 37 39,ld 42 41,m 4 42]) (O [m 43 0,m 44 4,o 45 (.bd [(.int .u8 0),(.str []),(.bool false)] [(0,1),(1,
 1),(2,1)] [(0,(u 2)),(1,(t 44)),(2,T)]),k2 46 bp 43 45]))) (O [ad 47 39,m 39 47]))))
def tT:AC:=
 (Q (Q (O [m 5 0,o 6 (.nc (t 5)),fa 7 4 6,ld 8 7,ls 9 8,ac 10 .sub 9 (i 1),m 2 10]) (.block 0 (.loop ⟨none,[],false⟩ se))) (Q (O [m 25 0,m 26 0,o 27 (.nc
 (t 26)),fa 28 0 27,ld 29 28,o 30 (.bm ao 1 [(.slice .nil 0 [])] 1 [(0,(.c (.slice .nil 3 [])))]),o 31 (.ap true ao 1 24 false (t 29) (t 30)),o 32 (.nc
 (t 25)),fa 33 0 32,n (.st 1 (t 33) (t 31))]) (Q (Q (O [m 34 0,o 35 (.nc (t 34)),fa 36 4 35,ld 37 36,ls 38 37,mc 39 (i 0)]) (.block 2 (.loop ⟨none,[],false⟩
 sf))) (O [m 48 0,o 49 (.nc (t 48)),fa 50 3 49,n (.st 1 (t 50) F)]))))
def tU:AFn:=⟨tT,51,[],.keep,[4],none⟩
def ji:AC:=
 (Q (O [bl 9 8 7]) (Q (C 9 X (.exit 0)) (Q (.block 1 (Q (O [m 10 8,m 5 10]) (Q (O [m 11 1,m 12 0,m 13 5,ia 14 1 12 13,ld 15 14,k 16 (t 11) [(t 15)]]) (C 16 (Q (O [m 17 5,m 4
 17]) R) X)))) (O [ad 18 8,m 8 18]))))
def j1:AC:=
 (Q (O [mc 4 (i 0)]) (Q (Q (O [m 6 0,ls 7 6,mc 8 (i 0)]) (.block 0 (.loop ⟨none,[],false⟩ ji))) (rt 4 (i (-1)))))
def j4:AFn:=⟨j1,19,[.t 4],.keep,[],none⟩
def gX:AC:=
 (Q (Q (D [Pm 18 9,Pm 19 1,P (ar 20 .gtr 18 19),Pm 21 20,P (g 22 21 (.mv (t 3))),P (g 23 21 (.mv (t 0))),P (g 24 21 (.mv (t 9))),P (g 25 21 (.ias 1 (t 23) (t 24))),W (g 26 21
 (.ld none (t 25))),P (g 27 21 (.mv (t 0))),P (g 28 21 (.mv (t 9))),P (g 29 21 (.ar .sub (t 28) (i 1))),P (g 30 21 (.ias 1 (t 27) (t 29))),W (g 31 21 (.ld none (t 30))),E
 (⟨(some 32),(some (21,true)),(.call (.t 22) [(.t 26),(.t 31)])⟩),P (g 33 21 (.ar .lss (t 32) (i 0))),P (pf 34 21 33)]) (C 34 X (.exit 2))) (Q (.block 3 (D [Pm 37 0,Pm 38 9,
 Pm 39 0,Pm 40 9,P (ac 41 .sub 40 (i 1)),Pm 42 0,Pm 43 9,P (ac 44 .sub 43 (i 1)),P (ia 45 1 42 44),Wl 46 45,Pm 47 0,Pm 48 9,P (ia 49 1 47 48),Wl 50 49,P (ia 51 1 37 38),
 E (n (.st 1 (t 51) (t 46))),P (ia 52 1 39 41),E (n (.st 1 (t 52) (t 50)))])) (O [m 35 9,ac 36 .sub 35 (i 1),m 9 36])))
def gY:AC:=
 (Q (Q (O [m 12 8,m 13 2,bl 14 12 13]) (C 14 X (.exit 0))) (Q (.block 1 (Q (O [m 17 8,m 9 17]) (.block 2 (.loop ⟨none,[],false⟩ gX))))
 (ic 15 8 16)))
def iD:AC:=
 (Q (O [m 10 1,ad 11 10,m 8 11]) (.block 0 (.loop ⟨none,[],false⟩ gY)))
def iE:AFn:=⟨iD,53,[],.keep,[],none⟩
def jO:AC:=
 (Q (Q (O [m 31 10,m 32 11,bl 33 31 32]) (C 33 X (.exit 0))) (.block 1 (Q (O [m 34 10,m 35 11,ar 36 .add 34 35,o 37 (.cvi .u64 (t 36)),o 38 (.sh .shr (t 37) (.c (.int .u64
 1))),o 39 (.cvi .i64 (t 38)),m 12 39]) (Q (D [Pm 40 4,Pm 41 0,Pm 42 12,P (ia 43 1 41 42),Wl 44 43,Pm 45 0,Pm 46 1,P (ia 47 1 45 46),Wl 48 47,E (k 49 (t 40) [(t 44),(t
 48)]),P (ac 50 .lss 49 (i 0))]) (C 50 (O [m 51 12,ad 52 51,m 10 52]) (O [m 53 12,m 11 53]))))))
def jP:AC:=
 (Q (Q (O [m 55 13,m 56 10,ac 57 .sub 56 (i 1),bl 58 55 57]) (C 58 X (.exit 2))) (Q (.block 3 (D [Pm 61 0,Pm 62 13,Pm 63 0,Pm 64 13,P (ad 65 64),Pm 66 0,Pm 67 13,P (ad 68
 67),P (ia 69 1 66 68),Wl 70 69,Pm 71 0,Pm 72 13,P (ia 73 1 71 72),Wl 74 73,P (ia 75 1 61 62),E (n (.st 1 (t 75) (t 70))),P (ia 76 1 63 65),E (n (.st 1 (t 76) (t 74)))]))
 (ic 59 13 60)))
def jQ:AC:=
 (Q (Q (O [m 83 14,m 84 15,bl 85 83 84]) (C 85 X (.exit 4))) (.block 5 (Q (O [m 86 14,m 87 15,ar 88 .add 86 87,o 89 (.cvi .u64 (t 88)),o 90 (.sh .shr (t 89) (.c (.int .u64
 1))),o 91 (.cvi .i64 (t 90)),m 16 91]) (Q (D [Pm 92 4,Pm 93 0,Pm 94 2,P (ia 95 1 93 94),Wl 96 95,Pm 97 0,Pm 98 16,P (ia 99 1 97 98),Wl 100 99,E (k 101 (t 92) [(t 96),(t
 100)]),P (ac 102 .lss 101 (i 0)),P (no 103 102)]) (C 103 (O [m 104 16,ad 105 104,m 14 105]) (O [m 106 16,m 15 106]))))))
def jR:AC:=
 (Q (Q (O [m 108 17,m 109 14,ar 110 .gtr 108 109]) (C 110 X (.exit 6))) (Q (.block 7 (D [Pm 113 0,Pm 114 17,Pm 115 0,Pm 116 17,P (ac 117 .sub 116 (i 1)),Pm 118 0,Pm 119 17,P
 (ac 120 .sub 119 (i 1)),P (ia 121 1 118 120),Wl 122 121,Pm 123 0,Pm 124 17,P (ia 125 1 123 124),Wl 126 125,P (ia 127 1 113 114),E (n (.st 1 (t 127) (t 122))),P (ia 128 1
 115 117),E (n (.st 1 (t 128) (t 126)))])) (O [m 111 17,ac 112 .sub 111 (i 1),m 17 112])))
def jS:AC:=
 (Q (Q (O [m 149 20,m 150 21,bl 151 149 150]) (C 151 X (.exit 8))) (.block 9 (Q (O [m 152 20,m 153 21,ar 154 .add 152 153,o 155 (.cvi .u64 (t 154)),o 156 (.sh .shr (t 155) (.c
 (.int .u64 1))),o 157 (.cvi .i64 (t 156)),m 23 157]) (Q (D [Pm 158 4,Pm 159 0,Pm 160 22,Pm 161 23,P (ar 162 .sub 160 161),P (ia 163 1 159 162),Wl 164 163,Pm 165 0,Pm 166
 23,P (ia 167 1 165 166),Wl 168 167,E (k 169 (t 158) [(t 164),(t 168)]),P (ac 170 .lss 169 (i 0)),P (no 171 170)]) (C 171 (O [m 172 23,ad 173 172,m 20 173]) (O [m 174 23,m
 21 174]))))))
def kF:AC:=
 (Q (Q (O [m 25 2,m 26 1,ar 27 .sub 25 26,ac 28 .eql 27 (i 1)]) (C 28 (Q (O [m 29 2,m 10 29]) (Q (O [m 30 3,m 11 30]) (Q (.block 0 (.loop ⟨none,[],false⟩
 jO)) (Q (Q (O [m 54 1,m 13 54]) (.block 2 (.loop ⟨none,[],false⟩ jP))) R)))) X)) (Q (Q (O [m 77 3,m
 78 2,ar 79 .sub 77 78,ac 80 .eql 79 (i 1)]) (C 80 (Q (O [m 81 1,m 14 81]) (Q (O [m 82 2,m 15 82]) (Q (.block 4 (.loop ⟨none,[],false⟩
 jQ)) (Q (Q (O [m 107 2,m 17 107]) (.block 6 (.loop ⟨none,[],false⟩ jR))) R)))) X)) (Q (O [m 129 1,m
 130 3,ar 131 .add 129 130,o 132 (.cvi .u64 (t 131)),o 133 (.sh .shr (t 132) (.c (.int .u64 1))),o 134 (.cvi .i64 (t 133)),m 18 134]) (Q (O [m 135 18,m 136 2,ar 137 .add 135
 136,m 19 137]) (Q (O [mc 20 (i 0),mc 21 (i 0)]) (Q (Q (O [m 138 2,m 139 18,ar 140 .gtr 138 139]) (C 140 (Q (O [m 141 19,m 142 3,ar 143 .sub 141 142,m 20 143]) (O [m 144 18,m
 21 144])) (Q (O [m 145 1,m 20 145]) (O [m 146 2,m 21 146])))) (Q (O [m 147 19,ac 148 .sub 147 (i 1),m 22 148]) (Q (.block 8 (.loop ⟨none,[],false⟩
 jS)) (Q (O [m 175 19,m 176 20,ar 177 .sub 175 176,m 24 177]) (Q (Q (O [m 178 20,m 179 2,bl 180 178 179,m 181 180,g 182 181 (.mv (t 2)),
 g 183 181 (.mv (t 24)),g 184 181 (.ar .lss (t 182) (t 183)),pf 185 181 184]) (C 185 (O [m 186 0,m 187 20,m 188 2,m 189 24,m 190 4,k 191 (f
 lJ) [(t 186),(t 187),(t 188),(t 189),(t 190)]]) X)) (Q (Q (O [m 192 1,m 193 20,bl 194 192 193,m 195 194,g 196 195 (.mv (t 20)),g 197 195
 (.mv (t 18)),g 198 195 (.ar .lss (t 196) (t 197)),pf 199 195 198]) (C 199 (O [m 200 0,m 201 1,m 202 20,m 203 18,m 204 4,k 205 (f bV) [(t
 200),(t 201),(t 202),(t 203),(t 204)]]) X)) (Q (O [m 206 18,m 207 24,bl 208 206 207,m 209 208,g 210 209 (.mv (t 24)),g 211 209 (.mv (t 3)),g 212 209 (.ar .lss (t 210) (t
 211)),pf 213 209 212]) (C 213 (O [m 214 0,m 215 18,m 216 24,m 217 3,m 218 4,k 219 (f bV) [(t 214),(t 215),(t 216),(t 217),(t 218)]])
 X)))))))))))))
def kG:AFn:=⟨kF,220,[],.keep,[],none⟩
def nZ:AFn:=bL.k
def ti:AFn:=ec.k
def mq:AFn:=cN.k
def oR:AFn:=kB.k
def iF:AC:=
 (Q (Q (O [m 18 9,m 19 7,bl 20 18 19]) (C 20 X (.exit 0))) (Q (.block 1 (O [m 23 8,o 24 (.ar .mul (t 23) (.c (.int .u32 16777619))),m 25 0,m 26 9,o 27 (.ixs (t 25) (t 26)),o
 28 (.cvi .u32 (t 27)),ar 29 .add 24 28,m 8 29])) (ic 21 9 22)))
def iG:AC:=
 (Q (Q (O [m 41 10,m 42 0,lt 43 42,bl 44 41 43]) (C 44 X (.exit 2))) (.block 3 (Q (O [m 45 8,o 46 (.ar .mul (t 45) (.c (.int .u32 16777619))),m 8 46]) (Q (O [m 47 8,m 48 0,m
 49 10,o 50 (.ixs (t 48) (t 49)),o 51 (.cvi .u32 (t 50)),ar 52 .add 47 51,m 8 52]) (Q (O [m 53 8,m 54 6,m 55 0,m 56 10,m 57 7,ar 58 .sub 56 57,o 59 (.ixs (t 55) (t 58)),o
 60 (.cvi .u32 (t 59)),ar 61 .mul 54 60,ar 62 .sub 53 61,m 8 62]) (Q (ic 63 10 64) (Q (O [m 65 8,m 66 5,ar 67 .eql 65 66,m 68 67,g 69 68 (.mv (t 0)),g 70 68 (.mv (t 10)),g
 71 68 (.mv (t 7)),g 72 68 (.ar .sub (t 70) (t 71)),g 73 68 (.mv (t 10)),g 74 68 (.sls (t 69) (some (t 72)) (some (t 73))),g 75 68 (.mv (t 1)),g 76 68 (.ar .eql (t 74) (t 75)),
 pf 77 68 76]) (C 77 (Q (O [m 78 10,m 79 7,ar 80 .sub 78 79,m 4 80]) R) X))))))))
def jj:AC:=
 (Q (O [mc 4 (i 0)]) (Q (O [m 12 1,k1 13 mj 12,m 11 13,ex 14 11 0,ex 15 11 1,m 5 14,m 6 15]) (Q (O [m 16 1,lt 17 16,m 7 17]) (Q (O [mc 8 (.c
 (.int .u32 0))]) (Q (Q (O [mc 9 (i 0)]) (.block 0 (.loop ⟨none,[],false⟩ iF))) (Q (Q (O [m 30 8,m 31 5,ar 32 .eql 30 31,m 33 32,g 34
 33 (.mv (t 0)),g 35 33 (.mv (t 7)),g 36 33 (.sls (t 34) none (some (t 35))),g 37 33 (.mv (t 1)),g 38 33 (.ar .eql (t 36) (t 37)),pf 39 33 38]) (C 39 (rt 4 (i 0)) X)) (Q (Q (O
 [m 40 7,m 10 40]) (.block 2 (.loop ⟨none,[],false⟩ iG))) (rt 4 (i (-1))))))))))
def jk:AFn:=⟨jj,81,[.t 4],.keep,[],none⟩
def tj:AFn:=iu.k
def pE:AFn:=eC.k
def CN:AC:=
 (Q (O [mc 4 F]) (Q (O [m 5 1,ac 6 .eql 5 (i 0),m 7 6,h 8 7 (.mv (t 1)),h 9 7 (.mv (t 0)),h 10 7 (.len .sl (t 9)),h 11 7 (.ar .eql (t 8) (t 10)),pt 12 7 11,m 13 12,h 14 13
 (.mv (t 0)),h 15 13 (.mv (t 1)),h 16 13 (.ar .sub (t 15) (i 1)),h 17 13 (.ias 2 (t 14) (t 16)),h 18 13 (.ld (some 2) (t 17)),⟨(some 19),(some (13,false)),(.call (.c (.fn
 (.func fA) [] [])) [(.t 18)])⟩,h 20 13 (.un .not (t 19)),pt 21 13 20,m 22 21,h 23 22 (.mv (t 0)),h 24 22 (.mv (t 1)),h 25 22 (.ias 2 (t 23) (t 24)),h 26 22 (.ld
 (some 2) (t 25)),⟨(some 27),(some (22,false)),(.call (.c (.fn (.func fA) [] [])) [(.t 26)])⟩,h 28 22 (.un .not (t 27)),pt 29 22 28,m 4 29]) R))
def CO:AFn:=⟨CN,30,[.t 4],.keep,[],none⟩
def kH:AC:=
 (Q (Q (O [m 18 10,m 19 11,ar 20 .neq 18 19]) (C 20 X (.exit 0))) (.block 1 (Q (O [m 21 10,m 22 11,ar 23 .gtr 21 22]) (C 23 (Q (O [m 24 0,m 25 2,m 26 10,ar 27 .sub 25 26,m 28
 2,m 29 11,m 30 4,k 31 (f cR) [(t 24),(t 27),(t 28),(t 29),(t 30)]]) (O [m 32 10,m 33 11,ar 34 .sub 32 33,m 10 34])) (Q (O [m 35 0,m 36
 2,m 37 10,ar 38 .sub 36 37,m 39 2,m 40 11,ar 41 .add 39 40,m 42 10,ar 43 .sub 41 42,m 44 10,m 45 4,k 46 (f cR) [(t 35),(t 38),(t 43),
 (t 44),(t 45)]]) (O [m 47 11,m 48 10,ar 49 .sub 47 48,m 11 49]))))))
def ll:AC:=
 (Q (O [m 12 2,m 13 1,ar 14 .sub 12 13,m 10 14]) (Q (O [m 15 3,m 16 2,ar 17 .sub 15 16,m 11 17]) (Q (.block 0 (.loop ⟨none,[],false⟩ kH))
 (O [m 50 0,m 51 2,m 52 10,ar 53 .sub 51 52,m 54 2,m 55 10,m 56 4,k 57 (f cR) [(t 50),(t 53),(t 54),(t 55),(t 56)]]))))
def ln:AFn:=⟨ll,58,[],.keep,[],none⟩
def lq:AC:=
 (Q (Q (O [m 9 5,m 10 0,lt 11 10,bl 12 9 11]) (C 12 X (.exit 0))) (Q (.block 1 (O [m 15 4,o 16 (.ar .mul (t 15) (.c (.int .u32 16777619))),m 17 0,m 18 5,o 19 (.ixs (t 17) (t
 18)),o 20 (.cvi .u32 (t 19)),ar 21 .add 16 20,m 4 21])) (ic 13 5 14)))
def lr:AC:=
 (Q (Q (O [m 24 8,ac 25 .gtr 24 (i 0)]) (C 25 X (.exit 2))) (Q (.block 3 (Q (Q (O [m 28 8,ac 29 .and 28 (i 1),ac 30 .neq 29 (i 0)]) (C 30 (O [m 31 6,m 32 7,ar 33 .mul 31 32,m 6
 33]) X)) (O [m 34 7,m 35 7,ar 36 .mul 34 35,m 7 36]))) (O [m 26 8,o 27 (.sh .shr (t 26) (.c (.int .u64 1))),m 8 27])))
def l5:AC:=
 (Q (O [mc 2 (.c (.int .u32 0)),mc 3 (.c (.int .u32 0))]) (Q (O [mc 4 (.c (.int .u32 0))]) (Q (Q (O [mc 5 (i 0)]) (.block 0 (.loop ⟨none,[],false⟩
 lq))) (Q (O [mc 6 (.c (.int .u32 1)),mc 7 (.c (.int .u32 16777619))]) (Q (Q (O [m 22 0,lt 23 22,m 8 23]) (.block 2 (.loop ⟨none,[],false⟩
 lr))) (Q (O [m 37 4,m 38 6,m 2 37,m 3 38]) R))))))
def l6:AFn:=⟨l5,39,[.t 2,.t 3],.keep,[],none⟩
def jl:AC:=
 (Q (Q (O [m 11 10,m 12 3,bl 13 11 12]) (C 13 X (.exit 0))) (Q (.block 1 (D [Pm 16 0,Pm 17 1,Pm 18 10,P (ar 19 .add 17 18),Pm 20 0,Pm 21 2,Pm 22 10,P (ar 23 .add 21 22),Pm
 24 0,Pm 25 2,Pm 26 10,P (ar 27 .add 25 26),P (ia 28 1 24 27),Wl 29 28,Pm 30 0,Pm 31 1,Pm 32 10,P (ar 33 .add 31 32),P (ia 34 1 30 33),Wl 35 34,P (ia 36 1 16 19),E (n
 (.st 1 (t 36) (t 29))),P (ia 37 1 20 23),E (n (.st 1 (t 37) (t 35)))])) (ic 14 10 15)))
def j6:AC:=
 (Q (O [mc 10 (i 0)]) (.block 0 (.loop ⟨none,[],false⟩ jl)))
def j7:AFn:=⟨j6,38,[],.keep,[],none⟩
def Jc(f:FuncId):Option (Nat×AFn):=none
end Go.Am
end
section
set_option maxRecDepth 1000000
namespace Go.Am
open Go.RowKit Go.Proofs
def G0:Nat→Option (List AV):=rP 0 1
def Jd:List (Nat×AFn):=[(9,rF),(10,xx),(12,oO),(13,AI),(16,r5),(22,uw),(24,CJ),(28,CM),(29,r7),(30,r9),(31,sb),(32,zy)]
theorem MG:mI (c7 Tryz.prog G0) Jd:=by repeat' first | (unfold c7;kernel_rfl) | exact trivial | refine ⟨?_, ?_⟩
def Je:List (Nat×AFn):=[(33,DZ),(34,wg),(35,AL),(36,D1),(37,AN),(38,sd),(39,zB),(44,tM),(45,xG),(46,AO),(47,vo),(48,vp)]
theorem MH:mI (c7 Tryz.prog G0) Je:=by repeat' first | (unfold c7;kernel_rfl) | exact trivial | refine ⟨?_, ?_⟩
def Jf:List (Nat×AFn):=[(54,zC),(55,D2),(58,zE),(59,pB),(60,qh),(61,zF),(62,tO),(63,oh),(64,zG),(65,wj),(66,zI),(67,AQ)]
theorem MI:mI (c7 Tryz.prog G0) Jf:=by repeat' first | (unfold c7;kernel_rfl) | exact trivial | refine ⟨?_, ?_⟩
def Jg:List (Nat×AFn):=[(68,D4),(69,ny),(70,mW),(71,tc),(72,jg),(73,fL),(74,AU),(75,wq),(76,uA),(77,wt),(78,zJ),(83,zK)]
theorem MJ:mI (c7 Tryz.prog G0) Jg:=by repeat' first | (unfold c7;kernel_rfl) | exact trivial | refine ⟨?_, ?_⟩
def Jh:List (Nat×AFn):=[(84,qi),(85,pD),(88,xH),(89,tP),(90,uB),(91,uC),(97,AW),(98,qI),(99,wu),(100,l4),(101,wx),(102,oq)]
theorem MK:mI (c7 Tryz.prog G0) Jh:=by repeat' first | (unfold c7;kernel_rfl) | exact trivial | refine ⟨?_, ?_⟩
def Ji:List (Nat×AFn):=[(103,tQ),(104,td),(105,te),(106,AY),(107,oQ),(108,vr),(109,tS),(110,uE),(111,iZ),(112,A1),(113,lj),(114,mP)]
theorem ML:mI (c7 Tryz.prog G0) Ji:=by repeat' first | (unfold c7;kernel_rfl) | exact trivial | refine ⟨?_, ?_⟩
def Jj:List (Nat×AFn):=[(121,tf),(123,nY),(125,th),(126,ot),(127,qJ),(128,ou),(129,ml),(130,mo),(131,xK),(132,xM),(133,xO),(134,xQ)]
theorem MM:mI (c7 Tryz.prog G0) Jj:=by repeat' first | (unfold c7;kernel_rfl) | exact trivial | refine ⟨?_, ?_⟩
def Jk:List (Nat×AFn):=[(135,xS),(136,xV),(137,j0),(138,A3),(139,zM),(140,tU),(141,j4),(142,iE),(143,kG),(144,nZ),(148,ti),(149,mq)]
theorem MN:mI (c7 Tryz.prog G0) Jk:=by repeat' first | (unfold c7;kernel_rfl) | exact trivial | refine ⟨?_, ?_⟩
def Jl:List (Nat×AFn):=[(151,oR),(152,jk),(153,tj),(154,pE),(155,CO),(156,ln),(164,l6),(165,j7)]
theorem MO:mI (c7 Tryz.prog G0) Jl:=by repeat' first | (unfold c7;kernel_rfl) | exact trivial | refine ⟨?_, ?_⟩
def Jm:List (Nat×List (Nat×AFn)):=[(32,Jd),(48,Je),(67,Jf),(83,Jg),(102,Jh),(114,Ji),(134,Jj),(149,Jk),(165,Jl)]
def Nw(f:FuncId):Option AFn:=DQ Jm f
theorem KV:∀ f af,Nw f=some af→c7 Tryz.prog G0 f af:=fun f af h=>za (show Cu _ Jm from ⟨MG,MH,MI,MJ,MK,ML,MM,MN,MO,trivial⟩) h
theorem Jn:∀ f d af,Jc f=some (d,af)→KL Tryz.prog G0 f (d,af):=fun f d af h=>by
 unfold Jc at h;revert h;exact (fun h=>by cases h)
end Go.Am
end
section
namespace Go.Am
open Go.RowKit Go.Shelf Go.Proofs
attribute [local go_sem] Oper.semAt_some
set_option maxHeartbeats 2000000
theorem D5{P:Program}{w:World}{ib:Nat}{s:ByteArray}{pos:Nat}(ty:TypeId)(h:w.heap[ib]?=some (.stringIter s pos))(hp:pos<s.size) :
  (Instr.next (.pointer (some ⟨ib,0,none⟩)) true ty).run P w = .ok (.tuple #[.bool true,.int .i64 pos,.int .i32 (Utf8.decode s pos).1]) (w.putObj ib (.stringIter s (pos+(Utf8.decode s pos).2))):=by
 have hg:(getObj ib).run P w = .ok (.stringIter s pos) w:=by simp [getObj,Sem.run,h]
 have hlt:ib<w.heap.size:=(Array.getElem?_eq_some_iff.1 h).1
 have hso:∀ p,(setObj ib (.stringIter s p)).run P w = .ok () (w.putObj ib (.stringIter s p)):=fun p=>by
  unfold setObj;simp only [Sem.run,World.putObj,h]
 simp only [Instr.next,Sem.run_bind,hg,Result.andThen_ok];rw [if_pos hp];simp only [Sem.run_bind,hso,Result.andThen_ok,Sem.run_pure];rfl
theorem D6{P:Program}{w:World}{ib:Nat}{s:ByteArray}{pos:Nat}(ty:TypeId)(h:w.heap[ib]?=some (.stringIter s pos))(hp:¬ pos<s.size) :
  (Instr.next (.pointer (some ⟨ib,0,none⟩)) true ty).run P w = .ok (.tuple #[.bool false]) w:=by
 have hg:(getObj ib).run P w = .ok (.stringIter s pos) w:=by simp [getObj,Sem.run,h]
 simp only [Instr.next,Sem.run_bind,hg,Result.andThen_ok];rw [if_neg hp];rfl
def Jo(w:World)(b:Nat):Nat:=
 match w.heap[b]? with
 |some (.stringIter s p)=>s.size-p
 |_=>0
theorem D7{w:World}{b:Nat}{s:ByteArray}{p:Nat}(h:w.heap[b]?=some (.stringIter s p)):Jo w b=s.size-p:=by
 unfold Jo;rw [h]
abbrev F7(n:Int):Array Value := #[.agg #[.int .i32 n,.bool false]]
def uF(p:Int×ByteArray×Bool):List (Array Value):=if p.1=5 then [#[.agg #[.int .i32 0,.bool true]]] else if p.1=1 then (jw p.2.1 p.2.1.size 0).map F7 else []
def fS:List (Int×ByteArray×Bool)→List (Array Value)
 |[]=>[]
 |p::l=>uF p++fS l
theorem BA{α:Type}{xs r:List α}{x:α}{i:Nat}(h:xs.drop i=x::r):xs[i]?=some x∧xs.drop (i+1)=r:=by
 constructor
 ·have:=congrArg List.head? h
  simpa [List.head?_drop] using this
 ·rw [← List.drop_drop,h];rfl
theorem Fk(s:ByteArray)(p:Nat)(_:p<s.size):1≤(Utf8.decode s p).2:=by
 simp only [Utf8.decode]
 repeat' split
 all_goals simp
theorem KW(l cb:Nat)(W:World)(B:Nat)(J:Nat→World→Prop)(Jx KO:World→Prop)(a:Option Addr)(cap:Nat)(ps:List (Int×ByteArray×Bool))(hmx:ps.length≤9223372036854775807)
  (hx:W.cell? ⟨cb,0,none⟩=some (.slice a ps.length cap))
  (hcell:∀ W' k p,KO W'→ps[k]?=some p→∃ b o,a=some ⟨b,o,none⟩∧W'.cell? ⟨b,o+k*3,none⟩=some (.int .u8 p.1)∧W'.cell? ⟨b,o+k*3+1,none⟩=some (.string p.2.1)∧W'.cell? ⟨b,o+k*3+2,none⟩=some (.bool p.2.2))
  (hKO:Stb B KO) (hJ:∀ i,Stb B (J i)) (hsz:∀ i W',J i W'→B≤W'.heap.size)
  (hY:∀ i x W1,(fS ps)[i]?=some x→J i W1→YieldAt Fence.wide 0 Tryz.prog l x W1 fun e W'=>(e = .returned (.bool true)∧J (i+1) W'∧Bs B W1 W'∧KO W')∨(e = .returned (.bool false)∧Jx W'))
  (h0:J 0 W) (hk0:KO W) :
  CallsIn Fence.wide 0 Tryz.prog 88 #[.func (.yield l) #[] #[],.pointer (some ⟨cb,0,none⟩)] W fun e W'=>(∃ v,e = .returned v)∧(J (fS ps).length W'∨Jx W'):=by
 refine callsIn_of_wp Tryz.func88 rfl trivial ?_ rfl;simp only [Tryz.ntmps88,List.size_toArray,List.length_cons,List.length_nil,Nat.reduceAdd,Nat.reduceSub,Array.replicate_succ,Array.replicate_zero,List.push_toArray,List.append_toArray,List.nil_append,List.cons_append]
 gi_wp2
 refine qn (fun _ _ _ _=>False) 0 ?_ (fun _ _ _ _ h=>h.elim);refine wpIn_seq (wpIn_label ?_)
 gi_wp2
 gi_loopw [9] (fun p wr => ∃ k i:Nat,p = .int .i64 k∧k≤ps.length∧(fS ps).drop i=fS (ps.drop k)∧i+(fS (ps.drop k)).length=(fS ps).length∧J i wr∧KO wr)
  (fun p _=>ps.length-(intOf p).toNat)
 case atStart=>
  exact ⟨0,0,rfl,Nat.zero_le _,rfl,by simp,h0,hk0⟩
 case round=>
  obtain ⟨k,i,rfl,hk,hd,hi,hJk,hKk⟩:=hrel
  by_cases hlt:k<ps.length
  ·obtain ⟨⟨kd,st,cr⟩,hp⟩:∃ p,ps[k]?=some p:=⟨_,List.getElem?_eq_getElem hlt⟩
   obtain ⟨b,o,rfl,c0,c1,c2⟩:=hcell wr k _ hKk hp
   have hdk:ps.drop k=(kd,st,cr)::ps.drop (k+1):=by
    rw [List.drop_eq_getElem_cons hlt];rw [List.getElem?_eq_getElem hlt] at hp;rw [Option.some.inj hp]
   rw [hdk,fS] at hd hi;simp only at c0 c1 c2
   by_cases h5:kd=5
   ·subst h5
    have e5:uF (5,st,cr)=[#[.agg #[.int .i32 0,.bool true]]]:=rfl;rw [e5] at hd hi;obtain ⟨hxi,hdi⟩:=BA (by simpa using hd);obtain ⟨fn,tmps,assign,body,hy,hR⟩:=hY i _ (wr.alloc (.cells #[.int .u8 5,.string st,.bool cr] 53)) hxi ((hJ _).alloc _ hJk)
    gi_wp2
    refine ⟨rfl,hR.mono ?_⟩;rintro e W' (⟨rfl,hJ2,_,hK2⟩ | ⟨rfl,hJx2⟩)
    ·gi_wp2
     exact ⟨⟨k+1,i+1,by simp,by omega,hdi,by simp at hi ⊢;omega,hJ2,hK2⟩,by simp [intOf];omega⟩
    ·gi_wp2
     go_end0
     exact ⟨⟨_,rfl⟩,.inr hJx2⟩
   ·by_cases h1:kd=1
    ·subst h1
     have e1:uF (1,st,cr)=(jw st st.size 0).map F7:=rfl;rw [e1] at hd hi
     gi_wp2
     have hBw:=hsz _ _ hJk;obtain ⟨ib,hib⟩:∃ ib,ib=wr.heap.size+1:=⟨_,rfl⟩
     have hst:((wr.alloc (.cells #[.int .u8 1,.string st,.bool cr] 53)).iter st 0).heap[ib]?=some (.stringIter st 0):=by
      have:=World.iter_heap (wr.alloc (.cells #[.int .u8 1,.string st,.bool cr] 53)) st 0;rw [hib];simpa using this
     rw [← hib];have hBi:B≤ib:=by omega
     clear hib
     gi_loopw [26] (fun _ w2 => ∃ (pos fuel j:Nat),w2.heap[ib]?=some (.stringIter st pos)∧st.size-pos≤fuel∧(fS ps).drop j=(jw st fuel pos).map F7++fS (ps.drop (k+1)) ∧
       j+((jw st fuel pos).map F7++fS (ps.drop (k+1))).length=(fS ps).length∧J j w2∧KO w2)
      (fun _ w2=>Jo w2 ib)
     case atStart=>
      exact ⟨0,st.size,i,hst,by omega,hd,hi,(hJ _).alloc _ ((hJ _).alloc _ hJk),hKO.alloc _ (hKO.alloc _ hKk)⟩
     case round=>
      obtain ⟨pos,fuel,j,hit,hfu,hdj,hij,hJj,hKj⟩:=hrel
      by_cases hpl:pos<st.size
      ·have hnx:=fun ty=>D5 (P:=Tryz.prog) ty hit hpl
       obtain ⟨fuel,rfl⟩:∃ f,fuel=f+1:=⟨fuel-1,by omega⟩
       have hdp:=Fk st pos hpl;rw [show jw st (fuel+1) pos=Int.ofNat (Utf8.decode st pos).1::jw st fuel (pos+(Utf8.decode st pos).2) by rw [jw,if_pos hpl],List.map_cons,List.cons_append] at hdj hij;obtain ⟨hxj,hdj2⟩:=BA hdj;obtain ⟨fn,tmps,assign,body,hy,hR⟩:=hY j #[.agg #[.int .i32 ((Utf8.decode st pos).1:Nat),.bool false]] (wr.putObj ib (.stringIter st (pos+(Utf8.decode st pos).2))) hxj ((hJ j).putObj _ hJj hBi hit rfl)
       have hlt2:ib<wr.heap.size:=(Array.getElem?_eq_some_iff.1 hit).1;have hsame:=World.putObj_heap_same (w:=wr) (o:=Obj.stringIter st (pos+(Utf8.decode st pos).2)) hlt2
       gi_wp2
       refine ⟨rfl,hR.mono ?_⟩;rintro e W' (⟨rfl,hJ2,hI2,hK2⟩ | ⟨rfl,hJx2⟩)
       ·have hW:=hI2 ib _ _ hBi hsame
        gi_wp2
        exact ⟨⟨_,fuel,j+1,hW,by omega,hdj2,by simp only [List.length_cons] at hij;omega,hJ2,hK2⟩,by rw [D7 hW,D7 hit];omega⟩
       ·gi_wp2
        go_end0
        exact ⟨⟨_,rfl⟩,.inr hJx2⟩
      ·have hnx:=fun ty=>D6 (P:=Tryz.prog) ty hit hpl
       have e0:jw st fuel pos=[]:=by
        cases fuel with
        |zero=>rfl
        |succ f=>rw [jw,if_neg hpl]
       rw [e0] at hdj hij
       gi_wp2
       exact ⟨⟨k+1,j,by simp,by omega,hdj,by simp at hij ⊢;omega,hJj,hKj⟩,by simp [intOf];omega⟩
    ·have e0:uF (kd,st,cr)=[]:=by unfold uF;rw [if_neg h5,if_neg h1]
     rw [e0] at hd hi
     gi_wp2
     exact ⟨⟨k+1,i,by simp,by omega,hd,by simp at hi ⊢;omega,(hJ _).alloc _ hJk,hKO.alloc _ hKk⟩,by simp [intOf];omega⟩
  ·have ek:k=ps.length:=by omega
   subst ek
   gi_wp2
   go_end0
   have:i=(fS ps).length:=by simpa [fS] using hi
   exact ⟨⟨_,rfl⟩,.inl (by rw [← this];exact hJk)⟩
def pc1:List AV→Int×ByteArray×Bool
 |[.int .u8 k,.str s,.bool c]=>(k,⟨s.toArray⟩,c)
 |_=>(0,⟨#[]⟩,false)
def pcs(rows:List (List AV)):List (Int×ByteArray×Bool):=rows.map pc1
theorem F8(rows:List (List AV)):(pcs rows).length=rows.length:=List.length_map ..
theorem F9:∀ {rows:List (List AV)}{xs:List (List AV)},qG rows=some xs→fS (pcs rows)=xs.map (fun x=>(x.map rO).toArray)∧(∀ x∈xs,x.length=1∧∀ v∈x,vO v=true) ∧
  ∀ (i:Nat) (p:Int×ByteArray×Bool),(pcs rows)[i]?=some p→∃ s:List UInt8,rows[i]?=some [.int .u8 p.1,.str s,.bool p.2.2]∧p.2.1=⟨s.toArray⟩
 |[],xs,h=>by
  cases h;exact ⟨rfl,fun x hx=>by simp at hx,fun i p h=>by simp [pcs] at h⟩
 |r::rows,xs,h=>by
  unfold qG at h;split at h
  ·rename_i heq;cases heq
  ·rename_i k s c l heq
   cases heq;split at h
   ·rename_i r' hr
    obtain ⟨h1,h2,h3⟩:=F9 hr
    have hget:∀ (i:Nat) (p:Int×ByteArray×Bool),(pcs ([.int .u8 k,.str s,.bool c]::rows))[i]?=some p→∃ s':List UInt8,([AV.int .u8 k,.str s,.bool c]::rows)[i]?=some [.int .u8 p.1,.str s',.bool p.2.2]∧p.2.1=⟨s'.toArray⟩:=fun i p hp=>by
     cases i with
     |zero=>simp [pcs,pc1] at hp;subst hp;exact ⟨s,rfl,rfl⟩
     |succ i=>exact h3 i p (by simpa [pcs] using hp)
    have hu:fS (pcs ([.int .u8 k,.str s,.bool c]::rows))=uF (k,⟨s.toArray⟩,c)++fS (pcs rows):=rfl
    by_cases h5:k=5
    ·rw [if_pos h5] at h
     cases h;refine ⟨?_, ?_,hget⟩
     ·rw [hu,h1,h5];rfl
     ·intro x hx
      rcases List.mem_cons.1 hx with rfl | hx
      ·exact ⟨rfl,fun v hv=>by simp at hv;subst hv;rfl⟩
      ·exact h2 x hx
    ·rw [if_neg h5] at h
     by_cases h1':k=1
     ·rw [if_pos h1'] at h
      cases h;refine ⟨?_, ?_,hget⟩
      ·rw [hu,h1,h1',List.map_append,List.map_map]
       congr 1
      ·intro x hx
       rcases List.mem_append.1 hx with hx | hx
       ·obtain ⟨n,_,rfl⟩:=List.mem_map.1 hx
        exact ⟨rfl,fun v hv=>by simp at hv;subst hv;rfl⟩
       ·exact h2 x hx
     ·rw [if_neg h1'] at h
      cases h;refine ⟨?_,h2,hget⟩;rw [hu,h1];unfold uF;rw [if_neg h5,if_neg h1'];rfl
   ·cases h
  ·cases h
def BB(H:List AObj):List AObj:=H.map fun x=>match x with
 |.siter _ _=>.dead
 |x=>x
theorem BC{H:List AObj}{i:Nat}{x:AObj}(h:(BB H)[i]?=some x):(x = .dead∨H[i]?=some x)∧∀ s p,x≠.siter s p:=by
 unfold BB at h;rw [List.getElem?_map] at h;cases hi:H[i]? with
 |none=>rw [hi] at h;cases h
 |some y=>
  rw [hi] at h;simp only [Option.map_some,Option.some.injEq] at h;cases y<;>subst h<;>simp
theorem Ho{H:List AObj}{t fr:Nat}{T:TypeId}(h:H[t]?=some (.tok fr T)):(BB H)[t]?=some (.tok fr T):=by
 unfold BB;rw [List.getElem?_map,h];rfl
theorem Hp{G:Nat→Option (List AV)}{cap:List AV}{H:List AObj}{xs:List (List AV)}{L:List Nat}(h:vh cap H=some (xs,L)) :
  (∀ x∈xs,x.length=1∧∀ v∈x,vO v=true)∧(∀ args w,(callFunc 88 args).run Tryz.prog w = .ok (.enter 88 args) w) ∧
  ∀ K w lb,K.glob=G→Inv K H w→Vs K cap lb→Mo Tryz.prog 88 lb (xs.map fun x=>(x.map rO).toArray) L K H:=by
 unfold vh at h;split at h
 ·rename_i id
  split at h
  ·rename_i tg rows cs T ho
   split at h
   ·rename_i r hr
    cases hle:Nat.ble rows.length 9223372036854775807 with
    |false=>rw [hle] at h;cases h
    |true=>
     rw [hle] at h;cases h;obtain ⟨e1,e2,e3⟩:=F9 hr;refine ⟨e2,fun args w=>j8 Tryz.func88 (by kernel_rfl) (by kernel_rfl) args w, ?_⟩;intro K w lb _ hi hv;obtain ⟨x0,rfl,hx0⟩:=uU hv;cases hx0 with
     |ptr _ _ cb hcb=>
      intro l W J Jx hiW hJ hJx hsz hY h0;obtain ⟨b,vs,T',hb,hbase,hheap,hlen,hcs,_⟩:=hiW.obj id _ ho;rw [hcb] at hb;cases hb;have hv0:=hcs 0 _ rfl
      have hB:∀ b s,K.shape b=some s→b<W.heap.size:=fun b s hs=>by
       have:=hiW.shape b s hs;cases s with
       |rows n=>obtain ⟨vs,T,f,h1,_⟩:=this;exact (Array.getElem?_eq_some_iff.1 h1).1
       |mapv es=>obtain ⟨c,h1⟩:=this;exact (Array.getElem?_eq_some_iff.1 h1).1
       |fix o=>exact (Array.getElem?_eq_some_iff.1 this.1).1
      have hbb:∀ b,W.heap.size≤b→K.base b:=hiW.base
      let KO:World→Prop:=fun W' => ∃ K' H',K.le K'∧Inv K' H' W'∧Low W.heap.size K' H'
      have toKO:∀ W',LW K H [] W'→KO W':=fun W' ⟨K',H',hk,hi',_⟩=>by
       have hb':∀ b,W.heap.size≤b→K'.base b:=fun b h=>by rw [hk.base];exact hbb b h
       refine ⟨K'.dim W.heap.size,BB H',Iz hk hB hb', ?_, ?_⟩
       ·exact (hi'.dim _).unsee (by simp [BB]) (fun i x hx=>(BC hx).1) fun t fr T ht=>Ho ht
       ·exact ⟨fun id b s p hx _=>absurd rfl ((BC hx).2 s p),fun b o ho=>(Ck ho).1⟩
      have hsl:∃ a cap',vs.getD 0 undef = .slice a (pcs rows).length cap'∧∀ W' k p,KO W'→(pcs rows)[k]?=some p→∃ b o,a=some ⟨b,o,none⟩∧W'.cell? ⟨b,o+k*3,none⟩=some (.int .u8 p.1)∧W'.cell? ⟨b,o+k*3+1,none⟩=some (.string p.2.1)∧W'.cell? ⟨b,o+k*3+2,none⟩=some (.bool p.2.2):=by
       generalize vs.getD 0 undef=x at hv0;cases hv0 with
       |slice0 _ _ a _=>exact ⟨a,0,rfl,fun W' k p _ hp=>by simp [pcs] at hp⟩
       |sliceAny _ _ a c _=>exact ⟨a,c,rfl,fun W' k p _ hp=>by simp [pcs] at hp⟩
       |slice _ _ _ b o c us hl him hvv hc ht=>
        refine ⟨_,c,by rw [F8],fun W' k p ⟨K',H',hk,hi',_⟩ hp=>⟨b,o,rfl, ?_⟩⟩;obtain ⟨s,hrow,hs⟩:=e3 k p hp
        have key:∀ j av,[AV.int .u8 p.1,.str s,.bool p.2.2][j]?=some av→W'.cell? ⟨b,o+k*3+j,none⟩=some (us k j)∧V K av (us k j):=fun j av hj=>
         ⟨hi'.imm _ _ _ (hk.imm _ _ _ (him k j _ av hrow hj)),hvv k j _ av hrow hj⟩
        obtain ⟨a0,b0⟩:=key 0 _ rfl;obtain ⟨a1,b1⟩:=key 1 _ rfl;obtain ⟨a2,b2⟩:=key 2 _ rfl;generalize us k 0=y0 at a0 b0;generalize us k 1=y1 at a1 b1;generalize us k 2=y2 at a2 b2;cases b0;cases b1;cases b2;exact ⟨a0,by rw [hs];exact a1,a2⟩
      obtain ⟨a,cap',hx,hcell⟩:=hsl
      have hcell0:W.cell? ⟨cb,0,none⟩=some (.slice a (pcs rows).length cap'):=by
       rw [← hx];simp only [World.cell?,hheap]
       have:0<vs.size:=by simp at hlen;omega
       simp [Array.getD,this]
      have hY':∀ i x W1,(fS (pcs rows))[i]?=some x→J i W1→YieldAt Fence.wide 0 Tryz.prog l x W1 fun e W'=>(e = .returned (.bool true)∧J (i+1) W'∧Bs W.heap.size W1 W'∧KO W')∨(e = .returned (.bool false)∧Jx W'):=fun i x W1 hx hj=>by
       rw [e1] at hx;refine (hY i x W1 hx hj).mono ?_;rintro e W' (⟨h1,h2,h3,h4⟩ | h1)
       ·exact .inl ⟨h1,h2,h3,toKO _ h4⟩
       ·exact .inr h1
      rw [← e1];refine KW l cb W W.heap.size J Jx KO a cap' (pcs rows) (by rw [F8];exact Nat.le_of_ble_eq_true hle) hcell0 hcell ?_ hJ hsz hY' h0 (toKO W ⟨K,H,.refl K,hiW,fun id h=>by simp at h⟩);rintro W1 W2 row ⟨K',H',hk,hi',hlow⟩ hg ht;exact ⟨K',H',hk,hi'.grown hlow (fun b h=>by rw [hk.base];exact hbb b h) hg ht,hlow⟩
   ·cases h
  ·cases h
 ·cases h
end Go.Am
end
