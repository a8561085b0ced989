import Derived.Test.YtaigoffbhbpplaaGreatDoorA3
import Derived.Carry
import Derived.Deep.Slices
import Derived.DataReads
/-
  Part 4 of the tool: an abstract machine over the model, proved sound, and what it says of the functions that the law reaches. Condition: none but those that each theorem names.
-/
set_option linter.unusedVariables false
set_option linter.unusedSimpArgs false
section
namespace Go.Am
structure uV where
 f:FuncId
 args:List AV
 heap:List AObj
 v:AV
def dd(n:Nat)(l:List AObj):List AObj:=List.replicate n .dead++l
def Sn(f:FuncId)(args:List AV)(H:List AObj):List uV→Option AV
 |[]=>none
 |p::ps=>bif Nat.beq f p.f&&AV.eqbL args p.args&&JA p.heap H then some p.v else Sn f args H ps
def pin(f:FuncId):List uV→Bool
 |[]=>false
 |p::ps=>bif Nat.beq f p.f then true else pin f ps
def uV.Ok(P:Program)(G:Nat→Option (List AV))(p:uV):Prop:=∀ H2,JA p.heap H2=true→dJ P G p.f p.args H2 fun r H'=>r = .ret p.v∧H'=H2
def E1of(E0:bb):bb := { E0 with wo:=woK E0 100000 }
def ZE(E0:bb)(ps:List uV)(f:FuncId)(args:List AV)(H:List AObj):Option Out:=
 match Sn f args H ps with
 |some v=>some (.ret v,H)
 |none=>bif pin f ps then CE XM (E1of E0) 100000 f args H else E0.orc f args H
def EPo(E0:bb)(ps:List uV):bb := { E0 with fn:=fun f=>bif pin f ps then none else E0.fn f,orc:=ZE E0 ps }
def EP(E0:bb)(ps:List uV):bb := { EPo E0 ps with wo:=woK (EPo E0 ps) 100000 }
theorem O0{P:Program}{G:Nat→Option (List AV)}{f:FuncId}{args:List AV}{H:List AObj}{v:AV}:∀ {ps:List uV},(∀ p∈ps,p.Ok P G)→Sn f args H ps=some v→dJ P G f args H fun r H'=>r = .ret v∧H'=H
 |[],_,h=>by cases h
 |p::ps,hp,h=>by
  unfold Sn at h;cases hb:(Nat.beq f p.f&&AV.eqbL args p.args&&JA p.heap H) with
  |true=>
   rw [hb] at h;cases h;simp only [Bool.and_eq_true] at hb;rw [ab4 hb.1.1,AV.eqbL_eq hb.1.2];exact hp p (by simp) H hb.2
  |false=>rw [hb] at h;exact O0 (fun q hq=>hp q (by simp [hq])) h
section
variable{E0:bb}(h0:E0.Ok)(hG:∀ n g cs,E0.G g=some cs→wkbL n cs=true)
include h0 hG in
theorem XZ:(E1of E0).Ok:=⟨h0.mixed,h0.fn,h0.dfn,fun _ _ _ _ _ h=>Vu h0 hG h,h0.orc,h0.meth,h0.seq⟩
include h0 hG in
theorem ZF{ps:List uV}(hp:∀ p∈ps,p.Ok E0.P E0.G)(hw:∀ f args H,E0.wo f args H=none):(EPo E0 ps).Ok:=⟨h0.mixed,fun f af h=>by
  have h':(bif pin f ps then none else E0.fn f)=some af:=h;cases hb:pin f ps with
  |true=>rw [hb] at h';cases h'
  |false=>rw [hb] at h';exact h0.fn f af h',h0.dfn,(fun f args H v L h=>by
  have h':E0.wo f args H=some (v,L):=h;rw [hw] at h';cases h'),fun f args H r H' h=>by
  have h':ZE E0 ps f args H=some (r,H'):=h;unfold ZE at h';split at h'
  ·rename_i v hv
   cases h';exact O0 hp hv
  ·cases hb:pin f ps with
   |true=>
    rw [hb] at h';exact ((z7 (XZ h0 hG) 100000).2 _ _ _ _ _ h').mono fun r H' e=>e
   |false=>rw [hb] at h';exact h0.orc _ _ _ _ _ h',h0.meth,h0.seq⟩
include h0 hG in
theorem Y6{ps:List uV}(hp:∀ p∈ps,p.Ok E0.P E0.G)(hw:∀ f args H,E0.wo f args H=none):(EP E0 ps).Ok:=
 have h:=ZF h0 hG hp hw
 ⟨h.mixed,h.fn,h.dfn,fun _ _ _ _ _ e=>Vu h hG e,h.orc,h.meth,h.seq⟩
include h0 hG in
theorem CM{ps:List uV}(hp:∀ p∈ps,p.Ok E0.P E0.G)(hw:∀ f args H,E0.wo f args H=none){p:uV}(h:Sj (EP E0 ps) 100000 p.f p.args p.heap=some p.v):∀ q∈p::ps,q.Ok E0.P E0.G:=fun q hq=>by
 rcases ach.1 hq with rfl | hq
 ·exact fun H2 hs=>OY (Y6 h0 hG hp hw) hG h hs
 ·exact hp q hq
end
end Go.Am
end
section
namespace Go.Am
open Go.RowKit Go.ChangeShapes
def aC.start(W:World)(G:Nat→Option (List AV)):aC:=
 {imm:=fun b o=>W.cell? ⟨b,o,none⟩,own:=fun _=>none,loc:=[],base:=fun b=>W.heap.size≤b,w0:=W,glob:=G,shape:=D4 W }
theorem Inv.start(W:World)(G:Nat→Option (List AV))(hG:∀ (g:Nat) (cs:List AV),G g=some cs→V (aC.start W G) (.vptr cs.length [cs] 0 0) (.pointer (some ⟨g,0,none⟩))):Inv (aC.start W G) [] W:=
 ⟨wc.refl _ _,fun _ h=>h,fun _ _ _ h=>h,rfl,(fun id x h=>by simp at h),(fun i j x y h=>by simp at h),(fun b t n h=>by cases h),hG,fun b s h=>OX h⟩
section
variable{P:Program}
theorem TO{G:Nat→Option (List AV)}{f:FuncId}{args:List AV}{W:World}{cargs:Array Value}(h:dJ P G f args [] fun r H'=>r = .ret (.bool true)∧H'=[])
  (hG:∀ (g:Nat) (cs:List AV),G g=some cs→V (aC.start W G) (.vptr cs.length [cs] 0 0) (.pointer (some ⟨g,0,none⟩)))
  (hb:(callFunc f cargs).run P W = .ok (.enter f cargs) W) (hv:Vs (aC.start W G) args cargs):Calls P f cargs W fun e w'=>e = .returned (.bool true)∧Below W.heap.size W w':=by
 rcases h (aC.start W G) W cargs rfl (Inv.start W G hG) hv with ⟨_,h2⟩ | ⟨cv,w',h1,_⟩
 ·refine h2.mono ?_
  rintro e w' ⟨K',r,H',hk,he,hi,rfl,rfl⟩;have hkept:=hi.below;rw [hk.base,hk.w0] at hkept;refine ⟨?_,hkept.below fun b hb=>hb⟩;cases e with
  |panicked c=>exact he.elim
  |outgrown=>exact he.elim
  |returned x=>
   have hx:V K' (.bool true) x:=he;cases hx;rfl
 ·rw [hb] at h1;cases h1
theorem D5{H:Type}{enc:TypeId×Value→H}(hl:laidOutB P=true){W W':World}(hb:Below W.heap.size W W'):∀ (ts:List TypeId) (vs:List Value) (ds:List (DataW H)) (ps:List MemPlace),
  (∀ t∈ts,P.readableRec t=true∧t<P.types.size)→DataW.TrodAll enc P W 0 (fun _=>true) true ts vs ds ps→(∀ x∈ps,x.block<W.heap.size) →
  DataW.TrodAll enc P W' 0 (fun b=>decide (b<W.heap.size)) true ts vs ds ps
 |[],_,_,_,_,h,_=>by
  obtain ⟨rfl,rfl,rfl⟩:=trodAll_nil h;rfl
 |t::ts,_,_,_,hr,h,hlt=>by
  obtain ⟨v,vs1,d,ds1,a,b,rfl,rfl,rfl,h1,h2⟩:=trodAll_cons h;exact ⟨a,b,Below.trod hl (hr t (by simp)).1 (hr t (by simp)).2 h1 hb (fun x hx=>hlt x (by simp [hx])),D5 hl hb ts vs1 ds1 b (fun u hu=>hr u (by simp [hu])) h2 (fun x hx=>hlt x (by simp [hx])),rfl⟩
end
end Go.Am
end
section
namespace Go.Am.Sh
open Go.RowKit
abbrev t(n:Nat):RX:=.t n
abbrev i(n:Int):RX:=.c (.int .i64 n)
abbrev u(n:Int):RX:=.c (.int .u8 n)
abbrev T:RX:=.c (.bool true)
abbrev F:RX:=.c (.bool false)
abbrev s(x:List UInt8):RX:=.c (.str x)
abbrev f(n:Nat):RX:=.c (.fn (.func n) [] [])
abbrev o(d:Nat)(x:ROp):RO:=⟨some d,none,.op x⟩
abbrev n(x:ROp):RO:=⟨none,none,.op x⟩
abbrev g(d q:Nat)(x:ROp):RO:=⟨some d,some (q,true),.op x⟩
abbrev h(d q:Nat)(x:ROp):RO:=⟨some d,some (q,false),.op x⟩
abbrev k(d:Nat)(x:RX)(l:List RX):RO:=⟨some d,none,.call x l⟩
abbrev m(d x:Nat):RO:=⟨some d,none,.op (.mv (.t x))⟩
abbrev mc(d:Nat)(x:RX):RO:=⟨some d,none,.op (.mv x)⟩
abbrev ld(d x:Nat):RO:=⟨some d,none,.op (.ld none (.t x))⟩
abbrev la(d j x:Nat):RO:=⟨some d,none,.op (.ld (some j) (.t x))⟩
abbrev fa(d j x:Nat):RO:=⟨some d,none,.op (.fa j (.t x))⟩
abbrev ia(d j x y:Nat):RO:=⟨some d,none,.op (.ias j (.t x) (.t y))⟩
abbrev ls(d x:Nat):RO:=⟨some d,none,.op (.len .sl (.t x))⟩
abbrev lt(d x:Nat):RO:=⟨some d,none,.op (.len .str (.t x))⟩
abbrev ad(d x:Nat):RO:=⟨some d,none,.op (.ar .add (.t x) (.c (.int .i64 1)))⟩
abbrev bl(d x y:Nat):RO:=⟨some d,none,.op (.ar .lss (.t x) (.t y))⟩
abbrev no(d x:Nat):RO:=⟨some d,none,.op (.un .not (.t x))⟩
abbrev ex(d x j:Nat):RO:=⟨some d,none,.op (.ex (.t x) j)⟩
abbrev P(x:RO):RO×Cl:=(x,.pure)
abbrev W(x:RO):RO×Cl:=(x,.wide)
abbrev E(x:RO):RO×Cl:=(x,.eff)
abbrev K(x:RO):RO×Cl:=(x,.keep)
abbrev Q(x y:AC):AC:=.seq x y
abbrev C(c:Nat)(x y:AC):AC:=.cond (.t c) x y
abbrev O(l:List RO):AC:=.ops l
abbrev D(l:List (RO×Cl)):AC:=.dops false [] [] l
abbrev Y(l:List Nat):AC:=.lv l
abbrev R:AC:=.ret
abbrev X:AC:=.skip
abbrev ar(d:Nat)(op:BinOp)(x y:Nat):RO:=⟨some d,none,.op (.ar op (.t x) (.t y))⟩
abbrev ac(d:Nat)(op:BinOp)(x:Nat)(y:RX):RO:=⟨some d,none,.op (.ar op (.t x) y)⟩
abbrev pf(d c x:Nat):RO:=⟨some d,none,.op (.pk (.t c) (.t x) (.c (.bool false)))⟩
abbrev pt(d c x:Nat):RO:=⟨some d,none,.op (.pk (.t c) (.c (.bool true)) (.t x))⟩
abbrev k1(d f x:Nat):RO:=⟨some d,none,.call (.c (.fn (.func f) [] [])) [.t x]⟩
abbrev k2(d f x y:Nat):RO:=⟨some d,none,.call (.c (.fn (.func f) [] [])) [.t x,.t y]⟩
abbrev rt(d:Nat)(x:RX):AC:=.seq (.ops [⟨some d,none,.op (.mv x)⟩]) .ret
abbrev lo(l:List Nat)(x:AC):AC:=.loop ⟨some l,[],false⟩ x
abbrev lc(l:List Nat)(x:AC):AC:=.loop ⟨some l,[],true⟩ x
abbrev ic(b a c:Nat):AC:=.ops [⟨some b,none,.op (.mv (.t a))⟩,⟨some c,none,.op (.ar .add (.t b) (.c (.int .i64 1)))⟩,⟨some a,none,.op (.mv (.t c))⟩]
abbrev Pm(d x:Nat):RO×Cl:=(⟨some d,none,.op (.mv (.t x))⟩,.pure)
abbrev Pf(d j x:Nat):RO×Cl:=(⟨some d,none,.op (.fa j (.t x))⟩,.pure)
abbrev Wl(d x:Nat):RO×Cl:=(⟨some d,none,.op (.ld none (.t x))⟩,.wide)
abbrev qf(a:AFn)(r:List yD)(m:RM):Prop:=a.res=r∧a.mode=m∧a.dfr=none
end Go.Am.Sh
end
section
set_option linter.defProp false
namespace Go.Am
open Go.RowKit
abbrev Str:=List UInt8
abbrev aQ:Nat:=9223372036854775807
def I64(n:Int):Prop := -9223372036854775808≤n∧n≤9223372036854775807
structure Sl (α:Type) where
 tag:Tag
 l:List α
def Tag.strip:Tag→Tag
 |.own _=>.any
 |t=>t
def Sl.strip{α:Type}(s:Sl α):Sl α:=⟨s.tag.strip,s.l⟩
theorem yY(t:Tag)(n:Nat)(r:List (List AV)):AV.strip (.slice t n r) = .slice t.strip n r:=by cases t<;>rfl
theorem mJ:(∀ (t:Tag) (n:Nat) (r:List (List AV)),AV.strip (.slice t n r) = .slice t.strip n r)∧(∀ (x:AV) (l:List AV),List.map AV.strip (x::l)=AV.strip x::List.map AV.strip l)∧List.map AV.strip []=[]∧(∀ a b:List AV,List.map AV.strip (a++b)=List.map AV.strip a++List.map AV.strip b):=
 ⟨yY,fun _ _=>rfl,rfl,fun _ _=>List.map_append⟩
structure Sl.ok {α:Type} (s:Sl α) (n:Nat) (p:α→Prop):Prop where
 tag:kI n s.tag
 len:s.l.length≤aQ
 all:∀ x∈s.l,p x
theorem kI.mono{n m:Nat}{t:Tag}(h:kI n t)(hn:n≤m):kI m t:=by
 cases t<;>first | trivial | exact ab5 h hn
theorem Sl.ok.mono{α:Type}{s:Sl α}{n m:Nat}{p q:α→Prop}(h:s.ok n p)(hn:n≤m)(hp:∀ x,p x→q x):s.ok m q:=
 ⟨h.tag.mono hn,h.len,fun x hx=>hp x (h.all x hx)⟩
theorem Sl.ok.wk{α:Type}{s:Sl α}{n esz:Nat}{p:α→Prop}{row:α→List AV}(h:s.ok n p)(hr:∀ x,p x→WkL n (row x) (row x)):Wk n (.slice s.tag esz (s.l.map row)) (.slice s.tag esz (s.l.map row)):=
 wk_slice h.tag (by rw [rowsWk_map];exact fun x hx=>hr x (h.all x hx))
theorem JC{n:Nat}:∀ {a b c d:List AV},WkL n a b→WkL n c d→WkL n (a++c) (b++d)
 |[],[],_,_,_,h=>h
 |_::_,_::_,_,_,h,h'=>⟨h.1,JC h.2 h'⟩
 |[],_::_,_,_,h,_=>h.elim
 |_::_,[],_,_,h,_=>h.elim
def dz(s:Str):List AV:=[.str s]
def Vw(n:Int):List AV:=[.int .i64 n]
theorem Ba:(∀ s:Str,bP none (dz s) 0=some (.str s))∧(∀ n:Int,bP none (Vw n) 0=some (.int .i64 n)):=⟨fun _=>rfl,fun _=>rfl⟩
structure ah where
 name:Str
 value:Str
def ah.row(x:ah):List AV:=[.str x.name,.str x.value]
theorem qy:(∀ x:ah,pq 2 (ah.row x)=some (ah.row x))∧(∀ x:ah,bP none (ah.row x) 0=some (.str x.name))∧(∀ x:ah,bP none (ah.row x) 1=some (.str x.value))∧(∀ x:ah,(ah.row x).length=2)∧(∀ x:ah,(ah.row x).all AV.cell=true)∧(∀ x:ah,∀ c0 c1:AV,aN [c0,c1] 0 (ah.row x)=ah.row x)∧(∀ x:ah,∀ y:ah,aN (ah.row y) 0 (ah.row x)=ah.row x)∧(∀ x:ah,∀ (y:Str),aN (ah.row x) 0 [.str y]=ah.row { x with name:=y })∧(∀ x:ah,∀ (y:Str),aN (ah.row x) 1 [.str y]=ah.row { x with value:=y })∧(∀ x:ah,(ah.row x).map AV.strip=ah.row x)∧(∀ x:ah,(ah.row x).take 2=ah.row x)∧(∀ x:ah,(ah.row x).drop 2=[]):=
 by refine ⟨?_, ?_, ?_, ?_, ?_, ?_, ?_, ?_, ?_, ?_, ?_, ?_⟩<;>(intros;first | rfl | (simp only [ah.row];rfl) | (simp only [ah.row,mJ];rfl))
structure ah.ok (n:Nat) (x:ah):Prop where
 name:x.name.length≤aQ
 value:x.value.length≤aQ
theorem ah.ok.mono{n m:Nat}{x:ah}(h:x.ok n)(hn:n≤m):x.ok m:=⟨h.name,h.value⟩
theorem ah.ok.wk{n:Nat}{x:ah}(h:x.ok n):WkL n x.row x.row:=⟨wk_str _ _,wk_str _ _,trivial⟩
structure aO where
 name:Str
 values:Sl Str
def aO.row(x:aO):List AV:=[.str x.name,.slice x.values.tag 1 (x.values.l.map dz)]
def aO.strip(x:aO):aO := { x with values:=x.values.strip }
theorem sk:(∀ x:aO,pq 2 (aO.row x)=some (aO.row x))∧(∀ x:aO,bP none (aO.row x) 0=some (.str x.name))∧(∀ x:aO,bP none (aO.row x) 1=some (.slice x.values.tag 1 (x.values.l.map dz)))∧(∀ x:aO,(aO.row x).length=2)∧(∀ x:aO,(aO.row x).all AV.cell=true)∧(∀ x:aO,∀ c0 c1:AV,aN [c0,c1] 0 (aO.row x)=aO.row x)∧(∀ x:aO,∀ y:aO,aN (aO.row y) 0 (aO.row x)=aO.row x)∧(∀ x:aO,∀ (y:Str),aN (aO.row x) 0 [.str y]=aO.row { x with name:=y })∧(∀ x:aO,∀ (t:Tag) (l:List Str),aN (aO.row x) 1 [.slice t 1 (l.map dz)]=aO.row { x with values:=⟨t,l⟩ })∧(∀ x:aO,(aO.row x).map AV.strip=aO.row x.strip)∧(∀ x:aO,(aO.row x).take 2=aO.row x)∧(∀ x:aO,(aO.row x).drop 2=[]):=
 by refine ⟨?_, ?_, ?_, ?_, ?_, ?_, ?_, ?_, ?_, ?_, ?_, ?_⟩<;>(intros;first | rfl | (simp only [aO.row];rfl) | (simp only [aO.row,mJ];rfl))
structure aO.ok (n:Nat) (x:aO):Prop where
 name:x.name.length≤aQ
 values:x.values.ok n (fun s=>s.length≤aQ)
theorem aO.ok.mono{n m:Nat}{x:aO}(h:x.ok n)(hn:n≤m):x.ok m:=⟨h.name,h.values.mono hn (fun _ h=>h)⟩
theorem aO.ok.wk{n:Nat}{x:aO}(h:x.ok n):WkL n x.row x.row:=⟨wk_str _ _,h.values.wk (fun _ _=>⟨wk_str _ _,trivial⟩),trivial⟩
structure aK where
 cut:Int
 pre:Str
 add:Str
 feats:Sl ah
def aK.row(x:aK):List AV:=[.int .i64 x.cut,.str x.pre,.str x.add,.slice x.feats.tag 2 (x.feats.l.map ah.row)]
def aK.strip(x:aK):aK := { x with feats:=x.feats.strip }
theorem ku:(∀ x:aK,pq 4 (aK.row x)=some (aK.row x))∧(∀ x:aK,bP none (aK.row x) 0=some (.int .i64 x.cut))∧(∀ x:aK,bP none (aK.row x) 1=some (.str x.pre))∧(∀ x:aK,bP none (aK.row x) 2=some (.str x.add))∧(∀ x:aK,bP none (aK.row x) 3=some (.slice x.feats.tag 2 (x.feats.l.map ah.row)))∧(∀ x:aK,(aK.row x).length=4)∧(∀ x:aK,(aK.row x).all AV.cell=true)∧(∀ x:aK,∀ c0 c1 c2 c3:AV,aN [c0,c1,c2,c3] 0 (aK.row x)=aK.row x)∧(∀ x:aK,∀ y:aK,aN (aK.row y) 0 (aK.row x)=aK.row x)∧(∀ x:aK,∀ (y:Int),aN (aK.row x) 0 [.int .i64 y]=aK.row { x with cut:=y })∧(∀ x:aK,∀ (y:Str),aN (aK.row x) 1 [.str y]=aK.row { x with pre:=y })∧(∀ x:aK,∀ (y:Str),aN (aK.row x) 2 [.str y]=aK.row { x with add:=y })∧(∀ x:aK,∀ (t:Tag) (l:List ah),aN (aK.row x) 3 [.slice t 2 (l.map ah.row)]=aK.row { x with feats:=⟨t,l⟩ })∧(∀ x:aK,(aK.row x).map AV.strip=aK.row x.strip)∧(∀ x:aK,(aK.row x).take 4=aK.row x)∧(∀ x:aK,(aK.row x).drop 4=[]):=
 by refine ⟨?_, ?_, ?_, ?_, ?_, ?_, ?_, ?_, ?_, ?_, ?_, ?_, ?_, ?_, ?_, ?_⟩<;>(intros;first | rfl | (simp only [aK.row];rfl) | (simp only [aK.row,mJ];rfl))
structure aK.ok (n:Nat) (x:aK):Prop where
 cut:I64 x.cut
 pre:x.pre.length≤aQ
 add:x.add.length≤aQ
 feats:x.feats.ok n (ah.ok n)
theorem aK.ok.mono{n m:Nat}{x:aK}(h:x.ok n)(hn:n≤m):x.ok m:=⟨h.cut,h.pre,h.add,h.feats.mono hn (fun _ h=>h.mono hn)⟩
theorem aK.ok.wk{n:Nat}{x:aK}(h:x.ok n):WkL n x.row x.row:=⟨wk_int _ _ _,wk_str _ _,wk_str _ _,h.feats.wk (fun _ h=>h.wk),trivial⟩
structure aE where
 name:Str
 slots:Sl aK
def aE.row(x:aE):List AV:=[.str x.name,.slice x.slots.tag 4 (x.slots.l.map aK.row)]
def aE.strip(x:aE):aE := { x with slots:=x.slots.strip }
theorem jC:(∀ x:aE,pq 2 (aE.row x)=some (aE.row x))∧(∀ x:aE,bP none (aE.row x) 0=some (.str x.name))∧(∀ x:aE,bP none (aE.row x) 1=some (.slice x.slots.tag 4 (x.slots.l.map aK.row)))∧(∀ x:aE,(aE.row x).length=2)∧(∀ x:aE,(aE.row x).all AV.cell=true)∧(∀ x:aE,∀ c0 c1:AV,aN [c0,c1] 0 (aE.row x)=aE.row x)∧(∀ x:aE,∀ y:aE,aN (aE.row y) 0 (aE.row x)=aE.row x)∧(∀ x:aE,∀ (y:Str),aN (aE.row x) 0 [.str y]=aE.row { x with name:=y })∧(∀ x:aE,∀ (t:Tag) (l:List aK),aN (aE.row x) 1 [.slice t 4 (l.map aK.row)]=aE.row { x with slots:=⟨t,l⟩ })∧(∀ x:aE,(aE.row x).map AV.strip=aE.row x.strip)∧(∀ x:aE,(aE.row x).take 2=aE.row x)∧(∀ x:aE,(aE.row x).drop 2=[]):=
 by refine ⟨?_, ?_, ?_, ?_, ?_, ?_, ?_, ?_, ?_, ?_, ?_, ?_⟩<;>(intros;first | rfl | (simp only [aE.row];rfl) | (simp only [aE.row,mJ];rfl))
structure aE.ok (n:Nat) (x:aE):Prop where
 name:x.name.length≤aQ
 slots:x.slots.ok n (aK.ok n)
theorem aE.ok.mono{n m:Nat}{x:aE}(h:x.ok n)(hn:n≤m):x.ok m:=⟨h.name,h.slots.mono hn (fun _ h=>h.mono hn)⟩
theorem aE.ok.wk{n:Nat}{x:aE}(h:x.ok n):WkL n x.row x.row:=⟨wk_str _ _,h.slots.wk (fun _ h=>h.wk),trivial⟩
structure bu where
 slot:Int
 word:Str
def bu.row(x:bu):List AV:=[.int .i64 x.slot,.str x.word]
theorem CN:(∀ x:bu,pq 2 (bu.row x)=some (bu.row x))∧(∀ x:bu,bP none (bu.row x) 0=some (.int .i64 x.slot))∧(∀ x:bu,bP none (bu.row x) 1=some (.str x.word))∧(∀ x:bu,(bu.row x).length=2)∧(∀ x:bu,(bu.row x).all AV.cell=true)∧(∀ x:bu,∀ c0 c1:AV,aN [c0,c1] 0 (bu.row x)=bu.row x)∧(∀ x:bu,∀ y:bu,aN (bu.row y) 0 (bu.row x)=bu.row x)∧(∀ x:bu,∀ (y:Int),aN (bu.row x) 0 [.int .i64 y]=bu.row { x with slot:=y })∧(∀ x:bu,∀ (y:Str),aN (bu.row x) 1 [.str y]=bu.row { x with word:=y })∧(∀ x:bu,(bu.row x).map AV.strip=bu.row x)∧(∀ x:bu,(bu.row x).take 2=bu.row x)∧(∀ x:bu,(bu.row x).drop 2=[]):=
 by refine ⟨?_, ?_, ?_, ?_, ?_, ?_, ?_, ?_, ?_, ?_, ?_, ?_⟩<;>(intros;first | rfl | (simp only [bu.row];rfl) | (simp only [bu.row,mJ];rfl))
structure bu.ok (n:Nat) (x:bu):Prop where
 slot:I64 x.slot
 word:x.word.length≤aQ
theorem bu.ok.mono{n m:Nat}{x:bu}(h:x.ok n)(hn:n≤m):x.ok m:=⟨h.slot,h.word⟩
theorem bu.ok.wk{n:Nat}{x:bu}(h:x.ok n):WkL n x.row x.row:=⟨wk_int _ _ _,wk_str _ _,trivial⟩
structure aj where
 lem:Str
 cls:Str
 feats:Sl ah
 forms:Sl bu
def aj.row(x:aj):List AV:=[.str x.lem,.str x.cls,.slice x.feats.tag 2 (x.feats.l.map ah.row),.slice x.forms.tag 2 (x.forms.l.map bu.row)]
def aj.strip(x:aj):aj := { x with feats:=x.feats.strip,forms:=x.forms.strip }
theorem cW:(∀ x:aj,pq 4 (aj.row x)=some (aj.row x))∧(∀ x:aj,bP none (aj.row x) 0=some (.str x.lem))∧(∀ x:aj,bP none (aj.row x) 1=some (.str x.cls))∧(∀ x:aj,bP none (aj.row x) 2=some (.slice x.feats.tag 2 (x.feats.l.map ah.row)))∧(∀ x:aj,bP none (aj.row x) 3=some (.slice x.forms.tag 2 (x.forms.l.map bu.row)))∧(∀ x:aj,(aj.row x).length=4)∧(∀ x:aj,(aj.row x).all AV.cell=true)∧(∀ x:aj,∀ c0 c1 c2 c3:AV,aN [c0,c1,c2,c3] 0 (aj.row x)=aj.row x)∧(∀ x:aj,∀ y:aj,aN (aj.row y) 0 (aj.row x)=aj.row x)∧(∀ x:aj,∀ (y:Str),aN (aj.row x) 0 [.str y]=aj.row { x with lem:=y })∧(∀ x:aj,∀ (y:Str),aN (aj.row x) 1 [.str y]=aj.row { x with cls:=y })∧(∀ x:aj,∀ (t:Tag) (l:List ah),aN (aj.row x) 2 [.slice t 2 (l.map ah.row)]=aj.row { x with feats:=⟨t,l⟩ })∧(∀ x:aj,∀ (t:Tag) (l:List bu),aN (aj.row x) 3 [.slice t 2 (l.map bu.row)]=aj.row { x with forms:=⟨t,l⟩ })∧(∀ x:aj,(aj.row x).map AV.strip=aj.row x.strip)∧(∀ x:aj,(aj.row x).take 4=aj.row x)∧(∀ x:aj,(aj.row x).drop 4=[]):=
 by refine ⟨?_, ?_, ?_, ?_, ?_, ?_, ?_, ?_, ?_, ?_, ?_, ?_, ?_, ?_, ?_, ?_⟩<;>(intros;first | rfl | (simp only [aj.row];rfl) | (simp only [aj.row,mJ];rfl))
structure aj.ok (n:Nat) (x:aj):Prop where
 lem:x.lem.length≤aQ
 cls:x.cls.length≤aQ
 feats:x.feats.ok n (ah.ok n)
 forms:x.forms.ok n (bu.ok n)
theorem aj.ok.mono{n m:Nat}{x:aj}(h:x.ok n)(hn:n≤m):x.ok m:=⟨h.lem,h.cls,h.feats.mono hn (fun _ h=>h.mono hn),h.forms.mono hn (fun _ h=>h.mono hn)⟩
theorem aj.ok.wk{n:Nat}{x:aj}(h:x.ok n):WkL n x.row x.row:=⟨wk_str _ _,wk_str _ _,h.feats.wk (fun _ h=>h.wk),h.forms.wk (fun _ h=>h.wk),trivial⟩
structure a7 where
 frm:Str
 to:Str
 left:Str
 right:Str
def a7.row(x:a7):List AV:=[.str x.frm,.str x.to,.str x.left,.str x.right]
theorem oH:(∀ x:a7,pq 4 (a7.row x)=some (a7.row x))∧(∀ x:a7,bP none (a7.row x) 0=some (.str x.frm))∧(∀ x:a7,bP none (a7.row x) 1=some (.str x.to))∧(∀ x:a7,bP none (a7.row x) 2=some (.str x.left))∧(∀ x:a7,bP none (a7.row x) 3=some (.str x.right))∧(∀ x:a7,(a7.row x).length=4)∧(∀ x:a7,(a7.row x).all AV.cell=true)∧(∀ x:a7,∀ c0 c1 c2 c3:AV,aN [c0,c1,c2,c3] 0 (a7.row x)=a7.row x)∧(∀ x:a7,∀ y:a7,aN (a7.row y) 0 (a7.row x)=a7.row x)∧(∀ x:a7,∀ (y:Str),aN (a7.row x) 0 [.str y]=a7.row { x with frm:=y })∧(∀ x:a7,∀ (y:Str),aN (a7.row x) 1 [.str y]=a7.row { x with to:=y })∧(∀ x:a7,∀ (y:Str),aN (a7.row x) 2 [.str y]=a7.row { x with left:=y })∧(∀ x:a7,∀ (y:Str),aN (a7.row x) 3 [.str y]=a7.row { x with right:=y })∧(∀ x:a7,(a7.row x).map AV.strip=a7.row x)∧(∀ x:a7,(a7.row x).take 4=a7.row x)∧(∀ x:a7,(a7.row x).drop 4=[]):=
 by refine ⟨?_, ?_, ?_, ?_, ?_, ?_, ?_, ?_, ?_, ?_, ?_, ?_, ?_, ?_, ?_, ?_⟩<;>(intros;first | rfl | (simp only [a7.row];rfl) | (simp only [a7.row,mJ];rfl))
structure a7.ok (n:Nat) (x:a7):Prop where
 frm:x.frm.length≤aQ
 to:x.to.length≤aQ
 left:x.left.length≤aQ
 right:x.right.length≤aQ
theorem a7.ok.mono{n m:Nat}{x:a7}(h:x.ok n)(hn:n≤m):x.ok m:=⟨h.frm,h.to,h.left,h.right⟩
theorem a7.ok.wk{n:Nat}{x:a7}(h:x.ok n):WkL n x.row x.row:=⟨wk_str _ _,wk_str _ _,wk_str _ _,wk_str _ _,trivial⟩
structure bB where
 cls:Str
 glue:Str
 feats:Sl ah
def bB.row(x:bB):List AV:=[.str x.cls,.str x.glue,.slice x.feats.tag 2 (x.feats.l.map ah.row)]
def bB.strip(x:bB):bB := { x with feats:=x.feats.strip }
theorem vF:(∀ x:bB,pq 3 (bB.row x)=some (bB.row x))∧(∀ x:bB,bP none (bB.row x) 0=some (.str x.cls))∧(∀ x:bB,bP none (bB.row x) 1=some (.str x.glue))∧(∀ x:bB,bP none (bB.row x) 2=some (.slice x.feats.tag 2 (x.feats.l.map ah.row)))∧(∀ x:bB,(bB.row x).length=3)∧(∀ x:bB,(bB.row x).all AV.cell=true)∧(∀ x:bB,∀ c0 c1 c2:AV,aN [c0,c1,c2] 0 (bB.row x)=bB.row x)∧(∀ x:bB,∀ y:bB,aN (bB.row y) 0 (bB.row x)=bB.row x)∧(∀ x:bB,∀ (y:Str),aN (bB.row x) 0 [.str y]=bB.row { x with cls:=y })∧(∀ x:bB,∀ (y:Str),aN (bB.row x) 1 [.str y]=bB.row { x with glue:=y })∧(∀ x:bB,∀ (t:Tag) (l:List ah),aN (bB.row x) 2 [.slice t 2 (l.map ah.row)]=bB.row { x with feats:=⟨t,l⟩ })∧(∀ x:bB,(bB.row x).map AV.strip=bB.row x.strip)∧(∀ x:bB,(bB.row x).take 3=bB.row x)∧(∀ x:bB,(bB.row x).drop 3=[]):=
 by refine ⟨?_, ?_, ?_, ?_, ?_, ?_, ?_, ?_, ?_, ?_, ?_, ?_, ?_, ?_⟩<;>(intros;first | rfl | (simp only [bB.row];rfl) | (simp only [bB.row,mJ];rfl))
structure bB.ok (n:Nat) (x:bB):Prop where
 cls:x.cls.length≤aQ
 glue:x.glue.length≤aQ
 feats:x.feats.ok n (ah.ok n)
theorem bB.ok.mono{n m:Nat}{x:bB}(h:x.ok n)(hn:n≤m):x.ok m:=⟨h.cls,h.glue,h.feats.mono hn (fun _ h=>h.mono hn)⟩
theorem bB.ok.wk{n:Nat}{x:bB}(h:x.ok n):WkL n x.row x.row:=⟨wk_str _ _,wk_str _ _,h.feats.wk (fun _ h=>h.wk),trivial⟩
structure Lex where
 vowels:Str
 traits:Sl aO
 classes:Sl aE
 entries:Sl aj
 spells:Sl a7
 links:Sl bB
def Lex.row(x:Lex):List AV:=[.str x.vowels,.slice x.traits.tag 2 (x.traits.l.map aO.row),.slice x.classes.tag 2 (x.classes.l.map aE.row),.slice x.entries.tag 4 (x.entries.l.map aj.row),.slice x.spells.tag 4 (x.spells.l.map a7.row),.slice x.links.tag 3 (x.links.l.map bB.row)]
def Lex.strip(x:Lex):Lex := { x with traits:=x.traits.strip,classes:=x.classes.strip,entries:=x.entries.strip,spells:=x.spells.strip,links:=x.links.strip }
theorem br:(∀ x:Lex,pq 6 (Lex.row x)=some (Lex.row x))∧(∀ x:Lex,bP none (Lex.row x) 0=some (.str x.vowels))∧(∀ x:Lex,bP none (Lex.row x) 1=some (.slice x.traits.tag 2 (x.traits.l.map aO.row)))∧(∀ x:Lex,bP none (Lex.row x) 2=some (.slice x.classes.tag 2 (x.classes.l.map aE.row)))∧(∀ x:Lex,bP none (Lex.row x) 3=some (.slice x.entries.tag 4 (x.entries.l.map aj.row)))∧(∀ x:Lex,bP none (Lex.row x) 4=some (.slice x.spells.tag 4 (x.spells.l.map a7.row)))∧(∀ x:Lex,bP none (Lex.row x) 5=some (.slice x.links.tag 3 (x.links.l.map bB.row)))∧(∀ x:Lex,(Lex.row x).length=6)∧(∀ x:Lex,(Lex.row x).all AV.cell=true)∧(∀ x:Lex,∀ c0 c1 c2 c3 c4 c5:AV,aN [c0,c1,c2,c3,c4,c5] 0 (Lex.row x)=Lex.row x)∧(∀ x:Lex,∀ y:Lex,aN (Lex.row y) 0 (Lex.row x)=Lex.row x)∧(∀ x:Lex,∀ (y:Str),aN (Lex.row x) 0 [.str y]=Lex.row { x with vowels:=y })∧(∀ x:Lex,∀ (t:Tag) (l:List aO),aN (Lex.row x) 1 [.slice t 2 (l.map aO.row)]=Lex.row { x with traits:=⟨t,l⟩ })∧(∀ x:Lex,∀ (t:Tag) (l:List aE),aN (Lex.row x) 2 [.slice t 2 (l.map aE.row)]=Lex.row { x with classes:=⟨t,l⟩ })∧(∀ x:Lex,∀ (t:Tag) (l:List aj),aN (Lex.row x) 3 [.slice t 4 (l.map aj.row)]=Lex.row { x with entries:=⟨t,l⟩ })∧(∀ x:Lex,∀ (t:Tag) (l:List a7),aN (Lex.row x) 4 [.slice t 4 (l.map a7.row)]=Lex.row { x with spells:=⟨t,l⟩ })∧(∀ x:Lex,∀ (t:Tag) (l:List bB),aN (Lex.row x) 5 [.slice t 3 (l.map bB.row)]=Lex.row { x with links:=⟨t,l⟩ })∧(∀ x:Lex,(Lex.row x).map AV.strip=Lex.row x.strip)∧(∀ x:Lex,(Lex.row x).take 6=Lex.row x)∧(∀ x:Lex,(Lex.row x).drop 6=[]):=
 by refine ⟨?_, ?_, ?_, ?_, ?_, ?_, ?_, ?_, ?_, ?_, ?_, ?_, ?_, ?_, ?_, ?_, ?_, ?_, ?_, ?_⟩<;>(intros;first | rfl | (simp only [Lex.row];rfl) | (simp only [Lex.row,mJ];rfl))
structure Lex.ok (n:Nat) (x:Lex):Prop where
 vowels:x.vowels.length≤aQ
 traits:x.traits.ok n (aO.ok n)
 classes:x.classes.ok n (aE.ok n)
 entries:x.entries.ok n (aj.ok n)
 spells:x.spells.ok n (a7.ok n)
 links:x.links.ok n (bB.ok n)
theorem Lex.ok.mono{n m:Nat}{x:Lex}(h:x.ok n)(hn:n≤m):x.ok m:=⟨h.vowels,h.traits.mono hn (fun _ h=>h.mono hn),h.classes.mono hn (fun _ h=>h.mono hn),h.entries.mono hn (fun _ h=>h.mono hn),h.spells.mono hn (fun _ h=>h.mono hn),h.links.mono hn (fun _ h=>h.mono hn)⟩
theorem Lex.ok.wk{n:Nat}{x:Lex}(h:x.ok n):WkL n x.row x.row:=⟨wk_str _ _,h.traits.wk (fun _ h=>h.wk),h.classes.wk (fun _ h=>h.wk),h.entries.wk (fun _ h=>h.wk),h.spells.wk (fun _ h=>h.wk),h.links.wk (fun _ h=>h.wk),trivial⟩
structure aD where
 entry:Int
 slot:Int
 link:Int
def aD.row(x:aD):List AV:=[.int .i64 x.entry,.int .i64 x.slot,.int .i64 x.link]
theorem vM:(∀ x:aD,pq 3 (aD.row x)=some (aD.row x))∧(∀ x:aD,bP none (aD.row x) 0=some (.int .i64 x.entry))∧(∀ x:aD,bP none (aD.row x) 1=some (.int .i64 x.slot))∧(∀ x:aD,bP none (aD.row x) 2=some (.int .i64 x.link))∧(∀ x:aD,(aD.row x).length=3)∧(∀ x:aD,(aD.row x).all AV.cell=true)∧(∀ x:aD,∀ c0 c1 c2:AV,aN [c0,c1,c2] 0 (aD.row x)=aD.row x)∧(∀ x:aD,∀ y:aD,aN (aD.row y) 0 (aD.row x)=aD.row x)∧(∀ x:aD,∀ (y:Int),aN (aD.row x) 0 [.int .i64 y]=aD.row { x with entry:=y })∧(∀ x:aD,∀ (y:Int),aN (aD.row x) 1 [.int .i64 y]=aD.row { x with slot:=y })∧(∀ x:aD,∀ (y:Int),aN (aD.row x) 2 [.int .i64 y]=aD.row { x with link:=y })∧(∀ x:aD,(aD.row x).map AV.strip=aD.row x)∧(∀ x:aD,(aD.row x).take 3=aD.row x)∧(∀ x:aD,(aD.row x).drop 3=[]):=
 by refine ⟨?_, ?_, ?_, ?_, ?_, ?_, ?_, ?_, ?_, ?_, ?_, ?_, ?_, ?_⟩<;>(intros;first | rfl | (simp only [aD.row];rfl) | (simp only [aD.row,mJ];rfl))
structure aD.ok (n:Nat) (x:aD):Prop where
 entry:I64 x.entry
 slot:I64 x.slot
 link:I64 x.link
theorem aD.ok.mono{n m:Nat}{x:aD}(h:x.ok n)(hn:n≤m):x.ok m:=⟨h.entry,h.slot,h.link⟩
theorem aD.ok.wk{n:Nat}{x:aD}(h:x.ok n):WkL n x.row x.row:=⟨wk_int _ _ _,wk_int _ _ _,wk_int _ _ _,trivial⟩
structure ag where
 firsts:Sl aD
 entry:Int
 slot:Int
def ag.row(x:ag):List AV:=[.slice x.firsts.tag 3 (x.firsts.l.map aD.row),.int .i64 x.entry,.int .i64 x.slot]
def ag.strip(x:ag):ag := { x with firsts:=x.firsts.strip }
theorem sO:(∀ x:ag,pq 3 (ag.row x)=some (ag.row x))∧(∀ x:ag,bP none (ag.row x) 0=some (.slice x.firsts.tag 3 (x.firsts.l.map aD.row)))∧(∀ x:ag,bP none (ag.row x) 1=some (.int .i64 x.entry))∧(∀ x:ag,bP none (ag.row x) 2=some (.int .i64 x.slot))∧(∀ x:ag,(ag.row x).length=3)∧(∀ x:ag,(ag.row x).all AV.cell=true)∧(∀ x:ag,∀ c0 c1 c2:AV,aN [c0,c1,c2] 0 (ag.row x)=ag.row x)∧(∀ x:ag,∀ y:ag,aN (ag.row y) 0 (ag.row x)=ag.row x)∧(∀ x:ag,∀ (t:Tag) (l:List aD),aN (ag.row x) 0 [.slice t 3 (l.map aD.row)]=ag.row { x with firsts:=⟨t,l⟩ })∧(∀ x:ag,∀ (y:Int),aN (ag.row x) 1 [.int .i64 y]=ag.row { x with entry:=y })∧(∀ x:ag,∀ (y:Int),aN (ag.row x) 2 [.int .i64 y]=ag.row { x with slot:=y })∧(∀ x:ag,(ag.row x).map AV.strip=ag.row x.strip)∧(∀ x:ag,(ag.row x).take 3=ag.row x)∧(∀ x:ag,(ag.row x).drop 3=[]):=
 by refine ⟨?_, ?_, ?_, ?_, ?_, ?_, ?_, ?_, ?_, ?_, ?_, ?_, ?_, ?_⟩<;>(intros;first | rfl | (simp only [ag.row];rfl) | (simp only [ag.row,mJ];rfl))
structure ag.ok (n:Nat) (x:ag):Prop where
 firsts:x.firsts.ok n (aD.ok n)
 entry:I64 x.entry
 slot:I64 x.slot
theorem ag.ok.mono{n m:Nat}{x:ag}(h:x.ok n)(hn:n≤m):x.ok m:=⟨h.firsts.mono hn (fun _ h=>h.mono hn),h.entry,h.slot⟩
theorem ag.ok.wk{n:Nat}{x:ag}(h:x.ok n):WkL n x.row x.row:=⟨h.firsts.wk (fun _ h=>h.wk),wk_int _ _ _,wk_int _ _ _,trivial⟩
structure Ask where
 lem:Str
 cls:Str
 feats:Sl ah
 entry:Int
 slot:Int
def Ask.row(x:Ask):List AV:=[.str x.lem,.str x.cls,.slice x.feats.tag 2 (x.feats.l.map ah.row),.int .i64 x.entry,.int .i64 x.slot]
def Ask.strip(x:Ask):Ask := { x with feats:=x.feats.strip }
structure Ask.ok (n:Nat) (x:Ask):Prop where
 lem:x.lem.length≤aQ
 cls:x.cls.length≤aQ
 feats:x.feats.ok n (ah.ok n)
 entry:I64 x.entry
 slot:I64 x.slot
theorem Ask.ok.mono{n m:Nat}{x:Ask}(h:x.ok n)(hn:n≤m):x.ok m:=⟨h.lem,h.cls,h.feats.mono hn (fun _ h=>h.mono hn),h.entry,h.slot⟩
theorem Ask.ok.wk{n:Nat}{x:Ask}(h:x.ok n):WkL n x.row x.row:=⟨wk_str _ _,wk_str _ _,h.feats.wk (fun _ h=>h.wk),wk_int _ _ _,wk_int _ _ _,trivial⟩
theorem aq{α:Type}{row:α→List AV}{l:List α}{tag:Tag}{sz:Nat}{k:IntKind}{i:Nat}(h:i<l.length):yB sz (.slice tag sz (l.map row)) (.int k (i:Int))=some (.vptr sz (l.map row) i 0):=
 rias_nat (esz:=0) (by simpa using h)
theorem Vx{α:Type}{row:α→List AV}{l:List α}{tag:Tag}{sz:Nat}{k:IntKind}(h:0<l.length):yB sz (.slice tag sz (l.map row)) (.int k 0)=some (.vptr sz (l.map row) 0 0):=
 aq (i:=0) h
theorem Gf{α:Type}{row:α→List AV}{l:List α}{tag:Tag}{sz:Nat}{k:IntKind}{i:Nat}(h:i<l.length):DF sz (.slice tag sz (l.map row)) none (some (.int k (i:Int))) none=some (.slice .any sz ((l.take i).map row)):=by
 have h0:l≠[]:=fun e=>by simp [e] at h
 simp [DF,fU,Nat.le_of_lt h,h0,List.map_take]
theorem aX{i n:Nat}(h:i<n)(hn:n≤aQ):IntKind.i64.wrap ((i:Int)+1)=((i+1:Nat):Int):=by
 rw [cZ (by omega) (by simp only [aQ] at hn;omega)];rfl
theorem Gg{i:Nat}(h:i+1≤aQ):IntKind.i64.wrap (((i+1:Nat):Int)-1)=(i:Int):=by
 simp only [aQ] at h;rw [cZ (by omega) (by omega)];omega
theorem So{i:Nat}(h0:0<i)(h:i≤aQ):IntKind.i64.wrap ((i:Int)-1)=((i-1:Nat):Int):=by
 simp only [aQ] at h;rw [cZ (by omega) (by omega)];omega
theorem Vy{α:Type}(row:α→List AV)(l:List α)(i:Nat):(l.map row)[i]?=(l[i]?).map row:=ab2 ..
def slc{α:Type}(b:Bool)(x y:α):α:=
 match b with
 |true=>x
 |false=>y
theorem bI{α:Type}{b b':Bool}{x y:α}(h:b=b'):sel b x y=sel b' x y:=by rw [h]
theorem aT{α:Type}{b b':Bool}{x x' y y':α}(hb:b=b')(hx:b'=true→x=x')(hy:b'=false→y=y'):slc b x y=slc b' x' y':=by
 subst hb;cases b
 ·exact hy rfl
 ·exact hx rfl
theorem slc_true{α:Type}(x y:α):slc true x y=x:=rfl
theorem slc_false{α:Type}(x y:α):slc false x y=y:=rfl
theorem slc_not{α:Type}(b:Bool)(x y:α):slc (!b) x y=slc b y x:=by cases b<;>rfl
theorem amS :
 (∀ (α:Type) (b:Bool) (x y:α),sel b x y=slc b x y) ∧
 (∀ (α:Type) (x y:α),slc true x y=x)∧(∀ (α:Type) (x y:α),slc false x y=y)∧(∀ (α:Type) (b:Bool) (x y:α),slc (!b) x y=slc b y x) ∧
 (∀ (α:Type) (b:Bool) (x:α),slc b x x=x) ∧
 (∀ (α:Type) (b:Bool) (x y:α),slc b (some x) (some y)=some (slc b x y)) ∧
 (∀ (α β:Type) (b:Bool) (x x':α) (y y':β),slc b (x,y) (x',y')=(slc b x x',slc b y y')) ∧
 (∀ (b:Bool) (v v':AV),slc b (uw.ret v) (uw.ret v') = .ret (slc b v v')) ∧
 (∀ (b p q:Bool),slc b (AV.bool p) (AV.bool q) = .bool (slc b p q)) ∧
 (∀ (b:Bool) (k:IntKind) (x y:Int),slc b (AV.int k x) (AV.int k y) = .int k (slc b x y)) ∧
 (∀ (b:Bool) (x y:Str),slc b (AV.str x) (AV.str y) = .str (slc b x y)) ∧
 (∀ (α:Type) (b p:Bool) (x y:α),slc b (slc p x y) y=slc (b&&p) x y) ∧
 (∀ b p:Bool,slc b p false=(b&&p))∧(∀ b p:Bool,slc b true p=(b||p))∧(∀ b p:Bool,slc b p true=(!b||p))∧(∀ b p:Bool,slc b false p=(!b&&p)) ∧
 (∀ (α:Type) (b w:Bool) (v v':AV) (x u:Option α),CJ (slc b v v') w x u=slc b (CJ v w x u) (CJ v' w x u)):=
 ⟨fun _ _ _ _=>rfl,fun _ _ _=>rfl,fun _ _ _=>rfl,fun _=>slc_not,fun _ b _=>by cases b<;>rfl,fun _ b _ _=>by cases b<;>rfl,fun _ _ b _ _ _ _=>by cases b<;>rfl,fun b _ _=>by cases b<;>rfl,fun b _ _=>by cases b<;>rfl,
  fun b _ _ _=>by cases b<;>rfl,fun b _ _=>by cases b<;>rfl,fun _ b p _ _=>by cases b<;>cases p<;>rfl,fun b _=>by cases b<;>rfl,fun b _=>by cases b<;>rfl,fun b _=>by cases b<;>rfl,fun b _=>by cases b<;>rfl,fun _ b _ _ _ _ _=>by cases b<;>rfl⟩
def orE(o:Option AV)(H:List AObj)(x:Option Out):Option Out:=
 match o with
 |some v=>some (.ret v,H)
 |none=>x
def orO{α:Type}(o y:Option α):Option α:=
 match o with
 |some v=>some v
 |none=>y
def bQ{α:Type}(F:Nat→α→Option AV):Nat→List α→Option AV
 |_,[]=>none
 |i,x::l=>orO (F i x) (bQ F (i+1) l)
theorem x7(v:AV)(H:List AObj)(x:Option Out):orE (some v) H x=some (.ret v,H):=rfl
theorem JD(H:List AObj)(x:Option Out):orE none H x=x:=rfl
theorem Bb(b:Bool)(o o':Option AV)(H:List AObj)(x:Option Out):orE (sel b o o') H x=sel b (orE o H x) (orE o' H x):=by cases b<;>rfl
theorem IC(o o':Option AV)(H:List AObj)(x:Option Out):orE (orO o o') H x=orE o H (orE o' H x):=by cases o<;>rfl
theorem CO{α:Type}(v:α)(y:Option α):orO (some v) y=some v:=rfl
theorem CP{α:Type}(y:Option α):orO none y=y:=rfl
theorem Fl{α:Type}(b:Bool)(o o' y:Option α):orO (sel b o o') y=sel b (orO o y) (orO o' y):=by cases b<;>rfl
theorem Q0{α:Type}(F:Nat→α→Option AV)(i:Nat):bQ F i []=none:=rfl
theorem kR{α:Type}(F:Nat→α→Option AV)(i:Nat)(x:α)(l:List α):bQ F i (x::l)=orO (F i x) (bQ F (i+1) l):=rfl
theorem Ab{α:Type}{l:List α}{n:Nat}(h:l.length≤n)(i:Nat):(l.take i).length≤n:=by simp;omega
theorem uW{H0 H:List AObj}(h:bX H0 H)(L:List AObj):bX H0 (H++L):=
 ⟨by have:=h.1;simp;omega,fun i x hi hx=>h.2 i x hi (by
  have:=h.1;rwa [abW (by omega)] at hx)⟩
theorem Gh{H0 H:List AObj}(h:bX H0 H)(L:List AObj):(H++L).take H0.length=H.take H0.length:=
 List.take_append_of_le_length h.1
theorem JE{sz:Nat}{r:List AV}(h1:r.length=sz)(h2:r.all AV.cell=true):oG sz [r]=true:=by simp [oG,h1,h2]
theorem ND{α:Type}{row:α→List AV}{l:List α}{x:α}{r:List AV}{sz bytes:Nat}{e:TypeId}(H:List AObj)(h1:r.length=sz)(h2:r.all AV.cell=true)(h3:r.map AV.strip=row x)
  (hl:(l.length+1)*bytes≤140737488355328) (hl2:l.length+1≤4611686018427387904) :
  rap false (H++[.tok (l.length*sz) e]) e sz bytes false (.slice (.own H.length) sz (l.map row)) (.slice .full sz [r])=some (.slice (.own H.length) sz ((l++[x]).map row),H++[.tok ((l++[x]).length*sz) e]):=by
 have hr:(r.length=sz∧∀ x∈r,x.cell=true):=⟨h1,by simpa using h2⟩
 simp only [rap,A1,yC,List.length_map,List.length_cons,List.length_nil,Nat.zero_add,or_true,if_true,hl,hl2,JE h1 h2,and_true,true_and,bV,List.getElem?_cons_zero,hp_set0,List.set_cons_zero,List.map_cons,List.map_nil,h3,List.map_append,List.length_append,Nat.add_mul,Nat.one_mul];rw [Nat.add_mul,Nat.one_mul] at hl;rw [if_pos hl]
def JF(pl:Nat→Option (Nat×Nat))(cs:List AV)(rest:List (Nat×AV))(o:Option (Nat×Nat))(c:Option (List AV)):Option (List AV):=
 match o,c with
 |some (off,size),some cells=>if cells.length=size∧off+cells.length≤cs.length then oo pl (aN cs off cells) rest else none
 |_,_=>none
theorem TP(pl:Nat→Option (Nat×Nat))(cs:List AV):oo pl cs []=some cs:=rfl
theorem Q1(pl:Nat→Option (Nat×Nat))(cs:List AV)(i:Nat)(v:AV)(rest:List (Nat×AV)):oo pl cs ((i,v)::rest)=JF pl cs rest (pl i) (gz v):=by
 rfl
theorem O1(pl:Nat→Option (Nat×Nat))(cs:List AV)(rest:List (Nat×AV))(off size:Nat)(cells:List AV)(h1:cells.length=size)(h2:off+size≤cs.length):JF pl cs rest (some (off,size)) (some cells)=oo pl (aN cs off cells) rest:=by
 subst h1;rw [JF];exact if_pos ⟨rfl,h2⟩
theorem aaR(f:Nat×RX→Nat×AV):List.map f []=[]:=rfl
theorem aaS(f:Nat×RX→Nat×AV)(x:Nat×RX)(l:List (Nat×RX)):List.map f (x::l)=f x::List.map f l:=rfl
theorem amF :
 (∀ (pl:Nat→Option (Nat×Nat)) (cs:List AV),oo pl cs []=some cs) ∧
 (∀ (pl:Nat→Option (Nat×Nat)) (cs:List AV) (i:Nat) (v:AV) (rest:List (Nat×AV)),oo pl cs ((i,v)::rest)=JF pl cs rest (pl i) (gz v)) ∧
 (∀ (pl:Nat→Option (Nat×Nat)) (cs:List AV) (rest:List (Nat×AV)) (off size:Nat) (cells:List AV),cells.length=size→off+size≤cs.length→JF pl cs rest (some (off,size)) (some cells)=oo pl (aN cs off cells) rest) ∧
 (∀ (f:Nat×RX→Nat×AV),List.map f []=[]) ∧
 (∀ (f:Nat×RX→Nat×AV) (x:Nat×RX) (l:List (Nat×RX)),List.map f (x::l)=f x::List.map f l) ∧
 (∀ (z:List AV),Cr 0 z=[]) ∧
 (∀ (n:Nat) (z:List AV),Cr (n+1) z=z++Cr n z) ∧
 (∀ (n:Nat) (cs:List AV),yS n 0 cs=[]) ∧
 (∀ (n k:Nat) (cs:List AV),yS n (k+1) cs=cs.take n::yS n k (cs.drop n)) ∧
 (∀ (l:List AV),l.take 0=[])∧(∀ (n:Nat) (x:AV) (l:List AV),(x::l).take (n+1)=x::l.take n) ∧
 (∀ (l:List AV),l.drop 0=l)∧(∀ (n:Nat) (x:AV) (l:List AV),(x::l).drop (n+1)=l.drop n) ∧
 (∀ (s:Str),AV.strip (.str s) = .str s)∧(∀ (k:IntKind) (n:Int),AV.strip (.int k n) = .int k n)∧(∀ (b:Bool),AV.strip (.bool b) = .bool b)∧(∀ (f:Fn) (x y:List AV),AV.strip (.fn f x y) = .fn f x y) ∧
 (∀ (t n:Nat) (r:List (List AV)),AV.strip (.slice (.own t) n r) = .slice .any n r)∧(∀ (n:Nat) (r:List (List AV)),AV.strip (.slice .any n r) = .slice .any n r)∧(∀ (n:Nat) (r:List (List AV)),AV.strip (.slice .nil n r) = .slice .nil n r)∧(∀ (n:Nat) (r:List (List AV)),AV.strip (.slice .full n r) = .slice .full n r) ∧
 (∀ (f:AV→AV),List.map f []=[])∧(∀ (f:AV→AV) (x:AV) (l:List AV),List.map f (x::l)=f x::List.map f l) ∧
 (∀ (x:Nat×Nat) (l:List (Nat×Nat)),(x::l)[0]?=some x)∧(∀ (x:Nat×Nat) (l:List (Nat×Nat)) (n:Nat),(x::l)[n+1]?=l[n]?):=
 ⟨TP,Q1,O1,aaR,aaS,fun _=>rfl,fun _ _=>rfl,fun _ _=>rfl,fun _ _ _=>rfl,fun _=>rfl,fun _ _ _=>rfl,fun _=>rfl,fun _ _ _=>rfl,fun _=>rfl,fun _ _=>rfl,fun _=>rfl,fun _ _ _=>rfl,fun _ _ _=>rfl,fun _ _=>rfl,fun _ _=>rfl,fun _ _=>rfl,fun _=>rfl,fun _ _ _=>rfl,fun _ _=>rfl,fun _ _ _=>rfl⟩
theorem amL :
 (∀ (v:AV) (H:List AObj) (x:Option Out),orE (some v) H x=some (.ret v,H)) ∧
 (∀ (H:List AObj) (x:Option Out),orE none H x=x) ∧
 (∀ (b:Bool) (o o':Option AV) (H:List AObj) (x:Option Out),orE (slc b o o') H x=slc b (orE o H x) (orE o' H x)) ∧
 (∀ (o o':Option AV) (H:List AObj) (x:Option Out),orE (orO o o') H x=orE o H (orE o' H x)) ∧
 (∀ (v:AV) (y:Option AV),orO (some v) y=some v) ∧
 (∀ (y:Option AV),orO none y=y) ∧
 (∀ (b:Bool) (o o' y:Option AV),orO (slc b o o') y=slc b (orO o y) (orO o' y)) ∧
 (∀ (α:Type) (F:Nat→α→Option AV) (i:Nat),bQ F i []=none) ∧
 (∀ (α:Type) (F:Nat→α→Option AV) (i:Nat) (x:α) (l:List α),bQ F i (x::l)=orO (F i x) (bQ F (i+1) l)) ∧
 (∀ (α:Type) (l:List α) (row:α→List AV),(l.map row).length=l.length) ∧
 (∀ (α:Type) (row:α→List AV) (l:List α) (i:Nat),(l.map row)[i]?=(l[i]?).map row) ∧
 (∀ (α:Type) (f:α→List AV) (x:α),(some x).map f=some (f x)) ∧
 (∀ (H0 H:List AObj),bX H0 H→∀ (L:List AObj),bX H0 (H++L)) ∧
 (∀ (H0 H:List AObj),bX H0 H→∀ (L:List AObj),(H++L).take H0.length=H.take H0.length):=
 ⟨x7,JD,Bb,IC,CO,CP,Fl,fun _=>Q0,fun _=>kR,fun _ l row=>ab3 ..,fun _ row l i=>Vy row l i,fun _ _ _=>rfl,fun _ _=>uW,fun _ _=>Gh⟩
def amA{E:bb}(M:cb b5 E):=And.intro (am1 M) (And.intro am2 (And.intro am3 (And.intro am4 (And.intro am5 (And.intro amL amS)))))
def amB:=And.intro @beq_true (And.intro @beq_false (And.intro @decide_true (And.intro @decide_false (And.intro and_true (And.intro true_and (And.intro Bool.and_true (And.intro Bool.true_and (And.intro Bool.and_false (And.intro Bool.false_and (And.intro Bool.or_false (And.intro Bool.false_or (And.intro Bool.or_true (And.intro Bool.true_or (And.intro Bool.false_eq_true
 (And.intro @if_false.{1} (And.intro @if_true.{1} (And.intro Bool.not_true (And.intro Bool.not_false (And.intro Nat.le_add_right (And.intro @Nat.le_add_right_of_le (And.intro @Option.map_some.{0,0} (And.intro @Option.map_none.{0,0} (And.intro @List.nil_append.{0} (And.intro @List.append_nil.{0} (And.intro @List.map_nil.{0,0} @rias_nat)))))))))))))))))))))))))
def amC{E:bb}(M:cb b5 E):=And.intro (amA M) amB
def amD:=And.intro @slc_true (And.intro @slc_false (And.intro @slc_not @fget_at))
def amG:=And.intro amF (And.intro setRow_nil (And.intro setRow_cons (And.intro @List.set_cons_zero.{0} (And.intro @List.length_cons.{0} (And.intro @List.length_nil.{0} (And.intro acn (And.intro ab6 (And.intro @List.all_cons.{0} (And.intro @List.all_nil.{0} @List.cons_append.{0})))))))))
end Go.Am
end
section
namespace Go.Am
open Go.RowKit Go.ChangeShapes Go.WideShapes
structure VL (K:aC) (row:List AV) (cs:List Value):Prop where
 len:row.length=cs.length
 at_:∀ (i:Nat) (av:AV),row[i]?=some av→V K av (cs.getD i undef)
theorem VL.nil(K:aC):VL K [] []:=⟨rfl,fun i av h=>by simp at h⟩
theorem VL.one{K:aC}{a:AV}{v:Value}(h:V K a v):VL K [a] [v]:=⟨rfl,fun i av hi=>by
 cases i with
 |zero=>obtain rfl:a=av:=by simpa using hi
        simpa using h
 |succ i=>simp at hi⟩
theorem VL.append{K:aC}{a b:List AV}{c d:List Value}(h:VL K a c)(h':VL K b d):VL K (a++b) (c++d):=⟨by simp [h.len,h'.len],fun i av hi=>by
 have e:=h.len
 by_cases hl:i<a.length
 ·rw [abW hl] at hi
  have:=h.at_ i av hi;rwa [List.getD_eq_getElem?_getD,abW (by omega),← List.getD_eq_getElem?_getD]
 ·rw [abX (by omega)] at hi
  have:=h'.at_ _ av hi;rwa [List.getD_eq_getElem?_getD,abX (by omega),← e,← List.getD_eq_getElem?_getD]⟩
theorem VL.vs{K:aC}{row:List AV}{cs:Array Value}(h:VL K row cs.toList):Vs K row cs:=⟨by simpa using h.len,fun i av hi=>by simpa [Array.getD_eq_getD_getElem?] using h.at_ i av hi⟩
theorem VL.agg{K:aC}{row:List AV}{cs:Array Value}(h:VL K row cs.toList):V K (.agg row) (.agg cs):=.agg _ _ h.vs.size h.vs.at_
section
variable(P:Program)(W:World)(G:Nat→Option (List AV))
def pr(t:TypeId){α:Type}(row:α→List AV)(ok:α→Prop):Prop:=
 ∀ (H:Type) (enc:TypeId×Value→H) (spare:Nat→Bool) (fuel:Nat) (cs:List Value) (x:DataW H×List MemPlace),DataW.trod enc P W 0 spare true fuel t cs=some x→∃ a,ok a∧VL (aC.start W G) (row a) cs
def NF(fl:List (Nat×TypeId))(off w:Nat){α:Type}(row:α→List AV)(ok:α→Prop):Prop:=
 ∀ (H:Type) (enc:TypeId×Value→H) (spare:Nat→Bool) (fuel:Nat) (cs:List Value),
  (∀ (i:Nat) (f:Nat×TypeId),fl[i]?=some f→∃ x,DataW.trod enc P W 0 spare true fuel f.2 ((cs.drop f.1).take (P.cellsOf f.2))=some x)→cs.length=off+w→∃ a,ok a∧VL (aC.start W G) (row a) (cs.drop off)
def fieldsOf(t:TypeId):Option (List (Nat×TypeId)):=
 match P.underlying t with
 |some (.struct fs)=>some (fs.toList.map fun f=>(f.offset,f.type))
 |_=>none
end
section
variable{P:Program}{W:World}{G:Nat→Option (List AV)}
theorem gI{t:TypeId}(ht:P.underlying t=some .string):pr P W G t dz (fun s=>s.length≤aQ):=fun H enc spare fuel cs x h=>by
 obtain ⟨s,rfl,_,hs⟩:=DataW.trod_string ht h;exact ⟨s.data.toList,by simpa [maxLen] using hs,VL.one (.str _)⟩
theorem Mo{t:TypeId}(ht:P.underlying t=some (.int .i64)):pr P W G t Vw I64:=fun H enc spare fuel cs x h=>by
 obtain ⟨n,rfl,_,hn⟩:=DataW.trod_int ht h;refine ⟨n, ?_,VL.one (.int _ _)⟩;simp only [Lit.wf] at hn;revert hn;simp [IntKind.has,IntKind.min,IntKind.max,IntKind.bits,IntKind.signed,I64]
theorem py(off:Nat):NF P W G [] off 0 (fun _:Unit=>[]) (fun _=>True):=fun H enc spare fuel cs _ hl=>⟨(),trivial,by
 rw [acw (by omega)];exact VL.nil _⟩
theorem bM{t:TypeId}{fl:List (Nat×TypeId)}{off w1 w2:Nat}{α β:Type}{row1:α→List AV}{row2:β→List AV}{ok1:α→Prop}{ok2:β→Prop}
  (h1:pr P W G t row1 ok1) (hw:P.cellsOf t=w1) (h2:NF P W G fl (off+w1) w2 row2 ok2):NF P W G ((off,t)::fl) off (w1+w2) (fun a:α×β=>row1 a.1++row2 a.2) (fun a=>ok1 a.1∧ok2 a.2):=fun H enc spare fuel cs hf hl=>by
 obtain ⟨x,hx⟩:=hf 0 (off,t) rfl;obtain ⟨a,ha,va⟩:=h1 H enc spare fuel _ x hx;obtain ⟨b,hb,vb⟩:=h2 H enc spare fuel cs (fun i f hi=>hf (i+1) f (by simpa using hi)) (by omega);refine ⟨(a,b),⟨ha,hb⟩, ?_⟩;have:=va.append vb;simp only [hw] at this;have e:(cs.drop off).take w1++cs.drop (off+w1)=cs.drop off:=by rw [← acu,List.take_append_drop]
 rwa [e] at this
theorem mg{t:TypeId}{fl:List (Nat×TypeId)}{w:Nat}{α S:Type}{row:α→List AV}{ok:α→Prop}{rowS:S→List AV}{okS:S→Prop}(hf:fieldsOf P t=some fl)(hw:P.cellsOf t=w)
  (h:NF P W G fl 0 w row ok) (φ:α→S) (hr:∀ a,rowS (φ a)=row a) (ho:∀ a,ok a→okS (φ a)):pr P W G t rowS okS:=fun H enc spare fuel cs x hx=>by
 unfold fieldsOf at hf;split at hf
 ·rename_i fs ht
  simp only [Option.some.injEq] at hf;subst hf;obtain ⟨xs,n,_,_,hl,hxl,hat⟩:=DataW.trod_struct ht hx
  obtain ⟨a,ha,va⟩:=h H enc spare n cs (fun i f hi=>by
   rw [ab2] at hi;cases hfi:fs.toList[i]? with
   |none=>rw [hfi] at hi;cases hi
   |some g=>
    rw [hfi] at hi;obtain rfl:(g.offset,g.type)=f:=by simpa using hi
    have hg:fs[i]?=some g:=by simpa using hfi
    have:=hat i g hg;have hlt:i<xs.length:=by rw [hxl];exact (Array.getElem?_eq_some_iff.1 hg).1
    rw [abU hlt] at this;exact ⟨_,this⟩) (by omega)
  exact ⟨φ a,ho a ha,by rw [hr];simpa using va⟩
 ·cases hf
theorem Sp{α:Type}{p:Nat→α→Prop}:∀ (n:Nat),(∀ i,i<n→∃ a,p i a)→∃ l:List α,l.length=n∧∀ i a,l[i]?=some a→p i a
 |0,_=>⟨[],rfl,fun i a h=>by simp at h⟩
 |n+1,h=>by
  obtain ⟨l,h1,h2⟩:=Sp n (fun i hi=>h i (by omega));obtain ⟨a,ha⟩:=h n (by omega);refine ⟨l++[a],by simp [h1],fun i b hi => ?_⟩
  by_cases hl:i<l.length
  ·rw [abW hl] at hi;exact h2 i b hi
  ·rw [abX (by omega)] at hi
   have:i-l.length=0:=by
    cases hq:i-l.length with
    |zero=>rfl
    |succ k=>rw [hq] at hi;simp at hi
   rw [this] at hi;obtain rfl:a=b:=by simpa using hi
   have:i=n:=by omega
   subst this;exact ha
theorem NG{t e:TypeId}{α:Type}{row:α→List AV}{ok:α→Prop}{sz:Nat}(ht:P.underlying t=some (.slice e))(hsz:P.cellsOf e=sz)(hpos:0<sz)(hrow:∀ a,(row a).length=sz)(he:pr P W G e row ok) :
  pr P W G t (fun s:Sl α=>[.slice s.tag sz (s.l.map row)]) (fun s=>s.ok 0 ok∧(s.tag = .nil∧s.l=[]∨s.tag = .some)):=fun H enc spare fuel cs x h=>by
 rcases Go.Deep.open_slice ht h with ⟨rfl,_⟩ | ⟨a,len,cap,m,n,D,Pl,rfl,hb,hl,hcap,hm,_,hel⟩
 ·exact ⟨⟨.nil,[]⟩,⟨⟨trivial,by simp,fun x hx=>by cases hx⟩,.inl ⟨rfl,rfl⟩⟩,VL.one (.slice0 _ _ _ (by simp))⟩
 ·rw [hsz] at hel
  have hlm:len≤m:=by rw [hm];split<;>omega
  obtain ⟨l,hll,hat⟩:=Sp (α:=α) (p:=fun i a'=>ok a'∧∃ cs',W.cells? 0 (a.add (i*sz)) sz=some cs'∧VL (aC.start W G) (row a') cs') len (fun i hi=>by
   obtain ⟨cs',h1,h2⟩:=hel i (by omega);obtain ⟨a',h3,h4⟩:=he H enc spare n cs' _ h2;exact ⟨a',h3,cs',h1,h4⟩)
  refine ⟨⟨.some,l⟩,⟨⟨trivial,by rw [hll];simp only [aQ,maxLen] at *;omega,fun x hx => ?_⟩,.inr rfl⟩,VL.one ?_⟩
  ·obtain ⟨i,hi⟩:=ace hx
   exact (hat i x hi).1
  ·obtain ⟨b,o,spot⟩:=a
   cases l with
   |nil=>
    have:len=0:=by simpa using hll.symm
    subst this;exact .sliceAny .some _ _ _ (.inr ⟨rfl,by simp⟩)
   |cons a0 l0=>
    obtain ⟨_,cs0,hc0,hv0⟩:=hat 0 a0 rfl;obtain ⟨_,hcl,hcat⟩:=World.cells?_some hc0
    have hsp:spot=none:=by
     have h0:=hcat 0 hpos;rw [abU (by omega)] at h0;simpa [Addr.add] using World.cell?_spot h0
    subst hsp;have hlen:len=((a0::l0).map row).length:=by simpa using hll.symm
    rw [hlen]
    have key:∀ (i:Nat) (r:List AV),((a0::l0).map row)[i]?=some r→∃ cs',VL (aC.start W G) r cs'∧∀ j,j<sz→W.cell? ⟨b,o+i*sz+j,none⟩=cs'[j]? := fun i r hi=>by
     rw [ab2] at hi;cases hai:(a0::l0)[i]? with
     |none=>rw [hai] at hi;cases hi
     |some ai=>
      rw [hai] at hi;obtain rfl:row ai=r:=by simpa using hi
      obtain ⟨_,cs',hc,hv⟩:=hat i ai hai;obtain ⟨_,hcl',hcat'⟩:=World.cells?_some hc;refine ⟨cs',hv,fun j hj => ?_⟩;rw [← hcat' j hj];congr 1;unfold Addr.add
      by_cases h1:i*sz=0<;>by_cases h2:j=0<;>simp [h1,h2,Nat.add_assoc]
    refine .slice .some sz _ b o cap (fun i j=>(W.cell? ⟨b,o+i*sz+j,none⟩).getD undef) (fun r hr => ?_) (fun i j r av hi hj => ?_) (fun i j r av hi hj => ?_) (by rw [← hlen];exact hl) trivial
    ·obtain ⟨a',_,rfl⟩:=acf.1 hr
     exact hrow a'
    ·obtain ⟨cs',hv,hc⟩:=key i r hi
     have hjl:j<r.length:=(abT.1 hj).1
     have hrl:r.length=sz:=by
      obtain ⟨a',_,rfl⟩:=acf.1 (abY hi);exact hrow a'
     show W.cell? _=_;have hcj:=hc j (by omega);rw [hcj,abU (by rw [← hv.len];omega)];rfl
    ·obtain ⟨cs',hv,hc⟩:=key i r hi
     have hjl:j<r.length:=(abT.1 hj).1
     have hrl:r.length=sz:=by
      obtain ⟨a',_,rfl⟩:=acf.1 (abY hi);exact hrow a'
     have:=hv.at_ j av hj;rw [hc j (by omega),← List.getD_eq_getElem?_getD];exact this
theorem JG{t:TypeId}{α:Type}{row:α→List AV}{ok ok':α→Prop}(h:pr P W G t row ok)(hm:∀ a,ok a→ok' a):pr P W G t row ok':=fun H enc spare fuel cs x hh=>
 let ⟨a,h1,h2⟩:=h H enc spare fuel cs x hh;⟨a,hm a h1,h2⟩
theorem X0{t:TypeId}{fl:List (Nat×TypeId)}{r:Reach}{b:Nat}{v:Value}(hf:fieldsOf P t=some fl)(h:Value.okWide P W r b t v):∃ cs,v = .agg cs:=by
 unfold fieldsOf at hf;split at hf
 ·rename_i fs ht
  simp only [Value.okWide,ht] at h;obtain ⟨cs,rfl,_⟩:=h;exact ⟨cs,rfl⟩
 ·cases hf
theorem X1{t:TypeId}{r:Reach}{b:Nat}{v:Value}(ht:P.underlying t=some .string)(h:Value.okWide P W r b t v):∃ s,v = .string s:=by
 simp only [Value.okWide,ht,Cell.okWide,Cell.ok] at h;split at h<;>first | exact ⟨_,rfl⟩ | (simp_all;done) | cases h
theorem O2{H:Type}{enc:TypeId×Value→H}{spare:Nat→Bool}{t:TypeId}{α:Type}{row:α→List AV}{ok:α→Prop}(ho:pr P W G t row ok){v:Value}{d:DataW H}{ps:List MemPlace}
  (h:DataW.Trod enc P W 0 spare true t v d ps):∃ a,ok a∧VL (aC.start W G) (row a) v.cells.toList:=by
 obtain ⟨fuel,hf⟩:=h;exact ho H enc spare fuel _ _ hf
end
end Go.Am
end
section
namespace Go.Am
open Go.RowKit
def kS:FuncId:=7
def qT:FuncId:=8
def dZ:FuncId:=9
def Lp:FuncId:=10
def qN:FuncId:=15
def mT:FuncId:=16
def yZ:FuncId:=17
def kJ:FuncId:=23
def wN:FuncId:=24
def oI:FuncId:=25
def eI:FuncId:=26
def iT:FuncId:=27
def NH:FuncId:=28
def BS:FuncId:=29
def DG:FuncId:=30
def x8:FuncId:=37
def qV:FuncId:=38
def c9:FuncId:=39
def zh:FuncId:=43
def mh:FuncId:=44
def tJ:FuncId:=45
def mj:FuncId:=46
def mU:FuncId:=47
def tK:FuncId:=48
def ml:FuncId:=49
def mV:FuncId:=50
def tL:FuncId:=51
def mo:FuncId:=52
def mW:FuncId:=53
def tM:FuncId:=54
def mq:FuncId:=55
def mX:FuncId:=56
def tN:FuncId:=57
def mY:FuncId:=58
def nF:FuncId:=59
def cX:FuncId:=60
def pz:FuncId:=61
def oJ:FuncId:=62
def oK:FuncId:=63
def eW:FuncId:=64
def jF:FuncId:=65
def fQ:FuncId:=66
def lj:FuncId:=67
def s8:FuncId:=68
def qW:FuncId:=70
def uX:FuncId:=71
def kK:FuncId:=72
def nG:FuncId:=73
def nW:FuncId:=74
def dH:FuncId:=75
def Lq:FuncId:=76
def mZ:FuncId:=77
def x9:FuncId:=78
def B1:FuncId:=79
def Lr:FuncId:=80
def kT:FuncId:=81
def Gi:FuncId:=82
def aS:FuncId:=86
def fc:FuncId:=88
def Ac:FuncId:=89
def cO:FuncId:=91
def uY:FuncId:=92
def dg:FuncId:=93
def ll:FuncId:=94
def fx:FuncId:=95
def dh:FuncId:=96
def ln:FuncId:=97
def na:FuncId:=98
def lq:FuncId:=99
def kL:FuncId:=100
def jG:FuncId:=101
def fR:FuncId:=102
def vZ:FuncId:=103
def di:FuncId:=104
def lr:FuncId:=105
def dC:FuncId:=106
def lu:FuncId:=107
def zi:FuncId:=108
def ct:FuncId:=109
def lA:FuncId:=110
def oM:FuncId:=111
def sm:FuncId:=112
def fW:FuncId:=113
def kU:FuncId:=114
def nb:FuncId:=115
def pA:FuncId:=116
def kx:FuncId:=117
def nd:FuncId:=118
def iA:FuncId:=119
def iB:FuncId:=120
def iC:FuncId:=121
def iD:FuncId:=122
def jH:FuncId:=123
def lM:FuncId:=124
def jI:FuncId:=125
def cU:FuncId:=126
def c8:FuncId:=127
def pB:FuncId:=128
def qX:FuncId:=129
def sn:FuncId:=130
def so:FuncId:=133
def sq:FuncId:=134
def nB:FuncId:=135
def oN:FuncId:=136
def dO:FuncId:=137
def ky:FuncId:=138
def pC:FuncId:=139
def sr:FuncId:=140
def Fm:FuncId:=141
def qz:FuncId:=142
def qA:FuncId:=143
def HL:FuncId:=144
def mr:FuncId:=145
def HM:FuncId:=146
def HN:FuncId:=147
def HO:FuncId:=148
def CQ:FuncId:=149
def zj:FuncId:=150
def HP:FuncId:=151
def HQ:FuncId:=152
def HR:FuncId:=153
def HS:FuncId:=154
def cI:FuncId:=155
def mw:FuncId:=156
def wO:FuncId:=157
def gQ:FuncId:=158
def oO:FuncId:=159
def b6:FuncId:=160
def lN:FuncId:=161
def b7:FuncId:=162
def nf:FuncId:=163
def kM:FuncId:=164
def jJ:FuncId:=165
def nH:FuncId:=166
def cP:FuncId:=167
def c6:FuncId:=168
def bW:FuncId:=169
def tO:FuncId:=170
def rY:FuncId:=171
def bR:FuncId:=172
def kV:FuncId:=173
def qY:FuncId:=174
def pD:FuncId:=175
def dk:FuncId:=176
def s9:FuncId:=177
def pE:FuncId:=178
def pF:FuncId:=179
def my:FuncId:=180
def pG:FuncId:=181
def uZ:FuncId:=182
def nI:FuncId:=183
def nr:FuncId:=184
def eb:FuncId:=185
def iu:FuncId:=186
def JH:FuncId:=187
def Ls:FuncId:=188
def iU:FuncId:=189
def pH:FuncId:=190
def zk:FuncId:=191
def wP:FuncId:=192
def vA:FuncId:=193
def wm:FuncId:=194
def c7:FuncId:=195
def oP:FuncId:=196
def vN:FuncId:=197
def pI:FuncId:=198
def jK:FuncId:=199
def nX:FuncId:=200
def tc:FuncId:=201
def qZ:FuncId:=202
def pJ:FuncId:=203
def sP:FuncId:=204
def cV:FuncId:=205
def oQ:FuncId:=206
def ya:FuncId:=207
def re:FuncId:=208
def Ad:FuncId:=209
def Fo:FuncId:=210
def yb:FuncId:=211
def dx:FuncId:=212
def wQ:FuncId:=213
def Fp:FuncId:=214
def wR:FuncId:=215
def vB:FuncId:=216
def yE:FuncId:=217
def oR:FuncId:=218
def pK:FuncId:=219
def gR:FuncId:=220
def zl:FuncId:=221
def fe:FuncId:=222
def mz:FuncId:=223
def dm:FuncId:=224
def uy:FuncId:=225
def xA:FuncId:=226
def B2:FuncId:=227
def CR:FuncId:=228
def DH:FuncId:=229
def Bc:FuncId:=230
def xB:FuncId:=231
def xC:FuncId:=232
def lB:FuncId:=233
def jL:FuncId:=234
def eP:FuncId:=235
def bk:FuncId:=236
def iv:FuncId:=237
def Fq:FuncId:=238
def ep:FuncId:=239
def td:FuncId:=240
def wS:FuncId:=241
def iw:FuncId:=242
def Fs:FuncId:=243
def fy:FuncId:=244
def u0:FuncId:=247
def bH:FuncId:=248
def vC:FuncId:=249
def po:FuncId:=259
def Mp:TypeId:=3
def Vz:TypeId:=4
def dD:TypeId:=5
def a8:TypeId:=9
def yc:TypeId:=22
def yd:TypeId:=23
def ye:TypeId:=24
def u1:TypeId:=25
def zm:TypeId:=26
def ab:TypeId:=28
def kW:TypeId:=42
def aJ:TypeId:=52
def kG:TypeId:=55
def dP:TypeId:=62
def aU:TypeId:=64
def bU:TypeId:=67
def zn:TypeId:=68
def aW:TypeId:=70
def aR:TypeId:=72
def pL:TypeId:=73
def aZ:TypeId:=75
def cL:TypeId:=77
def cu:TypeId:=79
def cY:TypeId:=81
def JI:TypeId:=85
def bD:TypeId:=96
def bE:TypeId:=105
def aP:TypeId:=124
def b4:TypeId:=128
def ak:TypeId:=138
def zo:TypeId:=145
def NI:TypeId:=148
def Ft:TypeId:=171
def da:TypeId:=210
def dj:TypeId:=234
def Q2:TypeId:=248
def Q3:TypeId:=263
def El:TypeId:=272
def cf:TypeId:=276
def nJ:TypeId:=279
def pM:TypeId:=291
def Bd:TypeId:=299
def CS:TypeId:=301
end Go.Am
end
section
set_option maxRecDepth 100000
namespace Go.Am
open Go.RowKit Sh
def kX:AC:=
 (Q (O [o 2 (.bx ab (t 0)),mc 4 F]) (Q (Q (Q (O [la 15 6 2,k1 16 qT 15,m 17 16,h 18 17 (.mv (t 1)),h 19 17 (.len .str (t 18)),h 20 17 (.ar .gtr (t
 19) (i 1000)),pt 21 17 20]) (Y [1,2,21])) (C 21 (Q (O [k 22 (f dZ) [],m 4 22]) R) X)) (Q (Q (O [la 24 6 2,m 25 1,k2 26 wN 24 25,m 23 26,ex 27
 23 0,ex 28 23 1,m 5 27,m 6 28]) (Y [1,2,5,6])) (Q (Q (O [la 30 6 2,m 31 1,k2 32 oI 30 31,m 29 32,ex 33 29 0,ex 34 29 1,m 7 33,m 8 34]) (Y [1,2,5,
 6,7,8])) (Q (Q (Q (O [m 35 6,m 36 8,ar 37 .neq 35 36,m 38 37,h 39 38 (.mv (t 5)),h 40 38 (.mv (t 7)),⟨(some 41),(some (38,false)),(.call (.c (.fn (.func
 eI) [] [])) [(.t 39),(.t 40)])⟩,h 42 38 (.un .not (t 41)),pt 43 38 42]) (Y [1,2,7,8,43])) (C 43 (rt 4 F) X)) (Q (Q (O [la 45 6 2,k1 46 yZ
 45,m 44 46,ex 47 44 0,ex 48 44 1,m 9 47,m 10 48]) (Y [1,2,7,8,9,10])) (Q (Q (Q (O [m 49 10,la 50 6 2,k1 51 mT 50,ar 52 .neq 49 51]) (Y [1,7,8,9,
 10,52])) (C 52 (rt 4 F) X)) (Q (Q (O [m 53 10,ac 54 .neq 53 (u 0)]) (C 54 (Q (Q (O [m 55 9,o 56 (.eq false .ptr (t 55) (.c .nilp)),m 57 56,⟨(some 58),(some (57,true)),(.call
 (.c (.fn (.func dZ) [] [])) [])⟩,pf 59 57 58,m 4 59]) (Y [4])) R) X)) (Q (Q (O [m 61 9,m 62 1,k2 63 kJ 61 62,m 60 63,ex 64 60 0,ex 65
 60 1,m 11 64,m 12 65]) (Y [1,7,8,9,11,12])) (Q (Q (O [m 67 9,m 68 1,k2 69 kJ 67 68,m 66 69,ex 70 66 0,ex 71 66 1,m 13 70,m 14 71]) (Y [7,8,11,
 12,13,14])) (Q (Q (O [m 72 12,m 73 8,ar 74 .eql 72 73,m 75 74,g 76 75 (.mv (t 14)),g 77 75 (.mv (t 8)),g 78 75 (.ar .eql (t 76) (t 77)),pf 79 75 78,m 80 79,g 81 80 (.mv
 (t 11)),g 82 80 (.mv (t 7)),⟨(some 83),(some (80,true)),(.call (.c (.fn (.func eI) [] [])) [(.t 81),(.t 82)])⟩,pf 84 80 83,m 85 84,g 86 85 (.mv (t
 13)),g 87 85 (.mv (t 7)),⟨(some 88),(some (85,true)),(.call (.c (.fn (.func eI) [] [])) [(.t 86),(.t 87)])⟩,pf 89 85 88,m 90 89,⟨(some 91),(some
 (90,true)),(.call (.c (.fn (.func dZ) [] [])) [])⟩,pf 92 90 91,m 4 92]) (Y [4])) R)))))))))))
def kY:AFn:=⟨kX,93,[.t 4],.drop,[],none⟩
theorem gG:qf kY [.t 4] .drop:=⟨rfl,rfl,rfl⟩
def iV:AC:=
 (Q (Q (Q (O [m 76 6,fa 77 1 1,ld 78 77,m 79 5,ia 80 2 78 79,fa 81 1 80,ld 82 81,ls 83 82,bl 84 76 83,m 85 84,g 86 85 (.mv (t 6)),g 87 85 (.ar .lss (t 86) (i 100)),pf 88
 85 87]) (Y [1,3,4,5,6,88])) (C 88 X (.exit 2))) (Q (.block 3 (Q (D [Wl 91 3,Pf 92 1 1,Wl 93 92,Pm 94 5,P (ia 95 2 93 94),Pf 96 1 95,Wl 97 96,Pm 98 6,P (ia 99 1 97 98),
 Wl 100 99,W (lt 101 100),P (o 102 (.ar .add (i 1) (t 101))),P (ar 103 .add 91 102),E (n (.st 1 (t 3) (t 103)))]) (Y [1,3,4,5,6]))) (ic 89 6 90)))
def iW:AC:=
 (Q (Q (Q (O [m 59 5,fa 60 1 1,ld 61 60,ls 62 61,bl 63 59 62]) (Y [1,3,4,5,63])) (C 63 X (.exit 0))) (Q (Q (.block 1 (Q (Q (D [Wl 66 3,Pf 67 1 1,Wl 68 67,Pm 69 5,P (ia 70
 2 68 69),Pf 71 0 70,Wl 72 71,W (lt 73 72),P (o 74 (.ar .add (i 1) (t 73))),P (ar 75 .add 66 74),E (n (.st 1 (t 3) (t 75)))]) (Y [1,3,4,5])) (Q (Q (O [mc 6 (i 0)]) (Q
 (.block 2 (lo [1,3,4,5,6] iV)) (Y [1,3,4,5]))) (Q (D [Wl 104 3,Pf 105 1 1,Wl 106 105,Pm 107 5,P (ia 108 2 106 107),Pf 109 1 108,Wl 110 109,W (ls
 111 110),P (ar 112 .add 104 111),E (n (.st 1 (t 3) (t 112)))]) (Y [1,3,4,5]))))) (Y [1,3,4,5])) (ic 64 5 65)))
def iX:AC:=
 (Q (Q (Q (O [m 158 8,fa 159 2 1,ld 160 159,m 161 7,ia 162 2 160 161,fa 163 1 162,ld 164 163,ls 165 164,bl 166 158 165]) (Y [1,3,4,7,8,166])) (C 166 X (.exit 6))) (Q
 (.block 7 (Q (Q (O [fa 169 2 1,ld 170 169,m 171 7,ia 172 2 170 171,fa 173 1 172,ld 174 173,m 175 8,ia 176 4 174 175,la 177 4 176,o 9 (.nw [(.int .i64 0),(.str []),(.str
 []),(.slice .nil 2 [])] aR),n (.st 4 (t 9) (t 177))]) (Y [1,3,4,7,8,9])) (Q (Q (O [ld 178 3,fa 179 1 9,ld 180 179,lt 181 180,o 182 (.ar .add (i 1) (t 181)),fa
 183 2 9,ld 184 183,lt 185 184,ar 186 .add 182 185,ar 187 .add 178 186,n (.st 1 (t 3) (t 187))]) (Y [1,3,4,7,8,9])) (Q (O [m 188 4,fa 189 3 9,ld 190 189,k 191 (t 188)
 [(t 190)]]) (Y [1,3,4,7,8]))))) (ic 167 8 168)))
def iY:AC:=
 (Q (Q (Q (O [m 113 7,fa 114 2 1,ld 115 114,ls 116 115,bl 117 113 116]) (Y [1,3,4,7,117])) (C 117 X (.exit 4))) (Q (Q (.block 5 (Q (Q (Q (O [fa 120 2 1,ld 121 120,m 122 7,
 ia 123 2 121 122,fa 124 1 123,ld 125 124,ls 126 125,ac 127 .gtr 126 (i 12),m 128 127,g 129 128 (.fa 2 (t 1)),g 130 128 (.ld none (t 129)),g 131 128 (.mv (t 7)),g 132 128
 (.ias 2 (t 130) (t 131)),g 133 128 (.fa 1 (t 132)),g 134 128 (.ld none (t 133)),g 135 128 (.len .sl (t 134)),g 136 128 (.ar .leq (t 135) (i 24)),pf 137 128 136,m 138 137,h
 139 138 (.fa 2 (t 1)),h 140 138 (.ld none (t 139)),h 141 138 (.mv (t 7)),h 142 138 (.ias 2 (t 140) (t 141)),h 143 138 (.fa 1 (t 142)),h 144 138 (.ld none (t 143)),h 145 138
 (.len .sl (t 144)),h 146 138 (.ar .gtr (t 145) (i 60)),pt 147 138 146]) (Y [1,3,4,7,147])) (C 147 (rt 2 T) X)) (Q (Q (D [Wl 148 3,Pf 149 2 1,Wl 150 149,Pm 151 7,P (ia 152
 2 150 151),Pf 153 0 152,Wl 154 153,W (lt 155 154),P (o 156 (.ar .add (i 1) (t 155))),P (ar 157 .add 148 156),E (n (.st 1 (t 3) (t 157)))]) (Y [1,3,4,7])) (Q (O [mc 8 (i
 0)]) (Q (.block 6 (lc [1,3,4,7,8] iX)) (Y [1,3,4,7])))))) (Y [1,3,4,7])) (ic 118 7 119)))
def iZ:AC:=
 (Q (Q (Q (O [m 222 12,fa 223 3 11,ld 224 223,ls 225 224,bl 226 222 225,m 227 226,g 228 227 (.mv (t 12)),g 229 227 (.ar .lss (t 228) (i 100)),pf 230 227 229]) (Y [1,3,4,
 10,11,12,230])) (C 230 X (.exit 10))) (Q (.block 11 (Q (D [Wl 233 3,Pf 234 3 11,Wl 235 234,Pm 236 12,P (ia 237 2 235 236),Pf 238 1 237,Wl 239 238,W (lt 240 239),P (ar 241
 .add 233 240),E (n (.st 1 (t 3) (t 241)))]) (Y [1,3,4,10,11,12]))) (ic 231 12 232)))
def ja:AC:=
 (Q (Q (Q (O [m 192 10,fa 193 3 1,ld 194 193,ls 195 194,bl 196 192 195]) (Y [1,3,4,10,196])) (C 196 X (.exit 8))) (Q (Q (.block 9 (Q (Q (O [fa 199 3 1,ld 200 199,m 201 10,
 ia 202 4 200 201,la 203 4 202,o 11 (.nw [(.str []),(.str []),(.slice .nil 2 []),(.slice .nil 2 [])] aZ),n (.st 4 (t 11) (t 203))]) (Y [1,3,4,10,11])) (Q (Q (O [ld
 204 3,fa 205 0 11,ld 206 205,lt 207 206,o 208 (.ar .add (i 1) (t 207)),fa 209 1 11,ld 210 209,lt 211 210,ar 212 .add 208 211,fa 213 3 11,ld 214 213,ls 215 214,ar 216
 .add 212 215,ar 217 .add 204 216,n (.st 1 (t 3) (t 217))]) (Y [1,3,4,10,11])) (Q (Q (O [m 218 4,fa 219 2 11,ld 220 219,k 221 (t 218) [(t 220)]]) (Y [1,3,4,10,11])) (Q
 (O [mc 12 (i 0)]) (Q (.block 10 (lo [1,3,4,10,11,12] iZ)) (Y [1,3,4,10]))))))) (Y [1,3,4,10])) (ic 197 10 198)))
def jb:AC:=
 (Q (Q (Q (O [m 242 13,fa 243 4 1,ld 244 243,ls 245 244,bl 246 242 245]) (Y [1,3,4,13,246])) (C 246 X (.exit 12))) (Q (.block 13 (Q (D [Wl 249 3,Pf 250 4 1,Wl 251 250,Pm
 252 13,P (ia 253 4 251 252),Pf 254 0 253,Wl 255 254,W (lt 256 255),Pf 257 4 1,Wl 258 257,Pm 259 13,P (ia 260 4 258 259),Pf 261 1 260,Wl 262 261,W (lt 263 262),P (ar 264
 .add 256 263),Pf 265 4 1,Wl 266 265,Pm 267 13,P (ia 268 4 266 267),Pf 269 2 268,Wl 270 269,W (lt 271 270),P (ar 272 .add 264 271),Pf 273 4 1,Wl 274 273,Pm 275 13,P (ia
 276 4 274 275),Pf 277 3 276,Wl 278 277,W (lt 279 278),P (ar 280 .add 272 279),P (ar 281 .add 249 280),E (n (.st 1 (t 3) (t 281)))]) (Y [1,3,4,13]))) (ic 247 13 248)))
def jd:AC:=
 (Q (Q (Q (O [m 282 14,fa 283 5 1,ld 284 283,ls 285 284,bl 286 282 285]) (Y [1,3,4,14,286])) (C 286 X (.exit 14))) (Q (.block 15 (Q (Q (D [Wl 289 3,Pf 290 5 1,Wl 291 290,
 Pm 292 14,P (ia 293 3 291 292),Pf 294 0 293,Wl 295 294,W (lt 296 295),Pf 297 5 1,Wl 298 297,Pm 299 14,P (ia 300 3 298 299),Pf 301 1 300,Wl 302 301,W (lt 303 302),P (ar
 304 .add 296 303),P (ar 305 .add 289 304),E (n (.st 1 (t 3) (t 305)))]) (Y [1,3,4,14])) (Q (O [m 306 4,fa 307 5 1,ld 308 307,m 309 14,ia 310 3 308 309,fa 311 2 310,ld 312
 311,k 313 (t 306) [(t 312)]]) (Y [1,3,4,14])))) (ic 287 14 288)))
def rh:AC:=
 (Q (O [o 1 (.bx ab (t 0)),mc 2 F]) (Q (Q (O [fa 15 0 1,ld 16 15,lt 17 16,o 3 (.nw [(.int .i64 0)] Mp),n (.st 1 (t 3) (t 17))]) (Y [1,3])) (Q (O [o 18 (.mf (.func
 iT) [] [(t 3)]),m 4 18]) (Q (Q (Q (O [fa 19 3 1,ld 20 19,ls 21 20,ac 22 .gtr 21 (i 60),m 23 22,g 24 23 (.fa 3 (t 1)),g 25 23 (.ld none (t 24)),g 26 23
 (.len .sl (t 25)),g 27 23 (.ar .leq (t 26) (i 128)),pf 28 23 27,m 29 28,h 30 29 (.fa 3 (t 1)),h 31 29 (.ld none (t 30)),h 32 29 (.len .sl (t 31)),h 33 29 (.ar .gtr (t 32) (i
 200)),pt 34 29 33,m 35 34,h 36 35 (.fa 1 (t 1)),h 37 35 (.ld none (t 36)),h 38 35 (.len .sl (t 37)),h 39 35 (.ar .gtr (t 38) (i 40)),pt 40 35 39,m 41 40,h 42 41 (.fa 2 (t
 1)),h 43 41 (.ld none (t 42)),h 44 41 (.len .sl (t 43)),h 45 41 (.ar .gtr (t 44) (i 40)),pt 46 41 45,m 47 46,h 48 47 (.fa 4 (t 1)),h 49 47 (.ld none (t 48)),h 50 47 (.len
 .sl (t 49)),h 51 47 (.ar .gtr (t 50) (i 40)),pt 52 47 51,m 53 52,h 54 53 (.fa 5 (t 1)),h 55 53 (.ld none (t 54)),h 56 53 (.len .sl (t 55)),h 57 53 (.ar .gtr (t 56) (i 40)),
 pt 58 53 57]) (Y [1,3,4,58])) (C 58 (rt 2 T) X)) (Q (Q (O [mc 5 (i 0)]) (Q (.block 0 (lo [1,3,4,5] iW)) (Y [1,3,4]))) (Q (Q (O [mc 7 (i 0)]) (Q (.block
 4 (lc [1,3,4,7] iY)) (Y [1,3,4]))) (Q (Q (O [mc 10 (i 0)]) (Q (.block 8 (lc [1,3,4,10] ja)) (Y [1,3,4]))) (Q (Q (O [mc 13 (i 0)])
 (Q (.block 12 (lo [1,3,4,13] jb)) (Y [1,3,4]))) (Q (Q (O [mc 14 (i 0)]) (Q (.block 14 (lo [1,3,4,14] jd)) (Y [3]))) (Q (O [ld 314
 3,ac 315 .gtr 314 (i 6000),m 2 315]) R))))))))))
def aY:AFn:=⟨rh,316,[.t 2],.drop,[],none⟩
theorem bh:qf aY [.t 2] .drop:=⟨rfl,rfl,rfl⟩
def zp:AC:=
 (Q (O [o 1 (.bx ab (t 0)),mc 2 (u 0)]) (Q (Q (O [la 4 6 1,o 5 (.bd [(.str []),(.slice .nil 2 []),(.slice .nil 2 []),(.slice .nil 4 []),(.slice .nil 4 []),(.slice
 .nil 3 [])] [(0,6)] [(0,(t 4))]),o 3 (.nw [(.str []),(.slice .nil 2 []),(.slice .nil 2 []),(.slice .nil 4 []),(.slice .nil 4 []),(.slice .nil 3 [])] bE),n (.st
 6 (t 3) (t 5))]) (Y [1,3])) (Q (Q (O [la 6 6 3,o 7 (.mf (.func mh) [(t 6)] []),o 8 (.mf (.func tJ) [] [(t 1),(t 3)]),o 9 (.mf (.func
 tK) [] [(t 1),(t 3)]),o 10 (.mf (.func tL) [] [(t 1),(t 3)]),o 11 (.mf (.func tM) [] [(t 1),(t 3)]),o 12 (.mf (.func tN) []
 [(t 1),(t 3)]),o 13 (.bs 1 [.nilfn] 6 [(0,(t 7)),(1,(t 8)),(2,(t 9)),(3,(t 10)),(4,(t 11)),(5,(t 12))]),k1 14 zh 13,m 2 14]) (Y [2])) R)))
def v7:AFn:=⟨zp,15,[.t 2],.drop,[],none⟩
theorem Lt:qf v7 [.t 2] .drop:=⟨rfl,rfl,rfl⟩
def je:AC:=
 (Q (Q (Q (O [m 16 3,fa 17 0 1,ld 18 17,lt 19 18,bl 20 16 19]) (Y [1,3,20])) (C 20 X (.exit 0))) (Q (.block 1 (Q (Q (D [Pf 23 0 1,Wl 24 23,Pm 25 3,P (ac 26 .sub 25 (i 1)),P
 (o 27 (.ixs (t 24) (t 26))),Pf 28 0 1,Wl 29 28,Pm 30 3,P (o 31 (.ixs (t 29) (t 30))),P (ar 32 .geq 27 31)]) (Y [1,3,32])) (C 32 (rt 2 (u 1)) X))) (ic 21 3 22)))
def jf:AC:=
 (Q (Q (Q (O [m 52 7,fa 53 4 1,ld 54 53,ls 55 54,bl 56 52 55]) (Y [1,7,56])) (C 56 X (.exit 2))) (Q (.block 3 (Q (Q (O [fa 59 4 1,ld 60 59,m 61 7,ia 62 4 60 61,la 63 4 62,
 o 8 (.nw [(.str []),(.str []),(.str []),(.str [])] cu),n (.st 4 (t 8) (t 63))]) (Y [1,7,8])) (Q (Q (Q (O [fa 64 0 8,ld 65 64,ac 66 .eql 65 (s []),m 67 66,h 68 67
 (.fa 0 (t 8)),h 69 67 (.ld none (t 68)),⟨(some 70),(some (67,false)),(.call (.c (.fn (.func cX) [] [])) [(.t 69),(.c (.str [43]))])⟩,h 71 67 (.un .not (t
 70)),pt 72 67 71,m 73 72,h 74 73 (.fa 1 (t 8)),h 75 73 (.ld none (t 74)),⟨(some 76),(some (73,false)),(.call (.c (.fn (.func cX) [] [])) [(.t 75),(.c (.str
 [43]))])⟩,h 77 73 (.un .not (t 76)),pt 78 73 77,m 79 78,h 80 79 (.fa 2 (t 8)),h 81 79 (.ld none (t 80)),⟨(some 82),(some (79,false)),(.call (.c (.fn (.func
 cX) [] [])) [(.t 81),(.c (.str [43,35,86,67]))])⟩,h 83 79 (.un .not (t 82)),pt 84 79 83,m 85 84,h 86 85 (.fa 3 (t 8)),h 87 85 (.ld none (t 86)),⟨(some 88),
 (some (85,false)),(.call (.c (.fn (.func cX) [] [])) [(.t 87),(.c (.str [43,35,86,67]))])⟩,h 89 85 (.un .not (t 88)),pt 90 85 89]) (Y [1,7,8,90])) (C 90
 (rt 2 (u 1)) X)) (Q (Q (O [fa 91 0 8,ld 92 91,lt 93 92,ac 94 .gtr 93 (i 6),m 95 94,h 96 95 (.fa 1 (t 8)),h 97 95 (.ld none (t 96)),h 98 95 (.len .str (t 97)),h 99 95 (.ar
 .gtr (t 98) (i 6)),pt 100 95 99,m 101 100,h 102 101 (.fa 2 (t 8)),h 103 101 (.ld none (t 102)),h 104 101 (.len .str (t 103)),h 105 101 (.ar .gtr (t 104) (i 6)),pt 106 101
 105,m 107 106,h 108 107 (.fa 3 (t 8)),h 109 107 (.ld none (t 108)),h 110 107 (.len .str (t 109)),h 111 107 (.ar .gtr (t 110) (i 6)),pt 112 107 111]) (Y [1,7,112])) (C 112
 (rt 2 (u 1)) X))))) (ic 57 7 58)))
def jg:AC:=
 (Q (Q (Q (O [m 117 9,fa 118 5 1,ld 119 118,ls 120 119,bl 121 117 120]) (Y [1,9,121])) (C 121 X (.exit 4))) (Q (.block 5 (Q (Q (O [fa 124 5 1,ld 125 124,m 126 9,ia 127 3 125
 126,la 128 3 127,o 10 (.nw [(.str []),(.str []),(.slice .nil 2 [])] cY),n (.st 3 (t 10) (t 128))]) (Y [1,9,10])) (Q (Q (Q (O [la 129 6 1,fa 130 0 10,ld 131 130,k2
 132 eW 129 131,ac 133 .lss 132 (i 0)]) (Y [1,9,10,133])) (C 133 (rt 2 (u 5)) X)) (Q (Q (Q (O [fa 134 1 10,ld 135 134,k 136 (f cX) [(t 135),
 (s [])],no 137 136,m 138 137,h 139 138 (.fa 1 (t 10)),h 140 138 (.ld none (t 139)),h 141 138 (.len .str (t 140)),h 142 138 (.ar .gtr (t 141) (i 6)),pt 143 138 142]) (Y [1,9,
 10,143])) (C 143 (rt 2 (u 1)) X)) (Q (Q (O [la 144 6 1,fa 145 2 10,ld 146 145,k2 147 jF 144 146,m 11 147]) (Y [1,9,11])) (Q (O [m 148 11,ac 149 .neq 148
 (u 0)]) (C 149 (Q (O [m 150 11,m 2 150]) R) X))))))) (ic 122 9 123)))
def ri:AC:=
 (Q (O [o 1 (.bx ab (t 0)),mc 2 (u 0)]) (Q (Q (Q (O [fa 12 0 1,ld 13 12,k 14 (f cX) [(t 13),(s [])],no 15 14]) (Y [1,15])) (C 15 (rt 2 (u 1)) X)) (Q
 (Q (O [mc 3 (i 1)]) (Q (.block 0 (lo [1,3] je)) (Y [1]))) (Q (Q (O [la 33 6 1,k1 34 pz 33,m 4 34]) (Q (O [m 35 4,ac 36 .neq 35 (u 0)])
 (C 36 (Q (O [m 37 4,m 2 37]) R) X))) (Q (Q (O [la 38 6 1,k1 39 oJ 38,m 5 39]) (Q (O [m 40 5,ac 41 .neq 40 (u 0)]) (C 41 (Q (O [m 42 5,m 2 42]) R) X))) (Q
 (Q (O [la 43 6 1,k1 44 oK 43,m 6 44]) (Q (O [m 45 6,ac 46 .neq 45 (u 0)]) (C 46 (Q (O [m 47 6,m 2 47]) R) X))) (Q (Q (Q (O [fa 48 4 1,ld 49 48,ls 50 49,
 ac 51 .gtr 50 (i 16)]) (Y [1,51])) (C 51 (rt 2 (u 3)) X)) (Q (Q (O [mc 7 (i 0)]) (Q (.block 2 (lc [1,7] jf)) (Y [1]))) (Q (Q (Q (O [fa 113 5 1,ld 114 113,ls
 115 114,ac 116 .gtr 115 (i 8)]) (Y [1,116])) (C 116 (rt 2 (u 3)) X)) (Q (Q (O [mc 9 (i 0)]) (Q (.block 4 (lc [1,9] jg)) (Y []))) (rt 2 (u 0))))))))))))
def dt:AFn:=⟨ri,151,[.t 2],.drop,[],none⟩
theorem ea:qf dt [.t 2] .drop:=⟨rfl,rfl,rfl⟩
def qO:AC:=
 (Q (O [bl 41 40 39]) (Q (C 41 X (.exit 2)) (Q (.block 3 (Q (O [m 42 40,m 9 42]) (Q (Q (O [fa 43 2 7,ld 44 43,m 45 9,o 46 (.ixs (t 44) (t 45)),ac 47 .sub 46 (u 97),m 10 47]) (Y
 [5,7,8,10,27,28,29,39,40])) (Q (Q (Q (O [m 48 8,m 49 10,o 50 (.nc (t 48)),fa 51 0 50,o 52 (.iaa 26 1 (t 51) (t 49)),ld 53 52,o 54 (.eq false .ptr (t 53) (.c .nilp))])
 (Y [5,7,8,10,27,28,29,39,40,54])) (C 54 (Q (O [m 55 8,m 56 10,o 57 (.bd [.nilp,.nilp,.nilp,.nilp,.nilp,.nilp,.nilp,.nilp,.nilp,.nilp,.nilp,.nilp,.nilp,.nilp,
 .nilp,.nilp,.nilp,.nilp,.nilp,.nilp,.nilp,.nilp,.nilp,.nilp,.nilp,.nilp,(.int .i64 0)] [(0,26),(26,1)] []),o 58 (.bx aP (t 57)),o 59 (.nc (t 55)),fa 60 0
 59,o 61 (.iaa 26 1 (t 60) (t 56)),n (.st 1 (t 61) (t 58))]) (Y [5,7,8,10,27,28,29,39,40])) X)) (Q (O [m 62 8,m 63 10,o 64 (.nc (t 62)),fa 65 0 64,o 66 (.iaa 26 1 (t
 65) (t 63)),ld 67 66,m 8 67]) (Y [5,7,8,27,28,29,39,40])))))) (O [ad 68 40,m 40 68]))))
def tv:AC:=
 (Q (O [bl 30 29 28]) (Q (C 30 X (.exit 0)) (Q (Q (.block 1 (Q (Q (O [ia 31 3 27 29,la 32 3 31,o 7 (.nw [(.int .i64 0),(.int .i64 0),(.str [])] b4),n (.st 3 (t 7) (t
 32))]) (Y [5,7,27,28,29])) (Q (Q (O [m 33 5,o 34 (.nc (t 33)),fa 35 6 34,ld 36 35,m 8 36]) (Y [5,7,8,27,28,29])) (Q (Q (Q (O [fa 37 2 7,ld 38 37,lt 39 38,mc 40 (i
 0)]) (Y [5,7,8,27,28,29,39,40])) (Q (.block 2 (lo [5,7,8,27,28,29,39,40] qO)) (Y [5,8,27,28,29]))) (Q (O [m 69 8,o 70 (.nc (t 69)),fa 71 26 70,ld 72
 71,ad 73 72,o 74 (.nc (t 69)),fa 75 26 74,n (.st 1 (t 75) (t 73))]) (Y [5,27,28,29])))))) (Y [5,27,28,29])) (O [ad 76 29,m 29 76]))))
def wq:AC:=
 (Q (O [o 1 (.bx ab (t 0)),mc 2 (.c .nilp),mc 3 (u 0)]) (Q (Q (O [la 11 6 1,k1 12 qN 11,m 4 12]) (Q (O [m 13 4,ac 14 .neq 13 (u 0)]) (C 14 (Q (O [m 15 4,
 mc 2 (.c .nilp),m 3 15]) R) X))) (Q (Q (O [la 16 6 1,k1 17 fQ 16,o 18 (.bd [(.str []),(.slice .nil 2 []),(.slice .nil 2 []),(.slice .nil 4 []),(.slice .nil 4 []),
 (.slice .nil 3 [])] [(0,6)] [(0,(t 17))]),o 19 (.bd [.nilp,.nilp,.nilp,.nilp,.nilp,.nilp,.nilp,.nilp,.nilp,.nilp,.nilp,.nilp,.nilp,.nilp,.nilp,.nilp,.nilp,.nilp,
 .nilp,.nilp,.nilp,.nilp,.nilp,.nilp,.nilp,.nilp,(.int .i64 0)] [(0,26),(26,1)] []),o 20 (.bx aP (t 19)),o 21 (.bd [(.str []),(.slice .nil 2 []),(.slice .nil
 2 []),(.slice .nil 4 []),(.slice .nil 4 []),(.slice .nil 3 []),.nilp] [(0,6),(6,1)] [(0,(t 18)),(1,(t 20))]),o 22 (.bx kG (t 21)),m 5 22]) (Y [5])) (Q (Q
 (Q (O [m 23 5,o 24 (.nc (t 23)),fa 25 0 24,la 26 6 25,k1 27 lj 26,ls 28 27,mc 29 (i 0)]) (Y [5,27,28,29])) (Q (.block 0 (lo [5,27,28,29]
 tv)) (Y [5]))) (Q (O [m 77 5,m 2 77,mc 3 (u 0)]) R)))))
def ss:AFn:=⟨wq,78,[.t 2,.t 3],.keep,[],none⟩
theorem su:qf ss [.t 2,.t 3] .keep:=⟨rfl,rfl,rfl⟩
def nY:AC:=
 (Q (O [mc 4 (.c (.slice .nil 3 [])),mc 5 (u 0)]) (Q (.block 0 (Q (Q (O [m 7 0,k1 8 qW 7,no 9 8,m 6 9]) (Y [0,1,6])) (C 6 (Q (O [mc 4 (.c (.slice .nil 3
 [])),mc 5 (u 2)]) R) (Q (Q (O [m 11 1,k1 12 uX 11,no 13 12,m 10 13]) (Y [0,1,10])) (C 10 (Q (O [mc 4 (.c (.slice .nil 3 [])),mc 5 (u 1)]) R) X))))) (Q (Q (O [m 14
 0,o 15 (.nc (t 14)),fa 16 0 15,la 17 6 16,m 18 1,k2 19 kK 17 18,m 4 19,mc 5 (u 0)]) (Y [4,5])) R)))
def nZ:AFn:=⟨nY,20,[.t 4,.t 5],.drop,[],none⟩
theorem tw:qf nZ [.t 4,.t 5] .drop:=⟨rfl,rfl,rfl⟩
def wT:AC:=
 (Q (O [o 2 (.bx ab (t 0)),mc 4 (.c (.slice .nil 3 [])),mc 5 (u 0)]) (Q (Q (O [la 7 6 2,k1 8 qN 7,m 6 8]) (Q (O [m 9 6,ac 10 .neq 9 (u 0)]) (C 10 (Q (O [m
 11 6,mc 4 (.c (.slice .nil 3 [])),m 5 11]) R) X))) (Q (Q (O [m 12 1,k1 13 uX 12,no 14 13]) (C 14 (Q (O [mc 4 (.c (.slice .nil 3 [])),mc 5 (u 1)]) R) X)) (Q (Q (O [la
 15 6 2,o 16 (.bd [(.str []),(.slice .nil 2 []),(.slice .nil 2 []),(.slice .nil 4 []),(.slice .nil 4 []),(.slice .nil 3 [])] [(0,6)] [(0,(t 15))]),m 17 1,k2 18
 kK 16 17,m 4 18,mc 5 (u 0)]) (Y [4,5])) R))))
def wU:AFn:=⟨wT,19,[.t 4,.t 5],.drop,[],none⟩
theorem wV:qf wU [.t 4,.t 5] .drop:=⟨rfl,rfl,rfl⟩
def oS:AC:=
 (Q (O [o 2 (.bx ab (t 0)),mc 4 (.c (.slice .nil 3 [])),mc 5 (u 0)]) (Q (Q (O [la 7 6 2,k1 8 mT 7,m 6 8]) (Q (O [m 9 6,ac 10 .neq 9 (u 0)]) (C 10
 (Q (O [m 11 6,mc 4 (.c (.slice .nil 3 [])),m 5 11]) R) X))) (Q (Q (O [m 12 1,k1 13 nG 12,no 14 13]) (C 14 (Q (O [mc 4 (.c (.slice .nil 3 [])),mc 5 (u 1)]) R)
 X)) (Q (Q (D [W (la 15 6 2),W (la 16 6 2),K (k1 17 s8 16),Pm 18 1,K (k 19 (f nW) [(t 15),(t 17),(t 18)]),Pm 4 19,P (mc 5 (u 0))]) (Y
 [4,5])) R))))
def oU:AFn:=⟨oS,20,[.t 4,.t 5],.drop,[],none⟩
theorem oV:qf oU [.t 4,.t 5] .drop:=⟨rfl,rfl,rfl⟩
def ec:AC:=
 (Q (Q (Q (O [m 11 5,m 12 0,ls 13 12,bl 14 11 13]) (Y [0,1,5,14])) (C 14 X (.exit 0))) (Q (.block 1 (Q (Q (D [Pm 17 0,Pm 18 5,P (ia 19 3 17 18),W (la 20 3 19),Pm 21 1,Pm
 22 5,P (ia 23 3 21 22),W (la 24 3 23),E (k2 25 dH 20 24),P (no 26 25)]) (Y [0,1,5,26])) (C 26 (rt 4 F) X))) (ic 15 5 16)))
def lO:AC:=
 (Q (O [mc 4 F]) (Q (Q (Q (O [m 6 0,ls 7 6,m 8 1,ls 9 8,ar 10 .neq 7 9]) (Y [0,1,10])) (C 10 (rt 4 F) X)) (Q (Q (O [mc 5 (i 0)]) (Q (.block 0 (lo [0,1,5]
 ec)) (Y []))) (rt 4 T))))
def eJ:AFn:=⟨lO,27,[.t 4],.drop,[],none⟩
theorem lP:qf eJ [.t 4] .drop:=⟨rfl,rfl,rfl⟩
def gi:AC:=
 (Q (Q (Q (O [m 4 3,m 5 0,ls 6 5,bl 7 4 6,m 8 7,g 9 8 (.mv (t 3)),g 10 8 (.ar .lss (t 9) (i 100)),pf 11 8 10]) (Y [0,1,3,11])) (C 11 X (.exit 0))) (Q (.block 1 (Q (D [Wl 14
 1,Pm 15 0,Pm 16 3,P (ia 17 2 15 16),Pf 18 0 17,Wl 19 18,W (lt 20 19),P (o 21 (.ar .add (i 1) (t 20))),Pm 22 0,Pm 23 3,P (ia 24 2 22 23),Pf 25 1 24,Wl 26 25,W (lt 27
 26),P (ar 28 .add 21 27),P (ar 29 .add 14 28),E (n (.st 1 (t 1) (t 29)))]) (Y [0,1,3]))) (ic 12 3 13)))
def oW:AC:=
 (Q (Q (O [mc 3 (i 0)]) (Q (.block 0 (lo [0,1,3] gi)) (Y [0,1]))) (Q (O [ld 30 1,m 31 0,ls 32 31,ar 33 .add 30 32,n (.st 1 (t 1) (t 33))]) (Y [])))
def fp:AFn:=⟨oW,34,[],.drop,[],none⟩
theorem oX:qf fp [] .drop:=⟨rfl,rfl,rfl⟩
def rj:AC:=
 (Q (O [mc 2 (i 0)]) (Q (Q (O [m 3 0,o 4 (.nc (t 3)),fa 5 1 4,ld 6 5,ls 7 6,m 2 7]) (Y [2])) R))
def ng:AFn:=⟨rj,8,[.t 2],.drop,[],none⟩
theorem B3:qf ng [.t 2] .drop:=⟨rfl,rfl,rfl⟩
def gS:AC:=
 (Q (O [mc 2 (s [])]) (Q (Q (D [Pm 3 0,P (o 4 (.nc (t 3))),Pf 5 1 4,Wl 6 5,P (o 7 (.usl (t 6))),Pm 8 0,P (o 9 (.nc (t 8))),Pf 10 1 9,Wl 11 10,W (ls 12 11),E (o 13 (.ust
 dD (t 7) (t 12))),Pm 2 13]) (Y [2])) R))
def kN:AFn:=⟨gS,14,[.t 2],.drop,[],none⟩
theorem n9:qf kN [.t 2] .drop:=⟨rfl,rfl,rfl⟩
def qB:AC:=
 (Q (O [bl 9 8 7]) (Q (C 9 X (.exit 0)) (Q (.block 1 (Q (O [ia 10 1 6 8,ld 11 10,m 4 11]) (Q (O [m 12 4,k 13 (t 12) [],m 5 13]) (Q (O [m 14 5,ac 15 .neq 14 (u 0)]) (C 15 (Q (O
 [m 16 5,m 2 16]) R) X))))) (O [ad 17 8,m 8 17]))))
def zq:AC:=
 (Q (O [mc 2 (u 0)]) (Q (Q (O [m 6 0,ls 7 6,mc 8 (i 0)]) (Q (.block 0 (lo [6,7,8] qB)) (Y []))) (rt 2 (u 0))))
def qP:AFn:=⟨zq,18,[.t 2],.drop,[],none⟩
theorem zr:qf qP [.t 2] .drop:=⟨rfl,rfl,rfl⟩
def eS:AC:=
 (Q (O [bl 11 10 9]) (Q (C 11 X (.exit 0)) (Q (.block 1 (Q (O [m 12 10,m 4 12]) (Q (Q (D [Pm 13 3,Pm 14 4,P (o 15 (.ixs (t 13) (t 14))),E (k1 16 cO 15),P (no 17 16),
 Pm 18 17,P (h 19 18 (.mv (t 4))),P (h 20 18 (.ar .gtr (t 19) (i 0))),P (h 21 18 (.mv (t 20))),P (g 22 21 (.mv (t 3))),P (g 23 21 (.mv (t 4))),P (g 24 21 (.ar .sub (t 23) (i
 1))),P (g 25 21 (.ixs (t 22) (t 24))),P (g 26 21 (.mv (t 3))),P (g 27 21 (.mv (t 4))),P (g 28 21 (.ixs (t 26) (t 27))),P (g 29 21 (.ar .geq (t 25) (t 28))),P (h 30 18 (.pk (t
 21) (t 29) F)),P (pt 31 18 30)]) (Y [3,9,10,31])) (C 31 (rt 2 (u 1)) X)))) (O [ad 32 10,m 10 32]))))
def pN:AC:=
 (Q (O [o 1 (.bx bE (t 0)),mc 2 (u 0)]) (Q (Q (O [fa 5 0 1,fa 6 0 5,ld 7 6,m 3 7]) (Y [3])) (Q (Q (O [m 8 3,lt 9 8,mc 10 (i 0)]) (Q (.block 0 (lo [3,9,10]
 eS)) (Y []))) (rt 2 (u 0)))))
def fX:AFn:=⟨pN,33,[.t 2],.drop,[],none⟩
theorem mA:qf fX [.t 2] .drop:=⟨rfl,rfl,rfl⟩
def wW:AC:=
 (Q (O [mc 2 (u 0)]) (Q (Q (O [fa 3 1 0,ld 4 3,la 5 6 1,o 6 (.mf (.func mU) [(t 5)] []),k 7 (f mj) [(t 4),(i 8),(t 6)],m 2 7]) (Y [2]))
 R))
def tP:AFn:=⟨wW,8,[.t 2],.drop,[],none⟩
theorem HT:qf tP [.t 2] .drop:=⟨rfl,rfl,rfl⟩
def gT:AC:=
 (Q (O [bl 17 16 15]) (Q (C 17 X (.exit 0)) (Q (.block 1 (Q (Q (O [m 18 16,ia 19 2 14 16,la 20 2 19,o 8 (.nw [(.str []),(.slice .nil 1 [])] bU),m 7 18,n (.st 2 (t 8)
 (t 20))]) (Y [2,7,8,14,15,16])) (Q (Q (O [m 21 2,m 22 7,la 23 2 8,k 24 (t 21) [(t 22),(t 23)],m 9 24]) (Y [2,9,14,15,16])) (Q (O [m 25 9,ac 26 .neq 25 (u 0)]) (C 26
 (Q (O [m 27 9,m 6 27]) R) X))))) (O [ad 28 16,m 16 28]))))
def pO:AC:=
 (Q (O [mc 6 (u 0)]) (Q (Q (Q (O [m 10 0,ls 11 10,m 12 1,ar 13 .gtr 11 12]) (Y [0,2,13])) (C 13 (rt 6 (u 3)) X)) (Q (Q (O [m 14 0,ls 15 14,mc 16 (i 0)]) (Q (.block 0 (lc [2,
 14,15,16] gT)) (Y []))) (rt 6 (u 0)))))
def er:AFn:=⟨pO,29,[.t 6],.drop,[],none⟩
theorem pP:qf er [.t 6] .drop:=⟨rfl,rfl,rfl⟩
def jh:AC:=
 (Q (O [bl 36 35 34]) (Q (C 36 X (.exit 1)) (Q (.block 2 (Q (Q (O [m 37 35,ia 38 1 33 35,ld 39 38,m 7 37,m 8 39]) (Y [5,7,8,33,34,35])) (Q (Q (O [m 40 8,k1 41 uY
 40,no 42 41]) (C 42 (rt 6 (u 5)) X)) (Q (Q (O [fa 43 1 5,ld 44 43,m 45 7,o 46 (.sll 1 (t 44) none (some (t 45)) none),m 47 8,k2 48 fx 46 47]) (Y
 [5,33,34,35,48])) (C 48 (rt 6 (u 6)) X))))) (O [ad 49 35,m 35 49]))))
def rk:AC:=
 (Q (O [o 3 (.bx bE (t 0)),o 5 (.bx bU (t 2)),mc 6 (u 0)]) (Q (.block 0 (Q (Q (O [fa 10 0 5,ld 11 10,k1 12 uY 11,no 13 12,m 9 13]) (Y [1,3,5,
 9])) (C 9 (rt 6 (u 5)) (Q (Q (O [fa 15 0 3,fa 16 1 15,ld 17 16,m 18 1,o 19 (.sll 2 (t 17) none (some (t 18)) none),o 20 (.mf (.func ll) [] [(t 5)]),k2 21
 dg 19 20,m 14 21]) (Y [5,14])) (C 14 (rt 6 (u 6)) (Q (Q (O [fa 23 1 5,ld 24 23,ls 25 24,ac 26 .gtr 25 (i 8),m 22 26]) (Y [5,22])) (C 22
 (rt 6 (u 3)) (Q (Q (O [fa 28 1 5,ld 29 28,ls 30 29,ac 31 .eql 30 (i 0),m 27 31]) (Y [5,27])) (C 27 (rt 6 (u 1)) X))))))))) (Q (Q (Q (O [fa 32 1 5,ld 33 32,ls 34 33,mc 35 (i
 0)]) (Y [5,33,34,35])) (Q (.block 1 (lo [5,33,34,35] jh)) (Y []))) (rt 6 (u 0)))))
def gJ:AFn:=⟨rk,50,[.t 6],.drop,[],none⟩
theorem rl:qf gJ [.t 6] .drop:=⟨rfl,rfl,rfl⟩
def wX:AC:=
 (Q (O [mc 2 (u 0)]) (Q (Q (O [fa 3 2 0,ld 4 3,la 5 6 1,o 6 (.mf (.func mV) [(t 5)] []),k 7 (f ml) [(t 4),(i 16),(t 6)],m 2 7]) (Y [2]))
 R))
def tQ:AFn:=⟨wX,8,[.t 2],.drop,[],none⟩
theorem HU:qf tQ [.t 2] .drop:=⟨rfl,rfl,rfl⟩
def gV:AC:=
 (Q (O [bl 17 16 15]) (Q (C 17 X (.exit 0)) (Q (.block 1 (Q (Q (O [m 18 16,ia 19 2 14 16,la 20 2 19,o 8 (.nw [(.str []),(.slice .nil 4 [])] aW),m 7 18,n (.st 2 (t 8)
 (t 20))]) (Y [2,7,8,14,15,16])) (Q (Q (O [m 21 2,m 22 7,la 23 2 8,k 24 (t 21) [(t 22),(t 23)],m 9 24]) (Y [2,9,14,15,16])) (Q (O [m 25 9,ac 26 .neq 25 (u 0)]) (C 26
 (Q (O [m 27 9,m 6 27]) R) X))))) (O [ad 28 16,m 16 28]))))
def pQ:AC:=
 (Q (O [mc 6 (u 0)]) (Q (Q (Q (O [m 10 0,ls 11 10,m 12 1,ar 13 .gtr 11 12]) (Y [0,2,13])) (C 13 (rt 6 (u 3)) X)) (Q (Q (O [m 14 0,ls 15 14,mc 16 (i 0)]) (Q (.block 0 (lc [2,
 14,15,16] gV)) (Y []))) (rt 6 (u 0)))))
def eu:AFn:=⟨pQ,29,[.t 6],.drop,[],none⟩
theorem pR:qf eu [.t 6] .drop:=⟨rfl,rfl,rfl⟩
def rm:AC:=
 (Q (O [o 3 (.bx bE (t 0)),o 5 (.bx aW (t 2)),mc 6 (u 0)]) (Q (.block 0 (Q (Q (O [fa 8 0 5,ld 9 8,k1 10 uY 9,no 11 10,m 7 11]) (Y [1,3,5,7]))
 (C 7 (rt 6 (u 5)) (Q (Q (O [fa 13 0 3,fa 14 2 13,ld 15 14,m 16 1,o 17 (.sll 2 (t 15) none (some (t 16)) none),o 18 (.mf (.func ln) [] [(t 5)]),k2 19
 dh 17 18,m 12 19]) (Y [3,5,12])) (C 12 (rt 6 (u 6)) (Q (Q (O [fa 21 1 5,ld 22 21,ls 23 22,ac 24 .gtr 23 (i 24),m 20 24]) (Y [3,5,
 20])) (C 20 (rt 6 (u 3)) (Q (Q (O [fa 26 1 5,ld 27 26,ls 28 27,ac 29 .eql 28 (i 0),m 25 29]) (Y [3,5,25])) (C 25 (rt 6 (u 1)) X))))))))) (Q (Q (O [fa 30 1 5,ld 31 30,o 32
 (.mf (.func lq) [] [(t 3)]),k 33 (f na) [(t 31),(i 24),(t 32)],m 6 33]) (Y [6])) R)))
def nh:AFn:=⟨rm,34,[.t 6],.drop,[],none⟩
theorem B4:qf nh [.t 6] .drop:=⟨rfl,rfl,rfl⟩
def wY:AC:=
 (Q (O [mc 2 (u 0)]) (Q (Q (O [fa 3 3 0,ld 4 3,la 5 6 1,o 6 (.mf (.func mW) [(t 5)] []),k 7 (f mo) [(t 4),(i 128),(t 6)],m 2 7]) (Y
 [2])) R))
def tR:AFn:=⟨wY,8,[.t 2],.drop,[],none⟩
theorem HV:qf tR [.t 2] .drop:=⟨rfl,rfl,rfl⟩
def gW:AC:=
 (Q (O [bl 17 16 15]) (Q (C 17 X (.exit 0)) (Q (.block 1 (Q (Q (O [m 18 16,ia 19 4 14 16,la 20 4 19,o 8 (.nw [(.str []),(.str []),(.slice .nil 2 []),(.slice .nil 2 [])]
 aZ),m 7 18,n (.st 4 (t 8) (t 20))]) (Y [2,7,8,14,15,16])) (Q (Q (O [m 21 2,m 22 7,la 23 4 8,k 24 (t 21) [(t 22),(t 23)],m 9 24]) (Y [2,9,14,15,16])) (Q (O
 [m 25 9,ac 26 .neq 25 (u 0)]) (C 26 (Q (O [m 27 9,m 6 27]) R) X))))) (O [ad 28 16,m 16 28]))))
def pS:AC:=
 (Q (O [mc 6 (u 0)]) (Q (Q (Q (O [m 10 0,ls 11 10,m 12 1,ar 13 .gtr 11 12]) (Y [0,2,13])) (C 13 (rt 6 (u 3)) X)) (Q (Q (O [m 14 0,ls 15 14,mc 16 (i 0)]) (Q (.block 0 (lc [2,
 14,15,16] gW)) (Y []))) (rt 6 (u 0)))))
def ew:AFn:=⟨pS,29,[.t 6],.drop,[],none⟩
theorem pT:qf ew [.t 6] .drop:=⟨rfl,rfl,rfl⟩
def ji:AC:=
 (Q (O [bl 51 50 49]) (Q (C 51 X (.exit 1)) (Q (.block 2 (Q (Q (O [m 52 50,ia 53 2 48 50,la 54 2 53,o 11 (.nw [(.int .i64 0),(.str [])] cL),m 10 52,n (.st 2 (t 11)
 (t 54))]) (Y [5,7,10,11,48,49,50])) (.block 3 (Q (Q (O [fa 56 0 11,ld 57 56,ac 58 .lss 57 (i 0),m 59 58,h 60 59 (.fa 0 (t 11)),h 61 59 (.ld none (t 60)),h 62 59 (.fa 1
 (t 7)),h 63 59 (.ld none (t 62)),h 64 59 (.len .sl (t 63)),h 65 59 (.ar .geq (t 61) (t 64)),pt 66 59 65,m 55 66]) (Y [5,7,10,11,48,49,50,55])) (C 55 (rt 6 (u 7)) (Q (Q
 (O [fa 68 3 5,ld 69 68,m 70 10,o 71 (.sll 2 (t 69) none (some (t 70)) none),o 72 (.mf (.func lA) [] [(t 11)]),k2 73
 ct 71 72,m 67 73]) (Y [5,7,11,48,49,50,67])) (C 67 (rt 6 (u 6)) (Q (Q (O [fa 75 1 11,ld 76 75,ac 77 .neq 76 (s []),m 78 77,
 g 79 78 (.fa 1 (t 11)),g 80 78 (.ld none (t 79)),⟨(some 81),(some (78,true)),(.call (.c (.fn (.func vZ) [] [])) [(.t 80)])⟩,g 82 78 (.un .not (t 81)),pf 83 78 82,
 m 74 83]) (Y [5,7,48,49,50,74])) (C 74 (rt 6 (u 1)) X))))))))) (O [ad 84 50,m 50 84]))))
def rn:AC:=
 (Q (O [o 3 (.bx bE (t 0)),o 5 (.bx aZ (t 2)),mc 6 (u 0)]) (Q (Q (O [fa 13 0 3,la 14 6 13,fa 15 1 5,ld 16 15,k2 17 fR 14 16,m 12 17,ex 18
 12 0,ex 19 12 1,o 7 (.nw [(.str []),(.slice .nil 4 [])] aW),n (.st 2 (t 7) (t 18)),m 8 19]) (Y [1,3,5,7,8])) (Q (.block 0 (Q (Q (O [fa 21 0 5,ld 22 21,k1 23
 vZ 22,no 24 23,m 20 24]) (Y [1,3,5,7,8,20])) (C 20 (rt 6 (u 1)) (Q (O [m 26 8,no 27 26,m 25 27]) (C 25 (rt 6 (u 5)) (Q (Q (O [fa 29 0 3,fa 30 3 29,ld 31 30,m
 32 1,o 33 (.sll 4 (t 31) none (some (t 32)) none),o 34 (.mf (.func lr) [] [(t 5)]),k2 35 di 33 34,m 28 35]) (Y [3,5,
 7,28])) (C 28 (rt 6 (u 6)) X))))))) (Q (Q (Q (O [la 36 6 3,fa 37 2 5,ld 38 37,k2 39 jG 36 38,m 9 39]) (Y [5,7,9])) (Q (O [m 40 9,ac 41 .neq 40 (u 0)]) (C
 41 (Q (O [m 42 9,m 6 42]) R) X))) (Q (Q (Q (O [fa 43 1 7,ld 44 43,o 45 (.mf (.func lu) [] [(t 5)]),k2 46 dC 44 45]) (Y
 [5,7,46])) (C 46 (rt 6 (u 10)) X)) (Q (Q (Q (O [fa 47 3 5,ld 48 47,ls 49 48,mc 50 (i 0)]) (Y [5,7,48,49,50])) (Q (.block 1 (lc [5,7,48,49,50] ji))
 (Y []))) (rt 6 (u 0))))))))
def gK:AFn:=⟨rn,85,[.t 6],.drop,[],none⟩
theorem ni:qf gK [.t 6] .drop:=⟨rfl,rfl,rfl⟩
def wZ:AC:=
 (Q (O [mc 2 (u 0)]) (Q (Q (O [fa 3 4 0,ld 4 3,la 5 6 1,o 6 (.mf (.func mX) [(t 5)] []),k 7 (f mq) [(t 4),(i 16),(t 6)],m 2 7]) (Y [2]))
 R))
def tS:AFn:=⟨wZ,8,[.t 2],.drop,[],none⟩
theorem HW:qf tS [.t 2] .drop:=⟨rfl,rfl,rfl⟩
def gX:AC:=
 (Q (O [bl 17 16 15]) (Q (C 17 X (.exit 0)) (Q (.block 1 (Q (Q (O [m 18 16,ia 19 4 14 16,la 20 4 19,o 8 (.nw [(.str []),(.str []),(.str []),(.str [])] cu),m 7 18,n
 (.st 4 (t 8) (t 20))]) (Y [2,7,8,14,15,16])) (Q (Q (O [m 21 2,m 22 7,la 23 4 8,k 24 (t 21) [(t 22),(t 23)],m 9 24]) (Y [2,9,14,15,16])) (Q (O [m 25 9,ac 26 .neq 25 (u
 0)]) (C 26 (Q (O [m 27 9,m 6 27]) R) X))))) (O [ad 28 16,m 16 28]))))
def pU:AC:=
 (Q (O [mc 6 (u 0)]) (Q (Q (Q (O [m 10 0,ls 11 10,m 12 1,ar 13 .gtr 11 12]) (Y [0,2,13])) (C 13 (rt 6 (u 3)) X)) (Q (Q (O [m 14 0,ls 15 14,mc 16 (i 0)]) (Q (.block 0 (lc [2,
 14,15,16] gX)) (Y []))) (rt 6 (u 0)))))
def ey:AFn:=⟨pU,29,[.t 6],.drop,[],none⟩
theorem pV:qf ey [.t 6] .drop:=⟨rfl,rfl,rfl⟩
def rp:AC:=
 (Q (O [o 3 (.bx bE (t 0)),o 5 (.bx cu (t 2)),mc 6 (u 0)]) (Q (Q (Q (O [fa 7 0 5,ld 8 7,ac 9 .eql 8 (s []),m 10 9,h 11 10 (.fa 0 (t 5)),h 12 10 (.ld none
 (t 11)),⟨(some 13),(some (10,false)),(.call (.c (.fn (.func kL) [] [])) [(.t 12),(.c (.fn (.func oM) [] []))])⟩,h 14 10 (.un .not (t 13)),pt 15 10 14,
 m 16 15,h 17 16 (.fa 1 (t 5)),h 18 16 (.ld none (t 17)),⟨(some 19),(some (16,false)),(.call (.c (.fn (.func kL) [] [])) [(.t 18),(.c (.fn (.func oM) []
 []))])⟩,h 20 16 (.un .not (t 19)),pt 21 16 20,m 22 21,h 23 22 (.fa 2 (t 5)),h 24 22 (.ld none (t 23)),⟨(some 25),(some (22,false)),(.call (.c (.fn (.func kL) []
 [])) [(.t 24),(.c (.fn (.func sm) [] []))])⟩,h 26 22 (.un .not (t 25)),pt 27 22 26,m 28 27,h 29 28 (.fa 3 (t 5)),h 30 28 (.ld none (t 29)),⟨(some 31),(some (28,
 false)),(.call (.c (.fn (.func kL) [] [])) [(.t 30),(.c (.fn (.func sm) [] []))])⟩,h 32 28 (.un .not (t 31)),pt 33 28 32]) (Y [33])) (C 33 (rt 6 (u 1))
 X)) (rt 6 (u 0))))
def nj:AFn:=⟨rp,34,[.t 6],.drop,[],none⟩
theorem B5:qf nj [.t 6] .drop:=⟨rfl,rfl,rfl⟩
def w7:AC:=
 (Q (O [mc 2 (u 0)]) (Q (Q (O [fa 3 5 0,ld 4 3,la 5 6 1,o 6 (.mf (.func nF) [(t 5)] []),k 7 (f mY) [(t 4),(i 8),(t 6)],m 2 7]) (Y [2]))
 R))
def tT:AFn:=⟨w7,8,[.t 2],.drop,[],none⟩
theorem HX:qf tT [.t 2] .drop:=⟨rfl,rfl,rfl⟩
def jj:AC:=
 (Q (O [bl 17 16 15]) (Q (C 17 X (.exit 0)) (Q (.block 1 (Q (Q (O [m 18 16,ia 19 3 14 16,la 20 3 19,o 8 (.nw [(.str []),(.str []),(.slice .nil 2 [])] cY),m 7 18,n (.st
 3 (t 8) (t 20))]) (Y [2,7,8,14,15,16])) (Q (Q (O [m 21 2,m 22 7,la 23 3 8,k 24 (t 21) [(t 22),(t 23)],m 9 24]) (Y [2,9,14,15,16])) (Q (O [m 25 9,ac 26 .neq 25 (u 0)])
 (C 26 (Q (O [m 27 9,m 6 27]) R) X))))) (O [ad 28 16,m 16 28]))))
def rq:AC:=
 (Q (O [mc 6 (u 0)]) (Q (Q (Q (O [m 10 0,ls 11 10,m 12 1,ar 13 .gtr 11 12]) (Y [0,2,13])) (C 13 (rt 6 (u 3)) X)) (Q (Q (O [m 14 0,ls 15 14,mc 16 (i 0)]) (Q (.block 0 (lc [2,
 14,15,16] jj)) (Y []))) (rt 6 (u 0)))))
def eX:AFn:=⟨rq,29,[.t 6],.drop,[],none⟩
theorem rr:qf eX [.t 6] .drop:=⟨rfl,rfl,rfl⟩
def sw:AC:=
 (Q (O [o 3 (.bx bE (t 0)),o 5 (.bx cY (t 2)),mc 6 (u 0)]) (Q (Q (Q (O [fa 10 0 3,la 11 6 10,fa 12 0 5,ld 13 12,k2 14 fR 11 13,m 9 14,ex 15
 9 0,ex 16 9 1,o 7 (.nw [(.str []),(.slice .nil 4 [])] aW),n (.st 2 (t 7) (t 15)),m 8 16]) (Y [3,5,8])) (Q (O [m 17 8,no 18 17]) (C 18 (rt 6 (u 5)) X))) (Q (Q (Q (O
 [fa 19 1 5,ld 20 19,k 21 (f kL) [(t 20),(f cO)],no 22 21]) (Y [3,5,22])) (C 22 (rt 6 (u 1)) X)) (Q (Q (O [la 23 6 3,fa 24 2 5,ld 25 24,k2 26
 jG 23 25,m 6 26]) (Y [6])) R))))
def nK:AFn:=⟨sw,27,[.t 6],.drop,[],none⟩
theorem wt:qf nK [.t 6] .drop:=⟨rfl,rfl,rfl⟩
def kZ:AC:=
 (Q (Q (Q (O [m 18 7,m 19 1,lt 20 19,bl 21 18 20]) (Y [0,1,5,6,7,21])) (C 21 X (.exit 2))) (Q (.block 3 (Q (D [Pm 24 6,Pm 25 24,P (h 26 25 (.mv (t 0))),P (h 27 25 (.mv (t
 5))),P (h 28 25 (.ixs (t 26) (t 27))),P (h 29 25 (.mv (t 1))),P (h 30 25 (.mv (t 7))),P (h 31 25 (.ixs (t 29) (t 30))),P (h 32 25 (.ar .eql (t 28) (t 31))),P (pt 33 25 32),Pm
 6 33]) (Y [0,1,5,6,7]))) (ic 22 7 23)))
def k6:AC:=
 (Q (Q (Q (O [m 8 5,m 9 0,lt 10 9,bl 11 8 10]) (Y [0,1,5,11])) (C 11 X (.exit 0))) (Q (Q (.block 1 (Q (Q (O [m 14 0,m 15 5,o 16 (.ixs (t 14) (t 15)),k1 17
 fW 16,m 6 17]) (Y [0,1,5,6])) (Q (Q (O [mc 7 (i 0)]) (Q (.block 2 (lo [0,1,5,6,7] kZ)) (Y [0,1,5,6]))) (Q (O [m 34 6,no 35 34]) (C
 35 (rt 4 F) X))))) (Y [0,1,5])) (ic 12 5 13)))
def uc:AC:=
 (Q (O [mc 4 F]) (Q (Q (O [mc 5 (i 0)]) (Q (.block 0 (lo [0,1,5] k6)) (Y []))) (rt 4 T)))
def bc:AFn:=⟨uc,36,[.t 4],.drop,[],none⟩
def gY:AC:=
 (Q (Q (Q (O [m 44 5,fa 45 1 4,ld 46 45,ls 47 46,bl 48 44 47]) (Y [1,3,4,5,48])) (C 48 X (.exit 3))) (Q (.block 4 (Q (Q (Q (O [fa 51 1 4,ld 52 51,m 53 5,ia 54 1 52 53,ld
 55 54,k1 56 kU 55,no 57 56]) (Y [1,3,4,5,57])) (C 57 (rt 2 (u 5)) X)) (Q (Q (D [Pf 58 1 4,Wl 59 58,Pm 60 5,P (o 61 (.sll 1 (t 59) none (some (t 60))
 none)),Pf 62 1 4,Wl 63 62,Pm 64 5,P (ia 65 1 63 64),Wl 66 65,E (k2 67 pA 61 66)]) (Y [1,3,4,5,67])) (C 67 (rt 2 (u 6)) X)))) (ic 49 5 50)))
def gZ:AC:=
 (Q (Q (Q (O [m 10 3,fa 11 1 1,ld 12 11,ls 13 12,bl 14 10 13]) (Y [1,3,14])) (C 14 X (.exit 0))) (Q (Q (.block 1 (Q (Q (O [fa 17 1 1,ld 18 17,m 19 3,ia 20 2 18 19,la 21 2
 20,o 4 (.nw [(.str []),(.slice .nil 1 [])] bU),n (.st 2 (t 4) (t 21))]) (Y [1,3,4])) (Q (.block 2 (Q (Q (O [fa 23 0 4,ld 24 23,k1 25 kU 24,no 26
 25,m 22 26]) (Y [1,3,4,22])) (C 22 (rt 2 (u 5)) (Q (Q (O [la 28 6 1,fa 29 0 4,ld 30 29,k2 31 nb 28 30,m 32 3,bl 33 31 32,m 27 33]) (Y [1,3,4,27])) (C
 27 (rt 2 (u 6)) (Q (Q (O [fa 35 1 4,ld 36 35,ls 37 36,ac 38 .gtr 37 (i 8),m 34 38]) (Y [1,3,4,34])) (C 34 (rt 2 (u 3)) (Q (Q (O [fa 40 1 4,ld 41 40,ls 42 41,ac 43 .eql 42
 (i 0),m 39 43]) (Y [1,3,4,39])) (C 39 (rt 2 (u 1)) X))))))))) (Q (O [mc 5 (i 0)]) (Q (.block 3 (lo [1,3,4,5] gY)) (Y [1,3])))))) (Y [1,3])) (ic 15 3
 16)))
def pW:AC:=
 (Q (O [o 1 (.bx ab (t 0)),mc 2 (u 0)]) (Q (Q (Q (O [fa 6 1 1,ld 7 6,ls 8 7,ac 9 .gtr 8 (i 8)]) (Y [1,9])) (C 9 (rt 2 (u 3)) X)) (Q (Q (O [mc 3 (i 0)]) (Q (.block 0
 (lc [1,3] gZ)) (Y []))) (rt 2 (u 0)))))
def ez:AFn:=⟨pW,68,[.t 2],.drop,[],none⟩
theorem jM:qf ez [.t 2] .drop:=⟨rfl,rfl,rfl⟩
def gj:AC:=
 (Q (Q (Q (O [m 46 5,fa 47 1 4,ld 48 47,ls 49 48,bl 50 46 49]) (Y [1,3,4,5,50])) (C 50 X (.exit 3))) (Q (.block 4 (Q (Q (O [fa 53 1 4,ld 54 53,m 55 5,ia 56 4 54 55,la 57
 4 56,o 6 (.nw [(.int .i64 0),(.str []),(.str []),(.slice .nil 2 [])] aR),n (.st 4 (t 6) (t 57))]) (Y [1,3,4,5,6])) (Q (Q (Q (O [fa 58 0 6,ld 59 58,ac 60 .lss 59
 (i 0),m 61 60,h 62 61 (.fa 0 (t 6)),h 63 61 (.ld none (t 62)),h 64 61 (.ar .gtr (t 63) (i 24)),pt 65 61 64,m 66 65,h 67 66 (.fa 1 (t 6)),h 68 66 (.ld none (t 67)),⟨(some
 69),(some (66,false)),(.call (.c (.fn (.func cX) [] [])) [(.t 68),(.c (.str []))])⟩,h 70 66 (.un .not (t 69)),pt 71 66 70,m 72 71,h 73 72 (.fa 1 (t 6)),h 74
 72 (.ld none (t 73)),h 75 72 (.len .str (t 74)),h 76 72 (.ar .gtr (t 75) (i 6)),pt 77 72 76,m 78 77,h 79 78 (.fa 2 (t 6)),h 80 78 (.ld none (t 79)),⟨(some 81),(some (78,
 false)),(.call (.c (.fn (.func cX) [] [])) [(.t 80),(.c (.str []))])⟩,h 82 78 (.un .not (t 81)),pt 83 78 82,m 84 83,h 85 84 (.fa 2 (t 6)),h 86 84 (.ld none (t
 85)),h 87 84 (.len .str (t 86)),h 88 84 (.ar .gtr (t 87) (i 6)),pt 89 84 88]) (Y [1,3,4,5,6,89])) (C 89 (rt 2 (u 1)) X)) (Q (Q (O [la 90 6 1,fa 91 3 6,ld 92 91,k2 93
 jF 90 92,m 7 93]) (Y [1,3,4,5,7])) (Q (O [m 94 7,ac 95 .neq 94 (u 0)]) (C 95 (Q (O [m 96 7,m 2 96]) R) X)))))) (ic 51 5 52)))
def gk:AC:=
 (Q (Q (Q (O [m 12 3,fa 13 2 1,ld 14 13,ls 15 14,bl 16 12 15]) (Y [1,3,16])) (C 16 X (.exit 0))) (Q (Q (.block 1 (Q (Q (O [fa 19 2 1,ld 20 19,m 21 3,ia 22 2 20 21,la 23 2
 22,o 4 (.nw [(.str []),(.slice .nil 4 [])] aW),n (.st 2 (t 4) (t 23))]) (Y [1,3,4])) (Q (.block 2 (Q (Q (O [fa 25 0 4,ld 26 25,k1 27 kU 26,no 28
 27,m 24 28]) (Y [1,3,4,24])) (C 24 (rt 2 (u 5)) (Q (Q (O [la 30 6 1,fa 31 0 4,ld 32 31,k2 33 eW 30 32,m 34 3,bl 35 33 34,m 29 35]) (Y [1,3,4,29])) (C
 29 (rt 2 (u 6)) (Q (Q (O [fa 37 1 4,ld 38 37,ls 39 38,ac 40 .gtr 39 (i 24),m 36 40]) (Y [1,3,4,36])) (C 36 (rt 2 (u 3)) (Q (Q (O [fa 42 1 4,ld 43 42,ls 44 43,ac 45 .eql 44
 (i 0),m 41 45]) (Y [1,3,4,41])) (C 41 (rt 2 (u 1)) X))))))))) (Q (O [mc 5 (i 0)]) (Q (.block 3 (lc [1,3,4,5] gj)) (Y [1,3])))))) (Y [1,3])) (ic 17 3
 18)))
def oY:AC:=
 (Q (O [o 1 (.bx ab (t 0)),mc 2 (u 0)]) (Q (Q (Q (O [fa 8 2 1,ld 9 8,ls 10 9,ac 11 .gtr 10 (i 16)]) (Y [1,11])) (C 11 (rt 2 (u 3)) X)) (Q (Q (O [mc 3 (i 0)]) (Q
 (.block 0 (lc [1,3] gk)) (Y []))) (rt 2 (u 0)))))
def ed:AFn:=⟨oY,97,[.t 2],.drop,[],none⟩
theorem jk:qf ed [.t 2] .drop:=⟨rfl,rfl,rfl⟩
def gl:AC:=
 (Q (Q (O [m 41 6,m 42 3,bl 43 41 42]) (C 43 X (.exit 2))) (Q (.block 3 (Q (Q (D [Pf 46 3 1,Wl 47 46,Pm 48 6,P (ia 49 4 47 48),Pf 50 0 49,Wl 51 50,Pf 52 0 4,Wl 53 52,P (ar
 54 .eql 51 53),Pm 55 54,P (g 56 55 (.fa 3 (t 1))),W (g 57 55 (.ld none (t 56))),P (g 58 55 (.mv (t 6))),P (g 59 55 (.ias 4 (t 57) (t 58))),P (g 60 55 (.fa 1 (t 59))),W (g 61
 55 (.ld none (t 60))),P (g 62 55 (.fa 1 (t 4))),W (g 63 55 (.ld none (t 62))),P (g 64 55 (.ar .eql (t 61) (t 63))),P (pf 65 55 64)]) (Y [1,3,4,5,6,65])) (C 65 (rt 2 (u 6))
 X))) (ic 44 6 45)))
def gm:AC:=
 (Q (Q (Q (O [m 79 9,m 80 8,ls 81 80,bl 82 79 81]) (Y [1,3,4,8,9,82])) (C 82 X (.exit 4))) (Q (.block 5 (Q (Q (D [Pf 86 2 4,Wl 87 86,Pm 88 8,Pm 89 9,P (ia 90 4 88 89),Pf
 91 3 90,Wl 92 91,E (k2 93 nd 87 92),Pm 85 93,P (ex 94 85 0),P (ex 95 85 1),Pm 10 94,Pm 11 95]) (Y [1,3,4,8,9,11])) (Q (O [m 96 11,no 97 96]) (C 97
 (rt 2 (u 10)) X)))) (ic 83 9 84)))
def gn:AC:=
 (Q (Q (O [m 120 14,m 121 12,bl 122 120 121]) (C 122 X (.exit 8))) (Q (.block 9 (Q (Q (D [Pf 125 3 4,Wl 126 125,Pm 127 14,P (ia 128 2 126 127),Pf 129 0 128,Wl 130 129,Pf 131
 0 13,Wl 132 131,P (ar 133 .eql 130 132)]) (Y [1,3,4,8,12,13,14,133])) (C 133 (rt 2 (u 6)) X))) (ic 123 14 124)))
def gp:AC:=
 (Q (Q (Q (O [m 98 12,fa 99 3 4,ld 100 99,ls 101 100,bl 102 98 101]) (Y [1,3,4,8,12,102])) (C 102 X (.exit 6))) (Q (Q (.block 7 (Q (Q (O [fa 105 3 4,ld 106 105,m 107 12,
 ia 108 2 106 107,la 109 2 108,o 13 (.nw [(.int .i64 0),(.str [])] cL),n (.st 2 (t 13) (t 109))]) (Y [1,3,4,8,12,13])) (Q (Q (Q (O [fa 110 0 13,ld 111 110,ac
 112 .lss 111 (i 0),m 113 112,h 114 113 (.fa 0 (t 13)),h 115 113 (.ld none (t 114)),h 116 113 (.mv (t 8)),h 117 113 (.len .sl (t 116)),h 118 113 (.ar .geq (t 115) (t 117)),pt
 119 113 118]) (Y [1,3,4,8,12,13,119])) (C 119 (rt 2 (u 7)) X)) (Q (Q (O [mc 14 (i 0)]) (Q (.block 8 (lo [1,3,4,8,12,13,14] gn)) (Y [1,3,4,8,
 12,13]))) (Q (Q (O [fa 134 1 13,ld 135 134,ac 136 .neq 135 (s []),m 137 136,g 138 137 (.fa 1 (t 13)),g 139 137 (.ld none (t 138)),⟨(some 140),(some (137,true)),(.call (.c
 (.fn (.func kx) [] [])) [(.t 139)])⟩,g 141 137 (.un .not (t 140)),pf 142 137 141]) (Y [1,3,4,8,12,142])) (C 142 (rt 2 (u 1)) X)))))) (Y [1,3,4,8,12]))
 (ic 103 12 104)))
def dE:AC:=
 (Q (Q (Q (O [m 19 3,fa 20 3 1,ld 21 20,ls 22 21,bl 23 19 22]) (Y [1,3,23])) (C 23 X (.exit 0))) (Q (Q (.block 1 (Q (Q (O [fa 26 3 1,ld 27 26,m 28 3,ia 29 4 27 28,la 30 4
 29,o 4 (.nw [(.str []),(.str []),(.slice .nil 2 []),(.slice .nil 2 [])] aZ),n (.st 4 (t 4) (t 30))]) (Y [1,3,4])) (Q (Q (Q (O [fa 31 0 4,ld 32 31,k1 33
 kx 32,no 34 33]) (Y [1,3,4,34])) (C 34 (rt 2 (u 1)) X)) (Q (Q (O [la 35 6 1,fa 36 1 4,ld 37 36,k2 38 eW 35 37,m 5 38]) (Y [1,3,4,
 5])) (Q (Q (O [m 39 5,ac 40 .lss 39 (i 0)]) (C 40 (rt 2 (u 5)) X)) (Q (Q (O [mc 6 (i 0)]) (Q (.block 2 (lo [1,3,4,5,6] gl)) (Y [1,3,4,5]))) (Q (Q (Q
 (O [la 66 6 1,fa 67 2 4,ld 68 67,k2 69 jF 66 68,m 7 69]) (Y [1,3,4,5,7])) (Q (O [m 70 7,ac 71 .neq 70 (u 0)]) (C 71 (Q (O [m 72 7,m 2 72]) R) X))) (Q
 (Q (O [fa 73 2 1,ld 74 73,m 75 5,ia 76 2 74 75,fa 77 1 76,ld 78 77,m 8 78]) (Y [1,3,4,8])) (Q (Q (O [mc 9 (i 0)]) (Q (.block 4 (lo [1,3,4,8,9]
 gm)) (Y [1,3,4,8]))) (Q (O [mc 12 (i 0)]) (Q (.block 6 (lc [1,3,4,8,12] gp)) (Y [1,3])))))))))))) (Y [1,3])) (ic 24 3 25)))
def oZ:AC:=
 (Q (O [o 1 (.bx ab (t 0)),mc 2 (u 0)]) (Q (Q (Q (O [fa 15 3 1,ld 16 15,ls 17 16,ac 18 .gtr 17 (i 128)]) (Y [1,18])) (C 18 (rt 2 (u 3)) X)) (Q (Q (O [mc 3 (i 0)]) (Q
 (.block 0 (lc [1,3] dE)) (Y []))) (rt 2 (u 0)))))
def bF:AFn:=⟨oZ,143,[.t 2],.drop,[],none⟩
theorem bG:qf bF [.t 2] .drop:=⟨rfl,rfl,rfl⟩
def jl:AC:=
 (Q (Q (Q (O [m 6 5,fa 7 2 2,ld 8 7,ls 9 8,bl 10 6 9]) (Y [1,2,5,10])) (C 10 X (.exit 0))) (Q (.block 1 (Q (Q (O [fa 13 2 2,ld 14 13,m 15 5,ia 16 2 14 15,fa 17 0 16,ld 18
 17,m 19 1,ar 20 .eql 18 19]) (Y [1,2,5,20])) (C 20 (Q (O [m 21 5,m 4 21]) R) X))) (ic 11 5 12)))
def ru:AC:=
 (Q (O [o 2 (.bx ab (t 0)),mc 4 (i 0)]) (Q (Q (O [mc 5 (i 0)]) (Q (.block 0 (lo [1,2,5] jl)) (Y []))) (rt 4 (i (-1)))))
def kz:AFn:=⟨ru,22,[.t 4],.drop,[],none⟩
theorem ry:qf kz [.t 4] .drop:=⟨rfl,rfl,rfl⟩
def dQ:AC:=
 (Q (Q (Q (O [m 10 5,m 11 1,ls 12 11,bl 13 10 12]) (Y [1,2,5,13])) (C 13 X (.exit 0))) (Q (.block 1 (Q (Q (D [W (la 16 6 2),Pm 17 1,Pm 18 5,P (ia 19 2 17 18),Pf 20 0 19,Wl
 21 20,E (k2 22 nb 16 21),Pm 6 22]) (Y [1,2,5,6])) (.block 2 (Q (O [m 24 6,ac 25 .lss 24 (i 0),m 23 25]) (C 23 (rt 4 (u 5)) (Q (Q (D [Pf 27 1 2,Wl 28 27,
 Pm 29 6,P (ia 30 2 28 29),Pf 31 1 30,Wl 32 31,Pm 33 1,Pm 34 5,P (ia 35 2 33 34),Pf 36 1 35,Wl 37 36,E (k2 38 pA 32 37),P (no 39 38),Pm 26 39]) (Y [1,2,
 5,26])) (C 26 (rt 4 (u 1)) (Q (Q (D [Pm 41 5,P (ac 42 .gtr 41 (i 0)),Pm 43 42,P (g 44 43 (.mv (t 1))),P (g 45 43 (.mv (t 5))),P (g 46 43 (.ar .sub (t 45) (i 1))),P (g 47 43
 (.ias 2 (t 44) (t 46))),P (g 48 43 (.fa 0 (t 47))),W (g 49 43 (.ld none (t 48))),P (g 50 43 (.mv (t 1))),P (g 51 43 (.mv (t 5))),P (g 52 43 (.ias 2 (t 50) (t 51))),P (g 53 43
 (.fa 0 (t 52))),W (g 54 43 (.ld none (t 53))),P (g 55 43 (.ar .eql (t 49) (t 54))),P (pf 56 43 55),Pm 40 56]) (Y [1,2,5,40])) (C 40 (rt 4 (u 6)) (Q (Q (D [Pm 58 5,P (ac 59
 .gtr 58 (i 0)),Pm 60 59,P (g 61 60 (.mv (t 1))),P (g 62 60 (.mv (t 5))),P (g 63 60 (.ar .sub (t 62) (i 1))),P (g 64 60 (.ias 2 (t 61) (t 63))),P (g 65 60 (.fa 0 (t 64))),W (g
 66 60 (.ld none (t 65))),P (g 67 60 (.mv (t 1))),P (g 68 60 (.mv (t 5))),P (g 69 60 (.ias 2 (t 67) (t 68))),P (g 70 60 (.fa 0 (t 69))),W (g 71 60 (.ld none (t 70))),P (g 72 60
 (.ar .gtr (t 66) (t 71))),P (pf 73 60 72),Pm 57 73]) (Y [1,2,5,57])) (C 57 (rt 4 (u 1)) X))))))))))) (ic 14 5 15)))
def pX:AC:=
 (Q (O [o 2 (.bx ab (t 0)),mc 4 (u 0)]) (Q (Q (O [m 7 1,ls 8 7,ac 9 .gtr 8 (i 8)]) (C 9 (rt 4 (u 3)) X)) (Q (Q (O [mc 5 (i 0)]) (Q (.block 0 (lo [1,2,5]
 dQ)) (Y []))) (rt 4 (u 0)))))
def jN:AFn:=⟨pX,74,[.t 4],.drop,[],none⟩
theorem jO:qf jN [.t 4] .drop:=⟨rfl,rfl,rfl⟩
def kg:AC:=
 (Q (O [bl 33 32 31]) (Q (C 33 X (.exit 0)) (Q (.block 1 (Q (O [m 34 32,m 3 34]) (Q (D [Pf 35 1 1,Wl 36 35,Pm 37 3,Pf 38 1 1,Wl 39 38,Pm 40 3,P (ia 41 2 39 40),Pf 42 1 41,Wl
 43 42,K (k1 44 lM 43),P (ia 45 2 36 37),Pf 46 1 45,E (n (.st 1 (t 46) (t 44)))]) (Y [1,2,31,32])))) (O [ad 47 32,m 32 47]))))
def kh:AC:=
 (Q (O [bl 64 63 62]) (Q (C 64 X (.exit 4)) (Q (.block 5 (Q (O [m 65 63,m 6 65]) (Q (O [m 66 5,m 67 6,m 68 5,m 69 6,ia 70 4 68 69,fa 71 3 70,ld 72 71,k1 73
 cU 72,ia 74 4 66 67,fa 75 3 74,n (.st 1 (t 75) (t 73))]) (Y [1,2,4,5,50,51,62,63])))) (O [ad 76 63,m 63 76]))))
def ki:AC:=
 (Q (O [bl 52 51 50]) (Q (C 52 X (.exit 2)) (Q (Q (.block 3 (Q (O [m 53 51,m 4 53]) (Q (Q (O [fa 54 2 1,ld 55 54,m 56 4,ia 57 2 55 56,fa 58 1 57,ld 59 58,k1 60
 jI 59,m 5 60]) (Y [1,2,4,5,50,51])) (Q (Q (O [m 61 5,ls 62 61,mc 63 (i 0)]) (Q (.block 4 (lo [1,2,4,5,50,51,62,63] kh)) (Y
 [1,2,4,5,50,51]))) (Q (O [fa 77 2 1,ld 78 77,m 79 4,m 80 5,ia 81 2 78 79,fa 82 1 81,n (.st 1 (t 82) (t 80))]) (Y [1,2,50,51])))))) (Y [1,2,50,51])) (O [ad 83 51,m
 51 83]))))
def kj:AC:=
 (Q (O [bl 88 87 86]) (Q (C 88 X (.exit 6)) (Q (.block 7 (Q (O [m 89 87,m 7 89]) (Q (.dops true [] [] [Pf 90 3 1,(ld 91 90,.quiet),Pm 92 7,Pf 93 3 1,Wl 94 93,Pm 95 7,Pf 96 3
 1,(ld 97 96,.quiet),Pm 98 7,P (ia 99 4 97 98),Pf 100 2 99,(ld 101 100,.quiet),W (k1 102 cU 101),Pf 103 3 1,(ld 104 103,.quiet),Pm 105 7,P
 (ia 106 4 104 105),Pf 107 3 106,(ld 108 107,.quiet),W (k1 109 c8 108),P (ia 110 4 91 92),Pf 111 2 110,K (n (.st 1 (t 111) (t 102))),P
 (ia 112 4 94 95),Pf 113 3 112,K (n (.st 1 (t 113) (t 109)))]) (Y [1,2,86,87])))) (O [ad 114 87,m 87 114]))))
def km:AC:=
 (Q (O [bl 119 118 117]) (Q (C 119 X (.exit 8)) (Q (.block 9 (Q (O [m 120 118,m 8 120]) (Q (D [Pf 121 5 1,Wl 122 121,Pm 123 8,Pf 124 5 1,Wl 125 124,Pm 126 8,P (ia 127 3 125
 126),Pf 128 2 127,Wl 129 128,K (k1 130 cU 129),P (ia 131 3 122 123),Pf 132 2 131,E (n (.st 1 (t 132) (t 130)))]) (Y [1,2,117,118])))) (O [ad
 133 118,m 118 133]))))
def zt:AC:=
 (Q (O [o 1 (.bx ab (t 0)),o 2 (.nw [(.str []),(.slice .nil 2 []),(.slice .nil 2 []),(.slice .nil 4 []),(.slice .nil 4 []),(.slice .nil 3 [])] ab)]) (Q (Q
 (D [Pf 9 1 1,Wl 10 9,Pf 12 2 1,Wl 13 12,Pf 15 3 1,Wl 16 15,K (k1 11 iA 10),Pf 18 1 1,K (k1 14 iB 13),K (k1
 17 iC 16),E (n (.st 1 (t 18) (t 11))),Pf 19 2 1,E (n (.st 1 (t 19) (t 14))),Pf 20 3 1,E (n (.st 1 (t 20) (t 17)))]) (Y [1,2])) (Q (Q (D [Pf 21
 4 1,Wl 22 21,Pf 24 5 1,Wl 25 24,K (k1 23 iD 22),Pf 27 4 1,K (k1 26 jH 25),E (n (.st 1 (t 27) (t 23))),Pf 28 5
 1,E (n (.st 1 (t 28) (t 26)))]) (Y [1,2])) (Q (Q (Q (O [fa 29 1 1,ld 30 29,ls 31 30,mc 32 (i 0)]) (Y [1,2,31,32])) (Q (.block 0 (lo [1,2,31,32] kg)) (Y [1,
 2]))) (Q (Q (Q (O [fa 48 2 1,ld 49 48,ls 50 49,mc 51 (i 0)]) (Y [1,2,50,51])) (Q (.block 2 (lo [1,2,50,51] ki)) (Y [1,2]))) (Q (Q (Q (O [fa 84 3 1,ld 85 84,
 ls 86 85,mc 87 (i 0)]) (Y [1,2,86,87])) (Q (.block 6 (lo [1,2,86,87] kj)) (Y [1,2]))) (Q (Q (Q (O [fa 115 5 1,ld 116 115,ls 117 116,mc 118 (i 0)]) (Y [1,2,
 117,118])) (Q (.block 8 (lo [1,2,117,118] km)) (Y [1,2]))) (Q (O [la 134 6 1,n (.st 6 (t 2) (t 134))]) R))))))))
def bS:AFn:=⟨zt,135,[.cell 2 (some 6)],.keep,[22],none⟩
theorem db:qf bS [.cell 2 (some 6)] .keep:=⟨rfl,rfl,rfl⟩
def en:AC:=
 (Q (O [bl 18 17 16]) (Q (C 18 X (.exit 2)) (Q (.block 3 (Q (O [m 19 17,m 5 19]) (Q (Q (O [la 20 6 1,m 21 4,m 22 5,k 23 (f mZ) [(t 20),(t 21),(t 22)],m 6
 23]) (Y [1,3,4,5,6,10,11,16,17])) (Q (O [m 24 6,ac 25 .neq 24 (s [])]) (C 25 (Q (O [m 26 3,m 27 4,m 28 5,m 29 6,o 30 (.bd [(.int .i64 0),(.int .i64 0),(.str [])] [(0,
 1),(1,1),(2,1)] [(0,(t 27)),(1,(t 28)),(2,(t 29))]),o 31 (.bs 3 [(.int .i64 0),(.int .i64 0),(.str [])] 1 [(0,(t 30))]),o 32 (.ap false b4 3 32 false (t 26)
 (t 31)),m 3 32]) (Y [1,3,4,10,11,16,17])) X))))) (O [ad 33 17,m 17 33]))))
def gq:AC:=
 (Q (O [bl 12 11 10]) (Q (C 12 X (.exit 0)) (Q (Q (.block 1 (Q (O [m 13 11,m 4 13]) (Q (Q (O [la 14 6 1,m 15 4,k2 16 pB 14 15,mc 17 (i 0)]) (Y [1,3,4,10,
 11,16,17])) (Q (.block 2 (.loop ⟨(some [1,3,4,10,11,16,17]),[(3,3,b4)],false⟩ en)) (Y [1,3,10,11]))))) (Y [1,3,10,11])) (O [ad 34
 11,m 11 34]))))
def o3:AC:=
 (Q (O [o 1 (.bx aJ (t 0)),mc 2 (.c (.slice .nil 3 []))]) (Q (O [mc 3 (.c (.slice .nil 3 []))]) (Q (Q (Q (O [fa 7 0 1,fa 8 3 7,ld 9 8,ls 10 9,mc 11 (i 0)]) (Y [1,
 3,10,11])) (Q (.block 0 (.loop ⟨(some [1,3,10,11]),[(3,3,b4)],false⟩ gq)) (Y [3]))) (Q (O [m 35 3,m 2 35]) R))))
def ee:AFn:=⟨o3,36,[.t 2],.drop,[],none⟩
theorem fq:qf ee [.t 2] .drop:=⟨rfl,rfl,rfl⟩
def kA:AC:=
 (Q (Q (Q (O [m 14 6,la 15 6 1,m 16 4,k2 17 qX 15 16,bl 18 14 17]) (Y [1,3,4,5,6,18])) (C 18 X (.exit 2))) (Q (.block 3 (Q (O [m 21 5,la 22 6 1,m 23 4,
 m 24 6,k 25 (f sn) [(t 22),(t 23),(t 24)],o 26 (.bs 1 [(.str [])] 1 [(0,(t 25))]),o 27 (.ap false a8 1 16 false (t 21) (t 26)),m 5 27]) (Y [1,3,4,
 5,6]))) (ic 19 6 20)))
def kB:AC:=
 (Q (Q (Q (O [m 7 4,fa 8 3 1,ld 9 8,ls 10 9,bl 11 7 10]) (Y [1,3,4,11])) (C 11 X (.exit 0))) (Q (Q (.block 1 (Q (O [mc 5 (.c (.slice .nil 1 []))]) (Q (Q (O [mc 6 (i 0)]) (Q
 (.block 2 (.loop ⟨(some [1,3,4,5,6]),[(5,1,a8)],false⟩ kA)) (Y [1,3,4,5]))) (Q (O [m 28 3,m 29 5,o 30 (.bs 1 [(.slice .nil 0 [])] 1 [(0,(t
 29))]),o 31 (.ap false kW 1 24 false (t 28) (t 30)),m 3 31]) (Y [1,3,4]))))) (Y [1,3,4])) (ic 12 4 13)))
def te:AC:=
 (Q (O [o 1 (.bx ab (t 0)),mc 2 (.c (.slice .nil 1 []))]) (Q (O [mc 3 (.c (.slice .nil 1 []))]) (Q (Q (O [mc 4 (i 0)]) (Q (.block 0 (.loop ⟨(some [1,3,4]),[(3,1,
 kW)],false⟩ kB)) (Y [3]))) (Q (O [m 32 3,m 2 32]) R))))
def gA:AFn:=⟨te,33,[.t 2],.drop,[],none⟩
theorem l5:qf gA [.t 2] .drop:=⟨rfl,rfl,rfl⟩
def rz:AC:=
 (Q (O [mc 2 F]) (Q (Q (O [m 3 0,o 4 (.eq true .ptr (t 3) (.c .nilp)),m 5 4,g 6 5 (.mv (t 0)),g 7 5 (.nc (t 6)),g 8 5 (.fa 6 (t 7)),g 9 5 (.ld none (t 8)),g 10 5 (.eq true
 .ptr (t 9) (.c .nilp)),pf 11 5 10,m 2 11]) (Y [2])) R))
def rA:AFn:=⟨rz,12,[.t 2],.drop,[],none⟩
theorem B6:qf rA [.t 2] .drop:=⟨rfl,rfl,rfl⟩
def Be:AC:=
 (Q (O [mc 2 F]) (Q (Q (O [m 3 0,lt 4 3,ac 5 .geq 4 (i 1),m 6 5,g 7 6 (.mv (t 0)),g 8 6 (.len .str (t 7)),g 9 6 (.ar .leq (t 8) (i 24)),pf 10 6 9,m 11 10,g 12 11 (.mv (t
 0)),⟨(some 13),(some (11,true)),(.call (.c (.fn (.func so) [] [])) [(.t 12),(.c (.fn (.func sq) [] []))])⟩,pf 14 11 13,m 2 14]) (Y [2])) R))
def sQ:AFn:=⟨Be,15,[.t 2],.drop,[],none⟩
def fB:AC:=
 (Q (O [ac 15 .lss 14 (i 3)]) (Q (C 15 X (.exit 0)) (Q (.block 1 (Q (O [m 16 14,m 8 16]) (Q (O [m 17 7,m 18 5,m 19 6,m 20 1,m 21 8,k 22 (f oN) [(t 18),(t 19),(t
 20),(t 21),(.c (.slice .nil 3 []))],o 23 (.ap false ak 3 40 false (t 17) (t 22)),m 7 23]) (Y [1,5,6,7,14])))) (O [ad 24 14,m 14 24]))))
def oa:AC:=
 (Q (O [o 2 (.bx aJ (t 0)),mc 4 (.c (.slice .nil 3 []))]) (Q (O [la 9 6 2,k1 10 lj 9,m 5 10]) (Q (Q (O [la 11 6 2,m 12 5,k2 13
 nB 11 12,m 6 13]) (Y [1,5,6])) (Q (O [mc 7 (.c (.slice .nil 3 []))]) (Q (Q (O [mc 14 (i 0)]) (Q (.block 0 (.loop ⟨(some [1,5,6,7,14]),[(7,3,
 ak)],false⟩ fB)) (Y [7]))) (Q (O [m 25 7,m 4 25]) R))))))
def hT:AFn:=⟨oa,26,[.t 4],.drop,[],none⟩
theorem oc:qf hT [.t 4] .drop:=⟨rfl,rfl,rfl⟩
def jP:AC:=
 (Q (Q (Q (O [m 12 3,m 13 0,lt 14 13,bl 15 12 14]) (Y [0,3,15])) (C 15 X (.exit 0))) (Q (.block 1 (Q (Q (O [m 18 0,m 19 3,o 20 (.ixs (t 18) (t 19)),ac 21 .lss 20 (u 33),m 22
 21,h 23 22 (.mv (t 0)),h 24 22 (.mv (t 3)),h 25 22 (.ixs (t 23) (t 24)),h 26 22 (.ar .gtr (t 25) (u 126)),pt 27 22 26]) (Y [0,3,27])) (C 27 (rt 2 F) X))) (ic 16 3 17)))
def sy:AC:=
 (Q (O [mc 2 F]) (Q (Q (Q (O [m 4 0,lt 5 4,ac 6 .lss 5 (i 1),m 7 6,h 8 7 (.mv (t 0)),h 9 7 (.len .str (t 8)),h 10 7 (.ar .gtr (t 9) (i 24)),pt 11 7 10]) (Y [0,11])) (C 11 (rt
 2 F) X)) (Q (Q (O [mc 3 (i 0)]) (Q (.block 0 (lo [0,3] jP)) (Y []))) (rt 2 T))))
def b8:AFn:=⟨sy,28,[.t 2],.drop,[],none⟩
def fC:AC:=
 (Q (Q (O [m 9 8,ac 10 .leq 9 (i 2)]) (C 10 X (.exit 0))) (Q (.block 1 (Q (O [m 13 7,la 14 6 3,m 15 2,m 16 8,m 17 1,k 18 (f dO) [(t 14),(t 15),(.c
 (.slice .nil 3 [])),(t 16),(t 17)],o 19 (.ap false ak 3 40 false (t 13) (t 18)),m 7 19]) (Y [1,2,3,7,8]))) (ic 11 8 12)))
def od:AC:=
 (Q (O [o 3 (.bx ab (t 0)),mc 6 (.c (.slice .nil 3 []))]) (Q (O [mc 7 (.c (.slice .nil 3 []))]) (Q (Q (O [mc 8 (i 0)]) (Q (.block 0 (.loop ⟨(some [1,2,3,7,8]),[(7,
 3,ak)],false⟩ fC)) (Y [7]))) (Q (O [m 20 7,m 6 20]) R))))
def hZ:AFn:=⟨od,21,[.t 6],.drop,[],none⟩
theorem oe:qf hZ [.t 6] .drop:=⟨rfl,rfl,rfl⟩
def de:AC:=
 (Q (Q (Q (O [m 27 5,fa 28 0 2,ld 29 28,ls 30 29,bl 31 27 30]) (Y [2,3,5,31])) (C 31 X (.exit 0))) (Q (.block 1 (Q (Q (D [Pf 34 0 2,Wl 35 34,Pm 36 5,P (ia 37 3 35 36),W
 (la 38 3 37),Pf 39 0 3,Wl 40 39,Pm 41 5,P (ia 42 3 40 41),W (la 43 3 42),P (o 44 (.eq true (.st [(0,(.int .i64)),(1,(.int .i64)),(2,(.int .i64))]) (t 38) (t 43)))]) (Y
 [2,3,5,44])) (C 44 (rt 4 F) X))) (ic 32 5 33)))
def lQ:AC:=
 (Q (O [o 2 (.bx ak (t 0)),o 3 (.bx ak (t 1)),mc 4 F]) (Q (Q (Q (O [fa 6 1 2,ld 7 6,fa 8 1 3,ld 9 8,ar 10 .neq 7 9,m 11 10,h 12 11 (.fa 2 (t 2)),h 13
 11 (.ld none (t 12)),h 14 11 (.fa 2 (t 3)),h 15 11 (.ld none (t 14)),h 16 11 (.ar .neq (t 13) (t 15)),pt 17 11 16,m 18 17,h 19 18 (.fa 0 (t 2)),h 20 18 (.ld none (t 19)),h
 21 18 (.len .sl (t 20)),h 22 18 (.fa 0 (t 3)),h 23 18 (.ld none (t 22)),h 24 18 (.len .sl (t 23)),h 25 18 (.ar .neq (t 21) (t 24)),pt 26 18 25]) (Y [2,3,26])) (C 26 (rt 4 F)
 X)) (Q (Q (O [mc 5 (i 0)]) (Q (.block 0 (lo [2,3,5] de)) (Y []))) (rt 4 T))))
def cw:AFn:=⟨lQ,45,[.t 4],.drop,[],none⟩
theorem cA:qf cw [.t 4] .drop:=⟨rfl,rfl,rfl⟩
def jm:AC:=
 (Q (O [bl 23 22 21]) (Q (C 23 X (.exit 0)) (Q (.block 1 (Q (Q (O [ia 24 2 20 22,la 25 2 24,o 8 (.nw [(.int .i64 0),(.str [])] cL),n (.st 2 (t 8) (t 25))]) (Y [1,2,
 3,8,20,21,22])) (Q (Q (O [fa 26 0 8,ld 27 26,m 28 2,ar 29 .eql 27 28]) (Y [1,2,3,8,20,21,22,29])) (C 29 (Q (O [fa 30 1 8,ld 31 30,m 6 31]) R) X)))) (O [ad 32 22,m
 22 32]))))
def rB:AC:=
 (Q (O [o 3 (.bx aJ (t 0)),mc 6 (s [])]) (Q (Q (Q (O [fa 14 0 3,fa 15 3 14,ld 16 15,m 17 1,ia 18 4 16 17,fa 19 3 18,ld 20 19,ls 21 20,mc 22 (i 0)]) (Y [1,2,
 3,20,21,22])) (Q (.block 0 (lc [1,2,3,20,21,22] jm)) (Y [1,2,3]))) (Q (Q (O [la 34 6 3,m 35 1,m 36 2,k 37 (f ky) [(t 34),(t
 35),(t 36)],m 33 37,ex 38 33 0,ex 39 33 1,o 9 (.nw [(.int .i64 0),(.str []),(.str []),(.slice .nil 2 [])] aR),n (.st 4 (t 9) (t 38)),m 10 39]) (Y [1,3,9])) (Q (Q
 (O [la 41 6 3,m 42 1,la 43 4 9,k 44 (f pC) [(t 41),(t 42),(t 43)],m 40 44,ex 45 40 0,ex 46 40 1,m 11 45,m 12 46]) (Y [11,12])) (Q (Q (O [m 47 12,no
 48 47]) (C 48 (rt 6 (s [])) X)) (Q (Q (O [m 49 11,m 50 11,ls 51 50,ac 52 .sub 51 (i 1),ia 53 1 49 52,ld 54 53,k 55 (f sr) [(t 54),(s [43]),(s [])],m 13
 55]) (Y [13])) (Q (Q (O [m 56 13,lt 57 56,ac 58 .gtr 57 (i 24)]) (C 58 (rt 6 (s [])) X)) (Q (O [m 59 13,m 6 59]) R))))))))
def gL:AFn:=⟨rB,60,[.t 6],.drop,[],none⟩
theorem gM:qf gL [.t 6] .drop:=⟨rfl,rfl,rfl⟩
def cQ:AC:=
 (Q (O [mc 4 (i 0),mc 5 (.c .nilif)]) (Q (O [m 6 0,k1 7 cI 6]) (Q (Q (O [m 8 0,m 9 0,o 10 (.nc (t 9)),fa 11 1 10,ld 12 11,m 13 1,o 14 (.ap false
 dD 1 1 true (t 12) (t 13)),o 15 (.nc (t 8)),fa 16 1 15,n (.st 1 (t 16) (t 14))]) (Y [1])) (Q (Q (O [m 17 1,lt 18 17,m 4 18,mc 5 (.c .nilif)]) (Y [4,5])) R))))
def gH:AFn:=⟨cQ,19,[.t 4,.t 5],.drop,[],none⟩
theorem ek:qf gH [.t 4,.t 5] .drop:=⟨rfl,rfl,rfl⟩
def ff:AC:=
 (Q (O [mc 4 (.c .nilif)]) (Q (O [m 5 0,k1 6 cI 5]) (Q (Q (O [m 7 0,m 8 0,o 9 (.nc (t 8)),fa 10 1 9,ld 11 10,m 12 1,o 13 (.bs 1 [(.int .u8 0)] 1 [(0,
 (t 12))]),o 14 (.ap false dD 1 1 false (t 11) (t 13)),o 15 (.nc (t 7)),fa 16 1 15,n (.st 1 (t 16) (t 14))]) (Y [])) (Q (O [mc 4 (.c .nilif)]) R))))
def jy:AFn:=⟨ff,17,[.t 4],.drop,[],none⟩
theorem rZ:qf jy [.t 4] .drop:=⟨rfl,rfl,rfl⟩
def yf:AC:=
 (Q (O [mc 2 F]) (Q (Q (O [m 3 0,ac 4 .geq 3 (u 97),m 5 4,g 6 5 (.mv (t 0)),g 7 5 (.ar .leq (t 6) (u 122)),pf 8 5 7,m 2 8]) (Y [2])) R))
def jQ:AFn:=⟨yf,9,[.t 2],.drop,[],none⟩
def Bf:AC:=
 (Q (O [mc 2 F]) (Q (O [o 3 (.nw [.nilfn] Ft),n (.st 1 (t 3) (f gQ))]) (Q (Q (D [Pm 4 0,W (lt 5 4),P (ac 6 .geq 5 (i 1)),Pm 7 6,P (g 8 7 (.mv (t 0))),
 W (g 9 7 (.len .str (t 8))),P (g 10 7 (.ar .leq (t 9) (i 12))),P (pf 11 7 10),Pm 12 11,W (g 13 12 (.ld none (t 3))),P (g 14 12 (.mv (t 0))),P (g 15 12 (.ixs (t 14) (i 0))),E
 (⟨(some 16),(some (12,true)),(.call (.t 13) [(.t 15)])⟩),P (pf 17 12 16),Pm 18 17,P (g 19 18 (.mv (t 0))),P (g 20 18 (.mf (.func oO) [] [(t 3)])),E (⟨(some 21),
 (some (18,true)),(.call (.c (.fn (.func so) [] [])) [(.t 19),(.t 20)])⟩),P (pf 22 18 21),Pm 2 22]) (Y [2])) R)))
def mB:AFn:=⟨Bf,23,[.t 2],.drop,[],none⟩
def eK:AC:=
 (Q (O [mc 4 F]) (Q (Q (O [m 5 0,m 6 1,k2 7 b6 5 6,ac 8 .geq 7 (i 0),m 4 8]) (Y [4])) R))
def cB:AFn:=⟨eK,9,[.t 4],.drop,[],none⟩
theorem qC:qf cB [.t 4] .drop:=⟨rfl,rfl,rfl⟩
def o4:AC:=
 (Q (O [o 2 (.bx bU (t 0)),mc 3 F]) (Q (Q (O [fa 4 0 2,ld 5 4,fa 6 0 1,ld 7 6,ar 8 .eql 5 7,m 3 8]) (Y [3])) R))
def lC:AFn:=⟨o4,9,[.t 3],.drop,[],none⟩
theorem Ae:qf lC [.t 3] .drop:=⟨rfl,rfl,rfl⟩
def ko:AC:=
 (Q (O [mc 4 F]) (Q (Q (O [m 5 0,m 6 1,k2 7 lN 5 6,ac 8 .geq 7 (i 0),m 4 8]) (Y [4])) R))
def fA:AFn:=⟨ko,9,[.t 4],.drop,[],none⟩
theorem vD:qf fA [.t 4] .drop:=⟨rfl,rfl,rfl⟩
def eM:AC:=
 (Q (O [mc 4 F]) (Q (Q (O [m 5 0,m 6 1,k2 7 b7 5 6,ac 8 .geq 7 (i 0),m 4 8]) (Y [4])) R))
def cC:AFn:=⟨eM,9,[.t 4],.drop,[],none⟩
theorem qD:qf cC [.t 4] .drop:=⟨rfl,rfl,rfl⟩
def o5:AC:=
 (Q (O [o 2 (.bx aW (t 0)),mc 3 F]) (Q (Q (O [fa 4 0 2,ld 5 4,fa 6 0 1,ld 7 6,ar 8 .eql 5 7,m 3 8]) (Y [3])) R))
def lD:AFn:=⟨o5,9,[.t 3],.drop,[],none⟩
theorem Af:qf lD [.t 3] .drop:=⟨rfl,rfl,rfl⟩
def jn:AC:=
 (Q (O [bl 17 16 15]) (Q (C 17 X (.exit 0)) (Q (.block 1 (Q (Q (O [m 18 16,ia 19 4 14 16,la 20 4 19,o 8 (.nw [(.int .i64 0),(.str []),(.str []),(.slice .nil 2 [])] aR),
 m 7 18,n (.st 4 (t 8) (t 20))]) (Y [2,7,8,14,15,16])) (Q (Q (O [m 21 2,m 22 7,la 23 4 8,k 24 (t 21) [(t 22),(t 23)],m 9 24]) (Y [2,9,14,15,16])) (Q (O [m 25 9,ac 26
 .neq 25 (u 0)]) (C 26 (Q (O [m 27 9,m 6 27]) R) X))))) (O [ad 28 16,m 16 28]))))
def rC:AC:=
 (Q (O [mc 6 (u 0)]) (Q (Q (Q (O [m 10 0,ls 11 10,m 12 1,ar 13 .gtr 11 12]) (Y [0,2,13])) (C 13 (rt 6 (u 3)) X)) (Q (Q (O [m 14 0,ls 15 14,mc 16 (i 0)]) (Q (.block 0 (lc [2,
 14,15,16] jn)) (Y []))) (rt 6 (u 0)))))
def eY:AFn:=⟨rC,29,[.t 6],.drop,[],none⟩
theorem rD:qf eY [.t 6] .drop:=⟨rfl,rfl,rfl⟩
def o6:AC:=
 (Q (O [o 4 (.bx aR (t 1)),mc 5 (u 0)]) (Q (Q (Q (O [fa 6 0 4,ld 7 6,ac 8 .lss 7 (i 0),m 9 8,h 10 9 (.fa 0 (t 4)),h 11 9 (.ld none (t 10)),h 12 9 (.ar .gtr (t 11) (i
 24)),pt 13 9 12,m 14 13,h 15 14 (.fa 1 (t 4)),h 16 14 (.ld none (t 15)),⟨(some 17),(some (14,false)),(.call (.c (.fn (.func kL) [] [])) [(.t 16),(.c (.fn (.func
 cO) [] []))])⟩,h 18 14 (.un .not (t 17)),pt 19 14 18,m 20 19,h 21 20 (.fa 2 (t 4)),h 22 20 (.ld none (t 21)),⟨(some 23),(some (20,false)),(.call (.c (.fn (.func
 kL) [] [])) [(.t 22),(.c (.fn (.func cO) [] []))])⟩,h 24 20 (.un .not (t 23)),pt 25 20 24]) (Y [2,4,25])) (C 25 (rt 5 (u 1)) X)) (Q (Q (O [la 26 6 2,fa
 27 3 4,ld 28 27,k2 29 jG 26 28,m 5 29]) (Y [5])) R)))
def lE:AFn:=⟨o6,30,[.t 5],.drop,[],none⟩
theorem Ag:qf lE [.t 5] .drop:=⟨rfl,rfl,rfl⟩
def zu:AC:=
 (Q (O [mc 4 F]) (Q (Q (O [m 5 0,lt 6 5,ac 7 .leq 6 (i 6),m 8 7,g 9 8 (.mv (t 0)),g 10 8 (.mv (t 1)),⟨(some 11),(some (8,true)),(.call (.c (.fn (.func so) [] []))
 [(.t 9),(.t 10)])⟩,pf 12 8 11,m 4 12]) (Y [4])) R))
def v8:AFn:=⟨zu,13,[.t 4],.drop,[],none⟩
theorem Lu:qf v8 [.t 4] .drop:=⟨rfl,rfl,rfl⟩
def pY:AC:=
 (Q (O [o 2 (.bx bE (t 0)),o 3 (.bx dP (t 1)),mc 4 (u 0)]) (Q (Q (O [ld 5 3,o 6 (.mf (.func kM) [] [(t 2),(t 3)]),k 7 (f
 nf) [(t 5),(i 8),(t 6)],m 4 7]) (Y [4])) R))
def mC:AFn:=⟨pY,8,[.t 4],.drop,[],none⟩
theorem Bg:qf mC [.t 4] .drop:=⟨rfl,rfl,rfl⟩
def qF:AC:=
 (Q (Q (O [o 2 (.bx ab (t 0)),o 3 (.bx a8 (t 1)),o 4 (.nw [(.str []),(.slice .nil 4 [])] aW),mc 5 F]) (Y [2,3,4])) (Q (Q (O [fa 7 2 2,ld 8 7,o 9
 (.mf (.func nH) [] [(t 3)]),k2 10 b7 8 9,m 6 10]) (Y [2,4,6])) (Q (Q (O [m 11 6,ac 12 .lss 11 (i 0)]) (C 12 (Q (O [o 13 (.bd
 [(.str []),(.slice .nil 4 [])] [(0,1),(1,1)] []),n (.st 2 (t 4) (t 13)),mc 5 F]) R) X)) (Q (Q (O [fa 14 2 2,ld 15 14,m 16 6,ia 17 2 15 16,la 18 2 17,n (.st 2 (t 4) (t
 18)),mc 5 T]) (Y [4,5])) R))))
def tU:AFn:=⟨qF,19,[.cell 4 (some 2),.t 5],.drop,[],none⟩
theorem BU:qf tU [.cell 4 (some 2),.t 5] .drop:=⟨rfl,rfl,rfl⟩
def zw:AC:=
 (Q (O [mc 2 F]) (Q (Q (O [m 3 0,k1 4 uX 3,m 5 4,g 6 5 (.mv (t 0)),⟨(some 7),(some (5,true)),(.call (.c (.fn (.func so) [] [])) [(.t 6),(.c (.fn (.func
 cO) [] []))])⟩,pf 8 5 7,m 2 8]) (Y [2])) R))
def qQ:AFn:=⟨zw,9,[.t 2],.drop,[],none⟩
def eN:AC:=
 (Q (O [mc 4 F]) (Q (Q (O [m 5 0,m 6 1,k2 7 cP 5 6,ac 8 .geq 7 (i 0),m 4 8]) (Y [4])) R))
def cD:AFn:=⟨eN,9,[.t 4],.drop,[],none⟩
theorem qG:qf cD [.t 4] .drop:=⟨rfl,rfl,rfl⟩
def o7:AC:=
 (Q (O [o 2 (.bx aZ (t 0)),mc 3 F]) (Q (Q (O [fa 4 0 2,ld 5 4,fa 6 0 1,ld 7 6,ar 8 .eql 5 7,m 9 8,g 10 9 (.fa 1 (t 2)),g 11 9 (.ld none (t 10)),g 12 9 (.fa 1 (t
 1)),g 13 9 (.ld none (t 12)),g 14 9 (.ar .eql (t 11) (t 13)),pf 15 9 14,m 3 15]) (Y [3])) R))
def lF:AFn:=⟨o7,16,[.t 3],.drop,[],none⟩
theorem Ah:qf lF [.t 3] .drop:=⟨rfl,rfl,rfl⟩
def fk:AC:=
 (Q (O [mc 4 F]) (Q (Q (O [m 5 0,m 6 1,k2 7 c6 5 6,ac 8 .geq 7 (i 0),m 4 8]) (Y [4])) R))
def cJ:AFn:=⟨fk,9,[.t 4],.drop,[],none⟩
theorem sb:qf cJ [.t 4] .drop:=⟨rfl,rfl,rfl⟩
def o8:AC:=
 (Q (O [o 2 (.bx aR (t 0)),mc 3 F]) (Q (Q (O [fa 4 2 1,ld 5 4,fa 6 3 2,ld 7 6,k2 8 zi 5 7,m 3 8]) (Y [3])) R))
def lG:AFn:=⟨o8,9,[.t 3],.drop,[],none⟩
theorem Ai:qf lG [.t 3] .drop:=⟨rfl,rfl,rfl⟩
def zx:AC:=
 (Q (O [o 3 (.bx dP (t 1)),mc 4 F]) (Q (Q (O [m 5 0,o 6 (.mf (.func tO) [] [(t 3)]),k2 7 bW 5 6,m 4 7]) (Y [4])) R))
def wa:AFn:=⟨zx,8,[.t 4],.drop,[],none⟩
theorem Lv:qf wa [.t 4] .drop:=⟨rfl,rfl,rfl⟩
def dA:AC:=
 (Q (O [mc 4 F]) (Q (Q (O [m 5 0,m 6 1,k2 7 bR 5 6,ac 8 .geq 7 (i 0),m 4 8]) (Y [4])) R))
def bJ:AFn:=⟨dA,9,[.t 4],.drop,[],none⟩
theorem nn:qf bJ [.t 4] .drop:=⟨rfl,rfl,rfl⟩
def o9:AC:=
 (Q (O [o 2 (.bx cL (t 0)),mc 3 F]) (Q (Q (O [fa 4 0 2,ld 5 4,fa 6 0 1,ld 7 6,ar 8 .eql 5 7,m 3 8]) (Y [3])) R))
def lH:AFn:=⟨o9,9,[.t 3],.drop,[],none⟩
theorem Aj:qf lH [.t 3] .drop:=⟨rfl,rfl,rfl⟩
def yg:AC:=
 (Q (O [mc 2 F]) (Q (Q (O [m 3 0,k1 4 cO 3,m 5 4,h 6 5 (.mv (t 0)),h 7 5 (.ar .eql (t 6) (u 43)),pt 8 5 7,m 2 8]) (Y [2])) R))
def u3:AFn:=⟨yg,9,[.t 2],.drop,[],none⟩
theorem JJ:qf u3 [.t 2] .drop:=⟨rfl,rfl,rfl⟩
def yh:AC:=
 (Q (O [mc 2 F]) (Q (Q (O [m 3 0,k1 4 oM 3,m 5 4,h 6 5 (.mv (t 0)),h 7 5 (.ar .eql (t 6) (u 35)),pt 8 5 7,m 9 8,h 10 9 (.mv (t 0)),h 11 9 (.ar .eql (t 10) (u
 86)),pt 12 9 11,m 13 12,h 14 13 (.mv (t 0)),h 15 13 (.ar .eql (t 14) (u 67)),pt 16 13 15,m 2 16]) (Y [2])) R))
def u4:AFn:=⟨yh,17,[.t 2],.drop,[],none⟩
theorem JK:qf u4 [.t 2] .drop:=⟨rfl,rfl,rfl⟩
def pZ:AC:=
 (Q (O [mc 2 F]) (Q (Q (O [m 3 0,ac 4 .geq 3 (u 97),m 5 4,g 6 5 (.mv (t 0)),g 7 5 (.ar .leq (t 6) (u 122)),pf 8 5 7,m 2 8]) (Y [2])) R))
def fY:AFn:=⟨pZ,9,[.t 2],.drop,[],none⟩
def jR:AC:=
 (Q (Q (Q (O [m 14 3,m 15 0,lt 16 15,bl 17 14 16]) (Y [0,3,17])) (C 17 X (.exit 0))) (Q (.block 1 (Q (Q (O [m 20 0,m 21 3,o 22 (.ixs (t 20) (t 21)),ac 23 .geq 22 (u 65),m 24
 23,g 25 24 (.mv (t 0)),g 26 24 (.mv (t 3)),g 27 24 (.ixs (t 25) (t 26)),g 28 24 (.ar .leq (t 27) (u 90)),pf 29 24 28,m 4 29]) (Y [0,3,4])) (Q (Q (O [m 30 0,m 31 3,o 32
 (.ixs (t 30) (t 31)),ac 33 .geq 32 (u 48),m 34 33,g 35 34 (.mv (t 0)),g 36 34 (.mv (t 3)),g 37 34 (.ixs (t 35) (t 36)),g 38 34 (.ar .leq (t 37) (u 57)),pf 39 34 38,m 5 39])
 (Y [0,3,4,5])) (Q (Q (O [m 40 0,m 41 3,o 42 (.ixs (t 40) (t 41)),k1 43 fW 42,no 44 43,m 45 44,g 46 45 (.mv (t 4)),g 47 45 (.un .not (t 46)),pf 48 45
 47,m 49 48,g 50 49 (.mv (t 3)),g 51 49 (.ar .eql (t 50) (i 0)),g 52 49 (.mv (t 51)),h 53 52 (.mv (t 5)),h 54 52 (.un .not (t 53)),h 55 52 (.mv (t 54)),g 56 55 (.mv (t 0)),g
 57 55 (.mv (t 3)),g 58 55 (.ixs (t 56) (t 57)),g 59 55 (.ar .neq (t 58) (u 95)),h 60 52 (.pk (t 55) (t 59) F),g 61 49 (.pk (t 52) T (t 60)),pf 62 49 61]) (Y [0,3,62])) (C 62
 (rt 2 F) X))))) (ic 18 3 19)))
def sA:AC:=
 (Q (O [mc 2 F]) (Q (Q (Q (O [m 6 0,lt 7 6,ac 8 .lss 7 (i 1),m 9 8,h 10 9 (.mv (t 0)),h 11 9 (.len .str (t 10)),h 12 9 (.ar .gtr (t 11) (i 12)),pt 13 9 12]) (Y [0,13])) (C 13
 (rt 2 F) X)) (Q (Q (O [mc 3 (i 0)]) (Q (.block 0 (lo [0,3] jR)) (Y []))) (rt 2 T))))
def b9:AFn:=⟨sA,63,[.t 2],.drop,[],none⟩
def jo:AC:=
 (Q (Q (Q (O [m 6 5,fa 7 1 2,ld 8 7,ls 9 8,bl 10 6 9]) (Y [1,2,5,10])) (C 10 X (.exit 0))) (Q (.block 1 (Q (Q (O [fa 13 1 2,ld 14 13,m 15 5,ia 16 2 14 15,fa 17 0 16,ld 18
 17,m 19 1,ar 20 .eql 18 19]) (Y [1,2,5,20])) (C 20 (Q (O [m 21 5,m 4 21]) R) X))) (ic 11 5 12)))
def rE:AC:=
 (Q (O [o 2 (.bx ab (t 0)),mc 4 (i 0)]) (Q (Q (O [mc 5 (i 0)]) (Q (.block 0 (lo [1,2,5] jo)) (Y []))) (rt 4 (i (-1)))))
def kC:AFn:=⟨rE,22,[.t 4],.drop,[],none⟩
theorem rF:qf kC [.t 4] .drop:=⟨rfl,rfl,rfl⟩
def k7:AC:=
 (Q (Q (Q (O [m 6 5,m 7 0,ls 8 7,bl 9 6 8]) (Y [0,1,5,9])) (C 9 X (.exit 0))) (Q (.block 1 (Q (Q (O [m 12 0,m 13 5,ia 14 1 12 13,ld 15 14,m 16 1,ar 17 .eql 15 16]) (Y [0,
 1,5,17])) (C 17 (rt 4 T) X))) (ic 10 5 11)))
def ud:AC:=
 (Q (O [mc 4 F]) (Q (Q (O [mc 5 (i 0)]) (Q (.block 0 (lo [0,1,5] k7)) (Y []))) (rt 4 F)))
def mL:AFn:=⟨ud,18,[.t 4],.drop,[],none⟩
theorem ue:qf mL [.t 4] .drop:=⟨rfl,rfl,rfl⟩
def rG:AC:=
 (Q (O [mc 2 F]) (Q (Q (O [m 3 0,k1 4 nG 3,m 5 4,g 6 5 (.mv (t 0)),⟨(some 7),(some (5,true)),(.call (.c (.fn (.func cX) [] [])) [(.t 6),(.c
 (.str []))])⟩,pf 8 5 7,m 2 8]) (Y [2])) R))
def kD:AFn:=⟨rG,9,[.t 2],.drop,[],none⟩
def jq:AC:=
 (Q (Q (Q (O [m 11 6,m 12 0,ls 13 12,bl 14 11 13]) (Y [0,1,6,14])) (C 14 X (.exit 0))) (Q (.block 1 (Q (Q (D [Pm 17 0,Pm 18 6,P (ac 19 .sub 18 (i 1)),P (ia 20 2 17 19),Pf
 21 0 20,Wl 22 21,Pm 23 0,Pm 24 6,P (ia 25 2 23 24),Pf 26 0 25,Wl 27 26,P (ar 28 .geq 22 27)]) (Y [0,1,6,28])) (C 28 (Q (O [mc 4 (.c (.slice .nil 2 [])),mc 5 F]) R) X)))
 (ic 15 6 16)))
def jr:AC:=
 (Q (Q (Q (O [m 29 7,m 30 1,ls 31 30,bl 32 29 31]) (Y [0,1,7,32])) (C 32 X (.exit 2))) (Q (.block 3 (Q (Q (D [Pm 35 1,Pm 36 7,P (ac 37 .sub 36 (i 1)),P (ia 38 2 35 37),Pf
 39 0 38,Wl 40 39,Pm 41 1,Pm 42 7,P (ia 43 2 41 42),Pf 44 0 43,Wl 45 44,P (ar 46 .geq 40 45)]) (Y [0,1,7,46])) (C 46 (Q (O [mc 4 (.c (.slice .nil 2 [])),mc 5 F]) R) X)))
 (ic 33 7 34)))
def cE:AC:=
 (Q (Q (Q (O [m 47 9,m 48 0,ls 49 48,bl 50 47 49,m 51 50,h 52 51 (.mv (t 10)),h 53 51 (.mv (t 1)),h 54 51 (.len .sl (t 53)),h 55 51 (.ar .lss (t 52) (t 54)),pt 56 51 55]) (Y
 [0,1,8,9,10,56])) (C 56 X (.exit 4))) (.block 5 (.block 6 (Q (Q (D [Pm 69 10,Pm 70 1,W (ls 71 70),P (ar 72 .eql 69 71),Pm 73 72,P (h 74 73 (.mv (t 9))),P (h 75 73 (.mv (t
 0))),W (h 76 73 (.len .sl (t 75))),P (h 77 73 (.ar .lss (t 74) (t 76))),P (h 78 73 (.mv (t 77))),P (g 79 78 (.mv (t 0))),P (g 80 78 (.mv (t 9))),P (g 81 78 (.ias 2 (t 79) (t
 80))),P (g 82 78 (.fa 0 (t 81))),W (g 83 78 (.ld none (t 82))),P (g 84 78 (.mv (t 1))),P (g 85 78 (.mv (t 10))),P (g 86 78 (.ias 2 (t 84) (t 85))),P (g 87 78 (.fa 0 (t 86))),
 W (g 88 78 (.ld none (t 87))),P (g 89 78 (.ar .lss (t 83) (t 88))),P (h 90 73 (.pk (t 78) (t 89) F)),P (pt 91 73 90),Pm 68 91]) (Y [0,1,8,9,10,68])) (C 68 (Q (Q (O [m 92 8,
 m 93 0,m 94 9,ia 95 2 93 94,la 96 2 95,o 97 (.bs 2 [(.str []),(.str [])] 1 [(0,(t 96))]),o 98 (.ap false aU 2 32 false (t 92) (t 97)),m 8 98]) (Y [0,1,8,9,10]))
 (ic 99 9 100)) (Q (Q (D [Pm 102 9,Pm 103 0,W (ls 104 103),P (ar 105 .eql 102 104),Pm 106 105,P (h 107 106 (.mv (t 1))),P (h 108 106 (.mv (t 10))),P (h 109 106 (.ias 2 (t 107)
 (t 108))),P (h 110 106 (.fa 0 (t 109))),W (h 111 106 (.ld none (t 110))),P (h 112 106 (.mv (t 0))),P (h 113 106 (.mv (t 9))),P (h 114 106 (.ias 2 (t 112) (t 113))),P (h 115
 106 (.fa 0 (t 114))),W (h 116 106 (.ld none (t 115))),P (h 117 106 (.ar .lss (t 111) (t 116))),P (pt 118 106 117),Pm 101 118]) (Y [0,1,8,9,10,101])) (C 101 (Q (Q (O [m 119
 8,m 120 1,m 121 10,ia 122 2 120 121,la 123 2 122,o 124 (.bs 2 [(.str []),(.str [])] 1 [(0,(t 123))]),o 125 (.ap false aU 2 32 false (t 119) (t 124)),m 8 125]) (Y
 [0,1,8,9,10])) (ic 126 10 127)) (Q (Q (D [Pm 129 0,Pm 130 9,P (ia 131 2 129 130),W (la 132 2 131),Pm 133 1,Pm 134 10,P (ia 135 2 133 134),W (la 136 2 135),P (o 137 (.eq
 true (.st [(0,.str),(1,.str)]) (t 132) (t 136))),Pm 128 137]) (Y [0,1,8,9,10,128])) (C 128 (Q (O [mc 4 (.c (.slice .nil 2 [])),mc 5 F]) R) (Q (Q (O [m 57 8,m 58 0,m 59
 9,ia 60 2 58 59,la 61 2 60,o 62 (.bs 2 [(.str []),(.str [])] 1 [(0,(t 61))]),o 63 (.ap false aU 2 32 false (t 57) (t 62)),m 8 63]) (Y [0,1,8,9,10])) (Q (ic 64 9
 65) (ic 66 10 67))))))))))))
def rH:AC:=
 (Q (O [mc 4 (.c (.slice .nil 2 [])),mc 5 F]) (Q (Q (O [mc 6 (i 1)]) (Q (.block 0 (lo [0,1,6] jq)) (Y [0,1]))) (Q (Q (O [mc 7 (i 1)]) (Q (.block 2 (lo [0,1,
 7] jr)) (Y [0,1]))) (Q (O [mc 8 (.c (.slice .nil 2 []))]) (Q (O [mc 9 (i 0),mc 10 (i 0)]) (Q (Q (.block 4 (.loop ⟨(some [0,1,8,9,10]),[(8,2,
 aU)],false⟩ cE)) (Y [8])) (Q (O [m 138 8,m 4 138,mc 5 T]) R)))))))
def du:AFn:=⟨rH,139,[.t 4,.t 5],.drop,[],none⟩
theorem bO:qf du [.t 4,.t 5] .drop:=⟨rfl,rfl,rfl⟩
def iE:AC:=
 (Q (O [mc 2 (.c (.slice .nil 2 []))]) (Q (Q (O [m 3 0,o 4 (.eq false .sl (t 3) (.c (.slice .nil 0 [])))]) (C 4 (Q (O [mc 2 (.c (.slice .nil 2 []))]) R) X)) (Q (Q (O [o 5 (.bs 2
 [(.str []),(.slice .nil 0 [])] 0 []),m 6 0,o 7 (.ap true bU 2 40 false (t 5) (t 6)),m 2 7]) (Y [2])) R)))
def iF:AFn:=⟨iE,8,[.t 2],.keep,[3],none⟩
theorem iG:qf iF [.t 2] .keep:=⟨rfl,rfl,rfl⟩
def iH:AC:=
 (Q (O [mc 2 (.c (.slice .nil 2 []))]) (Q (Q (O [m 3 0,o 4 (.eq false .sl (t 3) (.c (.slice .nil 0 [])))]) (C 4 (Q (O [mc 2 (.c (.slice .nil 2 []))]) R) X)) (Q (Q (O [o 5 (.bs 2
 [(.str []),(.slice .nil 0 [])] 0 []),m 6 0,o 7 (.ap true aW 2 40 false (t 5) (t 6)),m 2 7]) (Y [2])) R)))
def iI:AFn:=⟨iH,8,[.t 2],.keep,[3],none⟩
theorem iJ:qf iI [.t 2] .keep:=⟨rfl,rfl,rfl⟩
def iK:AC:=
 (Q (O [mc 2 (.c (.slice .nil 4 []))]) (Q (Q (O [m 3 0,o 4 (.eq false .sl (t 3) (.c (.slice .nil 0 [])))]) (C 4 (Q (O [mc 2 (.c (.slice .nil 4 []))]) R) X)) (Q (Q (O [o 5 (.bs 4
 [(.str []),(.str []),(.slice .nil 0 []),(.slice .nil 0 [])] 0 []),m 6 0,o 7 (.ap true aZ 4 80 false (t 5) (t 6)),m 2 7]) (Y [2])) R)))
def iL:AFn:=⟨iK,8,[.t 2],.keep,[3],none⟩
theorem iM:qf iL [.t 2] .keep:=⟨rfl,rfl,rfl⟩
def iN:AC:=
 (Q (O [mc 2 (.c (.slice .nil 4 []))]) (Q (Q (O [m 3 0,o 4 (.eq false .sl (t 3) (.c (.slice .nil 0 [])))]) (C 4 (Q (O [mc 2 (.c (.slice .nil 4 []))]) R) X)) (Q (Q (O [o 5 (.bs 4
 [(.str []),(.str []),(.str []),(.str [])] 0 []),m 6 0,o 7 (.ap false cu 4 64 false (t 5) (t 6)),m 2 7]) (Y [2])) R)))
def iO:AFn:=⟨iN,8,[.t 2],.drop,[],none⟩
theorem iP:qf iO [.t 2] .drop:=⟨rfl,rfl,rfl⟩
def jS:AC:=
 (Q (O [mc 2 (.c (.slice .nil 3 []))]) (Q (Q (O [m 3 0,o 4 (.eq false .sl (t 3) (.c (.slice .nil 0 [])))]) (C 4 (Q (O [mc 2 (.c (.slice .nil 3 []))]) R) X)) (Q (Q (O [o 5 (.bs 3
 [(.str []),(.str []),(.slice .nil 0 [])] 0 []),m 6 0,o 7 (.ap true cY 3 56 false (t 5) (t 6)),m 2 7]) (Y [2])) R)))
def jT:AFn:=⟨jS,8,[.t 2],.keep,[3],none⟩
theorem jU:qf jT [.t 2] .keep:=⟨rfl,rfl,rfl⟩
def lR:AC:=
 (Q (O [mc 2 (.c (.slice .nil 1 []))]) (Q (Q (O [m 3 0,o 4 (.eq false .sl (t 3) (.c (.slice .nil 0 [])))]) (C 4 (Q (O [mc 2 (.c (.slice .nil 1 []))]) R) X)) (Q (Q (O [o 5 (.bs 1
 [(.str [])] 0 []),m 6 0,o 7 (.ap false a8 1 16 false (t 5) (t 6)),m 2 7]) (Y [2])) R)))
def lS:AFn:=⟨lR,8,[.t 2],.drop,[],none⟩
theorem lT:qf lS [.t 2] .drop:=⟨rfl,rfl,rfl⟩
def jV:AC:=
 (Q (O [mc 2 (.c (.slice .nil 4 []))]) (Q (Q (O [m 3 0,o 4 (.eq false .sl (t 3) (.c (.slice .nil 0 [])))]) (C 4 (Q (O [mc 2 (.c (.slice .nil 4 []))]) R) X)) (Q (Q (O [o 5 (.bs 4
 [(.int .i64 0),(.str []),(.str []),(.slice .nil 0 [])] 0 []),m 6 0,o 7 (.ap true aR 4 64 false (t 5) (t 6)),m 2 7]) (Y [2])) R)))
def jW:AFn:=⟨jV,8,[.t 2],.keep,[3],none⟩
theorem jX:qf jW [.t 2] .keep:=⟨rfl,rfl,rfl⟩
def jY:AC:=
 (Q (O [mc 2 (.c (.slice .nil 2 []))]) (Q (Q (O [m 3 0,o 4 (.eq false .sl (t 3) (.c (.slice .nil 0 [])))]) (C 4 (Q (O [mc 2 (.c (.slice .nil 2 []))]) R) X)) (Q (Q (O [o 5 (.bs 2
 [(.str []),(.str [])] 0 []),m 6 0,o 7 (.ap false aU 2 32 false (t 5) (t 6)),m 2 7]) (Y [2])) R)))
def jZ:AFn:=⟨jY,8,[.t 2],.drop,[],none⟩
theorem j0:qf jZ [.t 2] .drop:=⟨rfl,rfl,rfl⟩
def eA:AC:=
 (Q (O [mc 2 (.c (.slice .nil 2 []))]) (Q (Q (O [m 3 0,o 4 (.eq false .sl (t 3) (.c (.slice .nil 0 [])))]) (C 4 (Q (O [mc 2 (.c (.slice .nil 2 []))]) R) X)) (Q (Q (O [o 5 (.bs 2
 [(.int .i64 0),(.str [])] 0 []),m 6 0,o 7 (.ap false cL 2 24 false (t 5) (t 6)),m 2 7]) (Y [2])) R)))
def eB:AFn:=⟨eA,8,[.t 2],.drop,[],none⟩
theorem eD:qf eB [.t 2] .drop:=⟨rfl,rfl,rfl⟩
def p6:AC:=
 (Q (O [o 2 (.bx aJ (t 0)),mc 4 (i 0)]) (Q (Q (D [Pf 8 0 2,W (la 9 6 8),Pf 10 0 2,Pf 11 3 10,Wl 12 11,Pm 13 1,P (ia 14 4 12 13),Pf 15 1 14,Wl 16 15,W (k2 17
 fR 9 16),Pm 7 17,P (ex 18 7 0),P (ex 19 7 1),K (o 5 (.nw [(.str []),(.slice .nil 4 [])] aW)),E (n (.st 2 (t 5) (t 18))),Pm 6 19]) (Y [5])) (Q (Q (O [fa
 20 1 5,ld 21 20,ls 22 21,m 4 22]) (Y [4])) R)))
def p7:AFn:=⟨p6,23,[.t 4],.drop,[],none⟩
theorem Bh:qf p7 [.t 4] .drop:=⟨rfl,rfl,rfl⟩
def rI:AC:=
 (Q (O [o 2 (.bx ab (t 0)),mc 4 (i 0)]) (Q (Q (D [Pf 5 2 2,Wl 6 5,W (la 7 6 2),Pf 8 3 2,Wl 9 8,Pm 10 1,P (ia 11 4 9 10),Pf 12 1 11,Wl 13 12,K (k2 14
 eW 7 13),P (ia 15 2 6 14),Pf 16 1 15,Wl 17 16,W (ls 18 17),Pm 4 18]) (Y [4])) R))
def rJ:AFn:=⟨rI,19,[.t 4],.drop,[],none⟩
theorem B7:qf rJ [.t 4] .drop:=⟨rfl,rfl,rfl⟩
def j1:AC:=
 (Q (Q (Q (O [m 31 10,m 32 9,ls 33 32,bl 34 31 33]) (Y [1,2,3,9,10,34])) (C 34 X (.exit 0))) (Q (.block 1 (Q (Q (O [m 37 9,m 38 10,ia 39 2 37 38,fa 40 0 39,ld 41 40,m 42
 2,ar 43 .eql 41 42]) (Y [1,2,3,9,10,43])) (C 43 (Q (Q (O [m 44 9,m 45 10,ia 46 2 44 45,fa 47 1 46,ld 48 47,m 6 48]) (Y [6])) R) X))) (ic 35 10 36)))
def fZ:AC:=
 (Q (Q (Q (O [m 64 15,m 65 13,lt 66 65,bl 67 64 66]) (Y [13,14,15,67])) (C 67 X (.exit 2))) (Q (.block 3 (Q (Q (O [m 70 13,m 71 15,o 72 (.ixs (t 70) (t 71)),ac 73 .neq 72 (u
 43)]) (Y [13,14,15,73])) (C 73 (Q (O [m 74 14,m 75 13,m 76 15,m 77 15,ad 78 77,o 79 (.sls (t 75) (some (t 76)) (some (t 78))),ar 80 .add 74 79,m 14 80]) (Y [13,14,15]))
 X))) (ic 68 15 69)))
def sB:AC:=
 (Q (O [o 3 (.bx ab (t 0)),mc 6 (s [])]) (Q (Q (Q (O [la 17 6 3,m 18 1,m 19 2,k 20 (f kV) [(t 17),(t 18),(t 19)],m 16 20,ex 21 16 0,ex 22 16 1,
 o 7 (.nw [(.int .i64 0),(.str []),(.str []),(.slice .nil 2 [])] aR),n (.st 4 (t 7) (t 21)),m 8 22]) (Y [1,2,3,8])) (Q (O [m 23 8,no 24 23]) (C 24 (rt 6 (s [])) X)))
 (Q (Q (O [fa 25 3 3,ld 26 25,m 27 1,ia 28 4 26 27,fa 29 3 28,ld 30 29,m 9 30]) (Y [1,2,3,9])) (Q (Q (O [mc 10 (i 0)]) (Q (.block 0 (lo [1,2,3,9,10]
 j1)) (Y [1,2,3]))) (Q (Q (O [la 50 6 3,m 51 1,m 52 2,k 53 (f qY) [(t 50),(t 51),(t 52)],m 49 53,ex 54 49 0,ex 55 49 1,m 11 54,m 12
 55]) (Y [11,12])) (Q (Q (O [m 56 12,no 57 56]) (C 57 (rt 6 (s [])) X)) (Q (Q (O [m 58 11,m 59 11,ls 60 59,ac 61 .sub 60 (i 1),ia 62 1 58 61,ld 63 62,m 13 63]) (Y [13])) (Q
 (O [mc 14 (s [])]) (Q (Q (O [mc 15 (i 0)]) (Q (.block 2 (lo [13,14,15] fZ)) (Y [14]))) (Q (Q (O [m 81 14,lt 82 81,ac 83 .gtr 82 (i 24)]) (C 83 (rt 6 (s []))
 X)) (Q (O [m 84 14,m 6 84]) R)))))))))))
def fD:AFn:=⟨sB,85,[.t 6],.drop,[],none⟩
theorem dL:qf fD [.t 6] .drop:=⟨rfl,rfl,rfl⟩
def tx:AC:=
 (Q (O [bl 9 8 7]) (Q (C 9 X (.exit 0)) (Q (.block 1 (Q (O [m 10 8,m 5 10]) (Q (Q (O [m 11 1,m 12 0,m 13 5,o 14 (.ixs (t 12) (t 13)),k 15 (t 11) [(t 14)],no 16 15]) (Y [0,1,
 7,8,16])) (C 16 (rt 4 F) X)))) (O [ad 17 8,m 8 17]))))
def CT:AC:=
 (Q (O [mc 4 F]) (Q (Q (O [m 6 0,lt 7 6,mc 8 (i 0)]) (Q (.block 0 (lo [0,1,7,8] tx)) (Y []))) (rt 4 T)))
def fE:AFn:=⟨CT,18,[.t 4],.drop,[],none⟩
def yi:AC:=
 (Q (O [mc 2 F]) (Q (Q (O [m 3 0,ac 4 .geq 3 (u 33),m 5 4,g 6 5 (.mv (t 0)),g 7 5 (.ar .leq (t 6) (u 126)),pf 8 5 7,m 2 8]) (Y [2])) R))
def mM:AFn:=⟨yi,9,[.t 2],.drop,[],none⟩
def dW:AC:=
 (Q (O [bl 32 31 30]) (Q (C 32 X (.exit 2)) (Q (.block 3 (Q (Q (O [m 33 31,ia 34 3 29 31,la 35 3 34,o 11 (.nw [(.str []),(.str []),(.slice .nil 2 [])] cY),m 10 33,n
 (.st 3 (t 11) (t 35))]) (Y [2,5,7,8,10,11,12,13,14,29,30,31])) (Q (Q (O [la 36 6 2,fa 37 0 7,ld 38 37,la 39 4 8,la 40 3 11,k 41 (f pD) [(t 36),
 (t 38),(t 39),(t 40)]]) (Y [2,5,7,8,10,11,12,13,14,29,30,31,41])) (C 41 (Q (O [m 42 5,fa 43 0 7,ld 44 43,fa 45 1 7,ld 46 45,m 47 10,o 48 (.bd [(.int .i64 0),
 (.int .i64 0),(.int .i64 0)] [(0,1),(1,1),(2,1)] [(0,(t 44)),(1,(t 46)),(2,(t 47))]),fa 49 2 7,ld 50 49,fa 51 1 11,ld 52 51,ar 53 .add 50 52,o 54 (.bd [(.int .i64
 0),(.int .i64 0),(.int .i64 0),(.str [])] [(0,3),(3,1)] [(0,(t 48)),(1,(t 53))]),o 55 (.bs 4 [(.int .i64 0),(.int .i64 0),(.int .i64 0),(.str [])] 1 [(0,(t 54))]),o
 56 (.ap false dj 4 40 false (t 42) (t 55)),m 5 56]) (Y [2,5,7,8,12,13,14,29,30,31])) X)))) (O [ad 57 31,m 31 57]))))
def fg:AC:=
 (Q (O [bl 15 14 13]) (Q (C 15 X (.exit 0)) (Q (Q (.block 1 (Q (Q (O [ia 16 3 12 14,la 17 3 16,o 7 (.nw [(.int .i64 0),(.int .i64 0),(.str [])] b4),n (.st 3 (t 7) (t
 17))]) (Y [2,5,7,12,13,14])) (Q (Q (O [la 19 6 2,fa 20 0 7,ld 21 20,fa 22 1 7,ld 23 22,k 24 (f ky) [(t 19),(t 21),(t 23)],m 18 24,ex 25 18 0,ex 26
 18 1,o 8 (.nw [(.int .i64 0),(.str []),(.str []),(.slice .nil 2 [])] aR),n (.st 4 (t 8) (t 25)),m 9 26]) (Y [2,5,7,8,12,13,14])) (Q (Q (O [fa 27 0 2,fa 28 5 27,
 ld 29 28,ls 30 29,mc 31 (i 0)]) (Y [2,5,7,8,12,13,14,29,30,31])) (Q (.block 2 (.loop ⟨(some [2,5,7,8,12,13,14,29,30,31]),[(5,4,dj)],true⟩
 dW)) (Y [2,5,12,13,14])))))) (Y [2,5,12,13,14])) (O [ad 58 14,m 14 58]))))
def nC:AC:=
 (Q (O [o 2 (.bx aJ (t 0)),mc 4 (.c (.slice .nil 4 []))]) (Q (O [mc 5 (.c (.slice .nil 4 []))]) (Q (Q (O [m 12 1,ls 13 12,mc 14 (i 0)]) (Q (.block 0 (.loop ⟨(some
 [2,5,12,13,14]),[(5,4,dj)],true⟩ fg)) (Y [5]))) (Q (O [m 59 5,m 4 59]) R))))
def dF:AFn:=⟨nC,60,[.t 4],.drop,[],none⟩
theorem eo:qf dF [.t 4] .drop:=⟨rfl,rfl,rfl⟩
def iQ:AC:=
 (Q (O [bl 23 22 21]) (Q (C 23 X (.exit 0)) (Q (.block 1 (Q (Q (O [ia 24 3 20 22,la 25 3 24,o 13 (.nw [(.int .i64 0),(.int .i64 0),(.str [])] b4),n (.st 3 (t 13) (t
 25))]) (Y [2,4,11,13,20,21,22])) (Q (Q (O [fa 26 2 13,ld 27 26,m 28 2,ar 29 .eql 27 28]) (Y [2,4,11,13,20,21,22,29])) (C 29 (Q (D [Pm 30 11,Pm 31 4,Pf 33 0 13,Wl
 34 33,Pf 35 1 13,Wl 36 35,K (k1 32 dk 31),P (o 37 (.bd [(.slice .nil 3 []),(.int .i64 0),(.int .i64 0)] [(0,1),(1,1),(2,1)] [(0,(t 32)),
 (1,(t 34)),(2,(t 36))])),P (o 38 (.bs 3 [(.slice .nil 0 []),(.int .i64 0),(.int .i64 0)] 1 [(0,(t 37))])),E (o 39 (.ap false ak 3 40 false (t 30) (t 38))),Pm 11
 39]) (Y [2,4,11,20,21,22])) X)))) (O [ad 40 22,m 22 40]))))
def iR:AC:=
 (Q (O [bl 45 44 43]) (Q (C 45 X (.exit 2)) (Q (.block 3 (Q (Q (O [ia 46 4 42 44,la 47 4 46,o 15 (.nw [(.int .i64 0),(.int .i64 0),(.int .i64 0),(.str [])] dj),n
 (.st 4 (t 15) (t 47))]) (Y [0,1,2,3,4,11,15,42,43,44])) (Q (Q (O [m 49 2,fa 50 3 15,ld 51 50,k2 52 s9 49 51,m 48 52,ex 53 48 0,ex 54 48 1,m 16 53,m
 17 54]) (Y [0,1,2,3,4,11,15,16,17,42,43,44])) (Q (O [m 55 17]) (C 55 (Q (D [Pm 56 11,Pm 57 0,Pm 58 1,Pm 59 16,Pm 60 3,P (ac 61 .sub 60 (i 1)),Pm 62 4,Pf 64 0 15,W
 (la 65 3 64),P (o 66 (.bs 3 [(.int .i64 0),(.int .i64 0),(.int .i64 0)] 1 [(0,(t 65))])),K (k1 63 dk 62),E (o 67 (.ap false da 3 24
 false (t 63) (t 66))),K (k 68 (f oN) [(t 57),(t 58),(t 59),(t 61),(t 67)]),E (o 69 (.ap false ak 3 40 false (t 56) (t 68))),Pm 11 69]) (Y [0,1,2,
 3,4,11,42,43,44])) X))))) (O [ad 70 44,m 44 70]))))
def pa:AC:=
 (Q (O [mc 10 (.c (.slice .nil 3 []))]) (Q (O [mc 11 (.c (.slice .nil 3 []))]) (Q (Q (O [m 18 3,ac 19 .eql 18 (i 0)]) (C 19 (Q (Q (O [m 20 0,ls 21 20,mc 22 (i 0)]) (Q (.block 0
 (.loop ⟨(some [2,4,11,20,21,22]),[(11,3,ak)],true⟩ iQ)) (Y [11]))) (Q (O [m 41 11,m 10 41]) R)) X)) (Q (Q (O [m 42 1,ls 43 42,mc 44 (i 0)])
 (Q (.block 2 (.loop ⟨(some [0,1,2,3,4,11,42,43,44]),[(11,3,ak)],true⟩ iR)) (Y [11]))) (Q (O [m 71 11,m 10 71]) R)))))
def kH:AFn:=⟨pa,72,[.t 10],.drop,[],none⟩
theorem eU:qf kH [.t 10] .drop:=⟨rfl,rfl,rfl⟩
def cR:AC:=
 (Q (Q (Q (O [m 27 13,m 28 4,m 29 12,ia 30 1 28 29,ld 31 30,ls 32 31,bl 33 27 32]) (Y [1,2,4,11,12,13,33])) (C 33 X (.exit 2))) (Q (.block 3 (Q (Q (O [m 36 4,m 37 12,ia
 38 1 36 37,ld 39 38,m 40 13,ia 41 1 39 40,ld 42 41,ac 43 .neq 42 (s []),m 44 43,g 45 44 (.mv (t 4)),g 46 44 (.mv (t 12)),g 47 44 (.ias 1 (t 45) (t 46)),g 48 44 (.ld none
 (t 47)),g 49 44 (.mv (t 13)),g 50 44 (.ias 1 (t 48) (t 49)),g 51 44 (.ld none (t 50)),g 52 44 (.mv (t 1)),g 53 44 (.ar .eql (t 51) (t 52)),pf 54 44 53]) (Y [1,2,4,11,12,
 13,54])) (C 54 (Q (O [m 55 11,m 56 2,o 57 (.ap false da 3 24 false (.c (.slice .nil 3 [])) (t 56)),m 58 12,m 59 13,o 60 (.bd [(.slice .nil 3 []),(.int .i64 0),(.int
 .i64 0)] [(0,1),(1,1),(2,1)] [(0,(t 57)),(1,(t 58)),(2,(t 59))]),o 61 (.bs 3 [(.slice .nil 0 []),(.int .i64 0),(.int .i64 0)] 1 [(0,(t 60))]),o 62 (.ap false
 ak 3 40 false (t 55) (t 61)),m 11 62]) (Y [1,2,4,11,12,13])) X))) (ic 34 13 35)))
def fF:AC:=
 (Q (Q (Q (O [m 21 12,m 22 4,ls 23 22,bl 24 21 23]) (Y [1,2,4,11,12,24])) (C 24 X (.exit 0))) (Q (Q (.block 1 (Q (O [mc 13 (i 0)]) (Q (.block 2 (.loop ⟨(some [1,2,4,11,
 12,13]),[(11,3,ak)],false⟩ cR)) (Y [1,2,4,11,12])))) (Y [1,2,4,11,12])) (ic 25 12 26)))
def bT:AC:=
 (Q (Q (Q (O [m 79 16,fa 80 5 5,ld 81 80,ls 82 81,bl 83 79 82]) (Y [1,2,3,4,5,11,14,15,16,83])) (C 83 X (.exit 8))) (Q (.block 9 (Q (Q (O [m 86 14,m 87 15,m 88 16,o
 89 (.bd [(.int .i64 0),(.int .i64 0),(.int .i64 0)] [(0,1),(1,1),(2,1)] [(0,(t 86)),(1,(t 87)),(2,(t 88))]),o 17 (.nw [(.int .i64 0),(.int .i64 0),(.int .i64 0)]
 da),n (.st 3 (t 17) (t 89))]) (Y [1,2,3,4,5,11,14,15,16,17])) (Q (Q (D [Pm 90 4,Pm 91 14,P (ia 92 1 90 91),Wl 93 92,Pm 94 15,P (ia 95 1 93 94),Wl 96 95,Pf
 97 5 5,Wl 98 97,Pm 99 16,P (ia 100 3 98 99),Pf 101 1 100,Wl 102 101,P (ar 103 .add 96 102),Pm 18 103]) (Y [1,2,3,4,5,11,14,15,16,17,18])) (Q (Q (O [m 104 4,m 105
 14,ia 106 1 104 105,ld 107 106,m 108 15,ia 109 1 107 108,ld 110 109,ac 111 .neq 110 (s []),m 112 111,g 113 112 (.mv (t 1)),g 114 112 (.mv (t 18)),⟨(some 115),(some (112,
 true)),(.call (.c (.fn (.func pE) [] [])) [(.t 113),(.t 114)])⟩,pf 116 112 115,m 117 116,g 118 117 (.ld (some 6) (t 5)),g 119 117 (.ld (some 3) (t 17)),
 ⟨(some 120),(some (117,true)),(.call (.c (.fn (.func pF) [] [])) [(.t 118),(.t 119)])⟩,pf 121 117 120]) (Y [1,2,3,4,5,11,14,15,16,17,18,121])) (C
 121 (Q (.dops true [] [] [Pm 122 11,W (la 123 6 5),Pm 124 1,Pm 125 18,W (lt 126 125),P (o 127 (.sls (t 124) (some (t 126)) none)),Pm 128 2,W (la 130 3 17),P (o 131 (.bs 3
 [(.int .i64 0),(.int .i64 0),(.int .i64 0)] 1 [(0,(t 130))])),Pm 133 3,P (ac 134 .sub 133 (i 1)),Pm 135 4,K (o 129 (.ap false da 3 24 false (.c (.slice .nil 3 []))
 (t 128))),K (o 132 (.ap false da 3 24 false (t 129) (t 131))),E (k 136 (f dO) [(t 123),(t 127),(t 132),(t 134),(t 135)]),K (o 137 (.ap false
 ak 3 40 false (t 122) (t 136))),Pm 11 137]) (Y [1,2,3,4,5,11,14,15,16])) X))))) (ic 84 16 85)))
def fG:AC:=
 (Q (Q (Q (O [m 70 15,m 71 4,m 72 14,ia 73 1 71 72,ld 74 73,ls 75 74,bl 76 70 75]) (Y [1,2,3,4,5,11,14,15,76])) (C 76 X (.exit 6))) (Q (Q (.block 7 (Q (O [mc 16 (i 0)])
 (Q (.block 8 (.loop ⟨(some [1,2,3,4,5,11,14,15,16]),[(11,3,ak)],true⟩ bT)) (Y [1,2,3,4,5,11,14,15])))) (Y [1,2,3,4,5,11,
 14,15])) (ic 77 15 78)))
def fH:AC:=
 (Q (Q (Q (O [m 64 14,m 65 4,ls 66 65,bl 67 64 66]) (Y [1,2,3,4,5,11,14,67])) (C 67 X (.exit 4))) (Q (Q (.block 5 (Q (O [mc 15 (i 0)]) (Q (.block 6 (.loop ⟨(some [1,2,3,
 4,5,11,14,15]),[(11,3,ak)],true⟩ fG)) (Y [1,2,3,4,5,11,14])))) (Y [1,2,3,4,5,11,14])) (ic 68 14 69)))
def ib:AC:=
 (Q (O [o 5 (.bx ab (t 0)),mc 10 (.c (.slice .nil 3 []))]) (Q (O [mc 11 (.c (.slice .nil 3 []))]) (Q (Q (O [m 19 3,ac 20 .eql 19 (i 0)]) (C 20 (Q (Q (O [mc 12 (i 0)]) (Q
 (.block 0 (.loop ⟨(some [1,2,4,11,12]),[(11,3,ak)],false⟩ fF)) (Y [11]))) (Q (O [m 63 11,m 10 63]) R)) X)) (Q (Q (O [mc 14 (i 0)]) (Q
 (.block 4 (.loop ⟨(some [1,2,3,4,5,11,14]),[(11,3,ak)],true⟩ fH)) (Y [11]))) (Q (O [m 138 11,m 10 138]) R)))))
def bw:AFn:=⟨ib,139,[.t 10],.drop,[],none⟩
theorem aM:qf bw [.t 10] .drop:=⟨rfl,rfl,rfl⟩
def rK:AC:=
 (Q (O [o 3 (.bx aJ (t 0)),o 6 (.nw [(.int .i64 0),(.str []),(.str []),(.slice .nil 2 [])] aR),mc 7 F]) (Q (Q (Q (O [m 10 1,ac 11 .lss 10 (i 0),m 12 11,
 h 13 12 (.mv (t 1)),h 14 12 (.fa 0 (t 3)),h 15 12 (.fa 3 (t 14)),h 16 12 (.ld none (t 15)),h 17 12 (.len .sl (t 16)),h 18 12 (.ar .geq (t 13) (t 17)),pt 19 12 18]) (Y [1,2,
 3,6,19])) (C 19 (Q (O [o 20 (.bd [(.int .i64 0),(.str []),(.str []),(.slice .nil 2 [])] [(0,1),(1,1),(2,1),(3,1)] []),n (.st 4 (t 6) (t 20)),mc 7 F]) R) X)) (Q (Q (D
 [Pf 22 0 3,W (la 23 6 22),Pf 24 0 3,Pf 25 3 24,Wl 26 25,Pm 27 1,P (ia 28 4 26 27),Pf 29 1 28,Wl 30 29,W (k2 31 fR 23 30),Pm 21 31,P (ex 32 21 0),P (ex 33 21
 1),K (o 8 (.nw [(.str []),(.slice .nil 4 [])] aW)),E (n (.st 2 (t 8) (t 32))),Pm 9 33]) (Y [2,6,8])) (Q (Q (Q (O [m 34 2,ac 35 .lss 34 (i 0),m 36 35,h 37 36 (.mv
 (t 2)),h 38 36 (.fa 1 (t 8)),h 39 36 (.ld none (t 38)),h 40 36 (.len .sl (t 39)),h 41 36 (.ar .geq (t 37) (t 40)),pt 42 36 41]) (Y [2,6,8,42])) (C 42 (Q (O [o 43 (.bd [(.int
 .i64 0),(.str []),(.str []),(.slice .nil 2 [])] [(0,1),(1,1),(2,1),(3,1)] []),n (.st 4 (t 6) (t 43)),mc 7 F]) R) X)) (Q (Q (O [fa 44 1 8,ld 45 44,m 46 2,ia 47 4 45
 46,la 48 4 47,n (.st 4 (t 6) (t 48)),mc 7 T]) (Y [6,7])) R)))))
def nk:AFn:=⟨rK,49,[.cell 6 (some 4),.t 7],.drop,[],none⟩
theorem eZ:qf nk [.cell 6 (some 4),.t 7] .drop:=⟨rfl,rfl,rfl⟩
def eV:AC:=
 (Q (O [bl 29 28 27]) (Q (C 29 X (.exit 0)) (Q (.block 1 (Q (Q (O [ia 30 4 26 28,la 31 4 30,o 12 (.nw [(.str []),(.str []),(.str []),(.str [])] cu),n (.st 4 (t 12) (t
 31))]) (Y [3,8,10,12,26,27,28])) (Q (Q (Q (O [la 33 6 3,la 34 4 12,m 35 8,k 36 (f pG) [(t 33),(t 34),(t 35)],m 32 36,ex 37 32 0,ex 38 32 1,m 8 37,
 m 9 38]) (Y [3,8,9,10,26,27,28])) (Q (O [m 39 9,no 40 39]) (C 40 (Q (O [mc 6 (.c (.slice .nil 1 [])),mc 7 F]) R) X))) (Q (O [m 41 10,m 42 8,o 43 (.bs 1 [(.str [])] 1 [(0,
 (t 42))]),o 44 (.ap false a8 1 16 false (t 41) (t 43)),m 10 44]) (Y [3,8,10,26,27,28]))))) (O [ad 45 28,m 28 45]))))
def p8:AC:=
 (Q (Q (O [o 3 (.bx aJ (t 0)),o 5 (.bx aR (t 2)),mc 6 (.c (.slice .nil 1 [])),mc 7 F]) (Y [1,3,5])) (Q (Q (O [la 14 6 3,m 15 1,la 16 4 5,k 17 (f
 my) [(t 14),(t 15),(t 16)],m 13 17,ex 18 13 0,ex 19 13 1,m 8 18,m 9 19]) (Y [3,8,9])) (Q (Q (O [m 20 9,no 21 20]) (C 21 (Q (O [mc 6 (.c (.slice
 .nil 1 [])),mc 7 F]) R) X)) (Q (O [m 22 8,o 23 (.bs 1 [(.str [])] 1 [(0,(t 22))]),m 10 23]) (Q (Q (Q (O [fa 24 0 3,fa 25 4 24,ld 26 25,ls 27 26,mc 28 (i 0)]) (Y [3,8,10,
 26,27,28])) (Q (.block 0 (.loop ⟨(some [3,8,10,26,27,28]),[(10,1,a8)],true⟩ eV)) (Y [10]))) (Q (O [m 46 10,m 6 46,mc 7 T]) R))))))
def ga:AFn:=⟨p8,47,[.t 6,.t 7],.drop,[],none⟩
theorem gb:qf ga [.t 6,.t 7] .drop:=⟨rfl,rfl,rfl⟩
def sC:AC:=
 (Q (O [mc 6 (s [])]) (Q (Q (O [m 7 0,m 8 1,m 9 2,k 10 (f uZ) [(t 7),(t 8),(t 9),(i (-1))],m 6 10]) (Y [6])) R))
def nL:AFn:=⟨sC,11,[.t 6],.drop,[],none⟩
theorem CU:qf nL [.t 6] .drop:=⟨rfl,rfl,rfl⟩
def Fu:AC:=
 (.block 1 (Q (Q (O [m 20 0,m 21 1,k2 22 qA 20 21,m 6 22]) (Y [0,1,5,6])) (Q (Q (O [m 23 6,ac 24 .eql 23 (i (-1))]) (C 24 (Q (O [m 25 5,m 4 25]) R) X)) (Q (ic 26
 5 27) (Q (O [m 28 0,m 29 6,m 30 1,lt 31 30,ar 32 .add 29 31,o 33 (.sls (t 28) (some (t 32)) none),m 0 33]) (Y [0,1,5]))))))
def w8:AC:=
 (Q (O [mc 4 (i 0)]) (Q (Q (O [m 7 1,lt 8 7,ac 9 .eql 8 (i 0)]) (C 9 (Q (Q (O [m 10 0,k1 11 nI 10,ad 12 11,m 4 12]) (Y [4])) R) X)) (Q (Q (O [m 13
 1,lt 14 13,ac 15 .eql 14 (i 1)]) (C 15 (Q (Q (O [m 16 0,m 17 1,o 18 (.ixs (t 17) (i 0)),k2 19 eb 16 18,m 4 19]) (Y [4])) R) X)) (Q (O [mc 5 (i 0)])
 (Q (.block 0 (lo [0,1,5] Fu)) (Y []))))))
def tV:AFn:=⟨w8,34,[.t 4],.drop,[],none⟩
theorem HY:qf tV [.t 4] .drop:=⟨rfl,rfl,rfl⟩
def w9:AC:=
 (Q (O [mc 4 (i 0)]) (Q (Q (O [m 5 0,m 6 1,k2 7 iu 5 6,m 4 7]) (Y [4])) R))
def tW:AFn:=⟨w9,8,[.t 4],.drop,[],none⟩
theorem HZ:qf tW [.t 4] .drop:=⟨rfl,rfl,rfl⟩
def ca:AC:=
 (Q (Q (O [m 2 0,o 3 (.nc (t 2)),fa 4 0 3,ld 5 4,o 6 (.eq false .ptr (t 5) (.c .nilp))]) (Y [0,6])) (C 6 (Q (O [m 7 0,m 8 0,o 9 (.cvu (t 8)),k1 10 iU 9,
 o 11 (.cvf bD 2 (t 10)),o 12 (.nc (t 7)),fa 13 0 12,n (.st 1 (t 13) (t 11))]) (Y [])) (Q (Q (O [m 14 0,o 15 (.nc (t 14)),fa 16 0 15,ld 17 16,m 18 0,o 19 (.eq
 true .ptr (t 17) (t 18))]) (Y [19])) (C 19 .bad X))))
def jz:AFn:=⟨ca,20,[],.drop,[],none⟩
theorem jA:qf jz [] .drop:=⟨rfl,rfl,rfl⟩
def j4:AC:=
 (Q (O [m 4 0,k1 5 cI 4]) (Q (Q (O [m 6 1,ac 7 .lss 6 (i 0)]) (C 7 (O [o 8 (.mi a8 (s [115,116,114,105,110,103,115,46,66,117,105,108,100,
 101,114,46,71,114,111,119,58,32,110,101,103,97,116,105,118,101,32,99,111,117,110,116])),⟨none,none,(.panic (.t 8))⟩]) X)) (Q (Q (D [Pm 9 0,P (o 10 (.nc (t
 9))),Pf 11 1 10,Wl 12 11,P (o 13 (.cap (t 12))),Pm 14 0,P (o 15 (.nc (t 14))),Pf 16 1 15,Wl 17 16,W (ls 18 17),P (ar 19 .sub 13 18),Pm 20 1,P (bl 21 19 20)]) (Y [0,1,
 21])) (C 21 (O [m 22 0,m 23 1,k2 24 pH 22 23]) X))))
def mD:AFn:=⟨j4,25,[],.keep,[],none⟩
theorem u5:qf mD [] .keep:=⟨rfl,rfl,rfl⟩
def yj:AC:=
 (Q (O [mc 2 F]) (Q (Q (O [m 3 0,k1 4 cO 3,m 5 4,h 6 5 (.mv (t 0)),h 7 5 (.ar .geq (t 6) (u 65)),h 8 5 (.mv (t 7)),g 9 8 (.mv (t 0)),g 10 8 (.ar .leq (t 9) (u
 90)),h 11 5 (.pk (t 8) (t 10) F),pt 12 5 11,m 2 12]) (Y [2])) R))
def k8:AFn:=⟨yj,13,[.t 2],.drop,[],none⟩
def yk:AC:=
 (Q (O [mc 3 F]) (Q (Q (O [ld 4 1,m 5 0,k 6 (t 4) [(t 5)],m 7 6,h 8 7 (.mv (t 0)),h 9 7 (.ar .geq (t 8) (u 48)),h 10 7 (.mv (t 9)),g 11 10 (.mv (t 0)),g 12 10 (.ar .leq (t
 11) (u 57)),h 13 7 (.pk (t 10) (t 12) F),pt 14 7 13,m 15 14,h 16 15 (.mv (t 0)),h 17 15 (.ar .eql (t 16) (u 95)),pt 18 15 17,m 3 18]) (Y [3])) R))
def mN:AFn:=⟨yk,19,[.t 3],.drop,[],none⟩
def cF:AC:=
 (Q (O [bl 9 8 7]) (Q (C 9 X (.exit 0)) (Q (.block 1 (Q (O [m 10 8,m 5 10]) (Q (Q (O [m 11 1,m 12 0,m 13 5,ia 14 2 12 13,la 15 2 14,k 16 (t 11) [(t 15)]]) (Y [0,1,5,7,8,
 16])) (C 16 (Q (O [m 17 5,m 4 17]) R) X)))) (O [ad 18 8,m 8 18]))))
def fI:AC:=
 (Q (O [mc 4 (i 0)]) (Q (Q (O [m 6 0,ls 7 6,mc 8 (i 0)]) (Q (.block 0 (lo [0,1,7,8] cF)) (Y []))) (rt 4 (i (-1)))))
def bn:AFn:=⟨fI,19,[.t 4],.drop,[],none⟩
theorem fJ:qf bn [.t 4] .drop:=⟨rfl,rfl,rfl⟩
def eh:AC:=
 (Q (O [bl 9 8 7]) (Q (C 9 X (.exit 0)) (Q (.block 1 (Q (O [m 10 8,m 5 10]) (Q (Q (O [m 11 1,m 12 0,m 13 5,ia 14 1 12 13,ld 15 14,ar 16 .eql 11 15]) (Y [0,1,5,7,8,16])) (C
 16 (Q (O [m 17 5,m 4 17]) R) X)))) (O [ad 18 8,m 8 18]))))
def lU:AC:=
 (Q (O [mc 4 (i 0)]) (Q (Q (O [m 6 0,ls 7 6,mc 8 (i 0)]) (Q (.block 0 (lo [0,1,7,8] eh)) (Y []))) (rt 4 (i (-1)))))
def dI:AFn:=⟨lU,19,[.t 4],.drop,[],none⟩
theorem lV:qf dI [.t 4] .drop:=⟨rfl,rfl,rfl⟩
def cG:AC:=
 (Q (O [bl 9 8 7]) (Q (C 9 X (.exit 0)) (Q (.block 1 (Q (O [m 10 8,m 5 10]) (Q (Q (O [m 11 1,m 12 0,m 13 5,ia 14 2 12 13,la 15 2 14,k 16 (t 11) [(t 15)]]) (Y [0,1,5,7,8,
 16])) (C 16 (Q (O [m 17 5,m 4 17]) R) X)))) (O [ad 18 8,m 8 18]))))
def fK:AC:=
 (Q (O [mc 4 (i 0)]) (Q (Q (O [m 6 0,ls 7 6,mc 8 (i 0)]) (Q (.block 0 (lo [0,1,7,8] cG)) (Y []))) (rt 4 (i (-1)))))
def bo:AFn:=⟨fK,19,[.t 4],.drop,[],none⟩
theorem fL:qf bo [.t 4] .drop:=⟨rfl,rfl,rfl⟩
def js:AC:=
 (Q (O [bl 17 16 15]) (Q (C 17 X (.exit 0)) (Q (.block 1 (Q (Q (O [m 18 16,ia 19 2 14 16,la 20 2 19,o 8 (.nw [(.str []),(.str [])] aU),m 7 18,n (.st 2 (t 8) (t 20))])
 (Y [2,7,8,14,15,16])) (Q (Q (O [m 21 2,m 22 7,la 23 2 8,k 24 (t 21) [(t 22),(t 23)],m 9 24]) (Y [2,9,14,15,16])) (Q (O [m 25 9,ac 26 .neq 25 (u 0)]) (C 26 (Q (O [m 27
 9,m 6 27]) R) X))))) (O [ad 28 16,m 16 28]))))
def rL:AC:=
 (Q (O [mc 6 (u 0)]) (Q (Q (Q (O [m 10 0,ls 11 10,m 12 1,ar 13 .gtr 11 12]) (Y [0,2,13])) (C 13 (rt 6 (u 3)) X)) (Q (Q (O [m 14 0,ls 15 14,mc 16 (i 0)]) (Q (.block 0 (lc [2,
 14,15,16] js)) (Y []))) (rt 6 (u 0)))))
def fb:AFn:=⟨rL,29,[.t 6],.drop,[],none⟩
theorem rM:qf fb [.t 6] .drop:=⟨rfl,rfl,rfl⟩
def og:AC:=
 (Q (O [o 5 (.bx aU (t 1)),mc 6 (u 0)]) (Q (Q (O [fa 8 0 2,fa 9 1 8,ld 10 9,o 11 (.mf (.func jJ) [] [(t 5)]),k2 12
 b6 10 11,m 7 12]) (Y [0,2,3,5,7])) (Q (.block 0 (Q (O [m 14 7,ac 15 .lss 14 (i 0),m 13 15]) (C 13 (rt 6 (u 5)) (Q (Q (D [Pf 17 0 2,Pf 18
 1 17,Wl 19 18,Pm 20 7,P (ia 21 2 19 20),Pf 22 1 21,Wl 23 22,Pf 24 1 5,Wl 25 24,E (k2 26 fx 23 25),P (no 27 26),Pm 16 27]) (Y [0,3,5,16]))
 (C 16 (rt 6 (u 1)) (Q (Q (D [Pm 29 0,P (ac 30 .gtr 29 (i 0)),Pm 31 30,W (g 32 31 (.ld none (t 3))),P (g 33 31 (.mv (t 0))),P (g 34 31 (.ar .sub (t 33) (i 1))),P (g 35 31 (.ias
 2 (t 32) (t 34))),P (g 36 31 (.fa 0 (t 35))),W (g 37 31 (.ld none (t 36))),P (g 38 31 (.fa 0 (t 5))),W (g 39 31 (.ld none (t 38))),P (g 40 31 (.ar .eql (t 37) (t 39))),P (pf
 41 31 40),Pm 28 41]) (Y [0,3,5,28])) (C 28 (rt 6 (u 6)) (Q (Q (D [Pm 43 0,P (ac 44 .gtr 43 (i 0)),Pm 45 44,W (g 46 45 (.ld none (t 3))),P (g 47 45 (.mv (t 0))),P (g 48 45
 (.ar .sub (t 47) (i 1))),P (g 49 45 (.ias 2 (t 46) (t 48))),P (g 50 45 (.fa 0 (t 49))),W (g 51 45 (.ld none (t 50))),P (g 52 45 (.fa 0 (t 5))),W (g 53 45 (.ld none (t 52))),P
 (g 54 45 (.ar .gtr (t 51) (t 53))),P (pf 55 45 54),Pm 42 55]) (Y [42])) (C 42 (rt 6 (u 1)) X))))))))) (rt 6 (u 0)))))
def kO:AFn:=⟨og,56,[.t 6],.drop,[],none⟩
theorem oh:qf kO [.t 6] .drop:=⟨rfl,rfl,rfl⟩
def mO:AC:=
 (Q (O [o 2 (.bx bU (t 0)),mc 3 F]) (Q (Q (O [fa 4 0 2,ld 5 4,fa 6 0 1,ld 7 6,ar 8 .eql 5 7,m 3 8]) (Y [3])) R))
def j6:AFn:=⟨mO,9,[.t 3],.drop,[],none⟩
theorem yl:qf j6 [.t 3] .drop:=⟨rfl,rfl,rfl⟩
def u6:AC:=
 (Q (O [o 2 (.bx aW (t 0)),mc 3 F]) (Q (Q (O [fa 4 0 2,ld 5 4,ld 6 1,ar 7 .eql 5 6,m 3 7]) (Y [3])) R))
def r7:AFn:=⟨u6,8,[.t 3],.drop,[],none⟩
theorem Fv:qf r7 [.t 3] .drop:=⟨rfl,rfl,rfl⟩
def cH:AC:=
 (Q (O [bl 9 8 7]) (Q (C 9 X (.exit 0)) (Q (.block 1 (Q (O [m 10 8,m 5 10]) (Q (Q (O [m 11 1,m 12 0,m 13 5,ia 14 4 12 13,la 15 4 14,k 16 (t 11) [(t 15)]]) (Y [0,1,5,7,8,
 16])) (C 16 (Q (O [m 17 5,m 4 17]) R) X)))) (O [ad 18 8,m 8 18]))))
def fM:AC:=
 (Q (O [mc 4 (i 0)]) (Q (Q (O [m 6 0,ls 7 6,mc 8 (i 0)]) (Q (.block 0 (lo [0,1,7,8] cH)) (Y []))) (rt 4 (i (-1)))))
def bp:AFn:=⟨fM,19,[.t 4],.drop,[],none⟩
theorem fN:qf bp [.t 4] .drop:=⟨rfl,rfl,rfl⟩
def cS:AC:=
 (Q (O [bl 9 8 7]) (Q (C 9 X (.exit 0)) (Q (.block 1 (Q (O [m 10 8,m 5 10]) (Q (Q (O [m 11 1,m 12 0,m 13 5,ia 14 4 12 13,la 15 4 14,k 16 (t 11) [(t 15)]]) (Y [0,1,5,7,8,
 16])) (C 16 (Q (O [m 17 5,m 4 17]) R) X)))) (O [ad 18 8,m 8 18]))))
def gB:AC:=
 (Q (O [mc 4 (i 0)]) (Q (Q (O [m 6 0,ls 7 6,mc 8 (i 0)]) (Q (.block 0 (lo [0,1,7,8] cS)) (Y []))) (rt 4 (i (-1)))))
def bz:AFn:=⟨gB,19,[.t 4],.drop,[],none⟩
theorem gC:qf bz [.t 4] .drop:=⟨rfl,rfl,rfl⟩
def fo:AC:=
 (Q (O [mc 4 F]) (Q (Q (O [m 5 0,m 6 1,k2 7 c7 5 6,ac 8 .geq 7 (i 0),m 4 8]) (Y [4])) R))
def cK:AFn:=⟨fo,9,[.t 4],.drop,[],none⟩
theorem sd:qf cK [.t 4] .drop:=⟨rfl,rfl,rfl⟩
def xb:AC:=
 (Q (O [o 2 (.bx aU (t 0)),mc 3 F]) (Q (Q (O [ld 4 1,o 5 (.mf (.func rY) [] [(t 2)]),k2 6 bW 4 5,m 3 6]) (Y [3])) R))
def tX:AFn:=⟨xb,7,[.t 3],.drop,[],none⟩
theorem H6:qf tX [.t 3] .drop:=⟨rfl,rfl,rfl⟩
def u7:AC:=
 (Q (O [o 2 (.bx aU (t 0)),mc 3 F]) (Q (Q (O [fa 4 0 1,ld 5 4,fa 6 0 2,ld 7 6,ar 8 .eql 5 7,m 9 8,g 10 9 (.fa 1 (t 1)),g 11 9 (.ld none (t 10)),g 12 9 (.fa 1 (t 2)),
 g 13 9 (.ld none (t 12)),g 14 9 (.ar .neq (t 11) (t 13)),pf 15 9 14,m 3 15]) (Y [3])) R))
def r8:AFn:=⟨u7,16,[.t 3],.drop,[],none⟩
theorem Fw:qf r8 [.t 3] .drop:=⟨rfl,rfl,rfl⟩
def bK:AC:=
 (Q (O [bl 9 8 7]) (Q (C 9 X (.exit 0)) (Q (.block 1 (Q (O [m 10 8,m 5 10]) (Q (Q (O [m 11 1,m 12 0,m 13 5,ia 14 2 12 13,la 15 2 14,k 16 (t 11) [(t 15)]]) (Y [0,1,5,7,8,
 16])) (C 16 (Q (O [m 17 5,m 4 17]) R) X)))) (O [ad 18 8,m 8 18]))))
def dR:AC:=
 (Q (O [mc 4 (i 0)]) (Q (Q (O [m 6 0,ls 7 6,mc 8 (i 0)]) (Q (.block 0 (lo [0,1,7,8] bK)) (Y []))) (rt 4 (i (-1)))))
def aV:AFn:=⟨dR,19,[.t 4],.drop,[],none⟩
theorem dS:qf aV [.t 4] .drop:=⟨rfl,rfl,rfl⟩
def sD:AC:=
 (Q (O [o 3 (.bx ab (t 0)),o 6 (.nw [(.int .i64 0),(.str []),(.str []),(.slice .nil 2 [])] aR),mc 7 F]) (Q (Q (Q (O [m 9 1,ac 10 .lss 9 (i 0),m 11 10,h 12
 11 (.mv (t 1)),h 13 11 (.fa 3 (t 3)),h 14 11 (.ld none (t 13)),h 15 11 (.len .sl (t 14)),h 16 11 (.ar .geq (t 12) (t 15)),pt 17 11 16]) (Y [1,2,3,6,17])) (C 17 (Q (O [o 18
 (.bd [(.int .i64 0),(.str []),(.str []),(.slice .nil 2 [])] [(0,1),(1,1),(2,1),(3,1)] []),n (.st 4 (t 6) (t 18)),mc 7 F]) R) X)) (Q (Q (D [Pf 19 2 3,Wl 20 19,W (la 21
 6 3),Pf 22 3 3,Wl 23 22,Pm 24 1,P (ia 25 4 23 24),Pf 26 1 25,Wl 27 26,K (k2 28 eW 21 27),P (ia 29 2 20 28),Pf 30 1 29,Wl 31 30,Pm 8 31]) (Y [2,6,8]))
 (Q (Q (Q (O [m 32 2,ac 33 .lss 32 (i 0),m 34 33,h 35 34 (.mv (t 2)),h 36 34 (.mv (t 8)),h 37 34 (.len .sl (t 36)),h 38 34 (.ar .geq (t 35) (t 37)),pt 39 34 38]) (Y [2,6,8,
 39])) (C 39 (Q (O [o 40 (.bd [(.int .i64 0),(.str []),(.str []),(.slice .nil 2 [])] [(0,1),(1,1),(2,1),(3,1)] []),n (.st 4 (t 6) (t 40)),mc 7 F]) R) X)) (Q (Q (O [m 41
 8,m 42 2,ia 43 4 41 42,la 44 4 43,n (.st 4 (t 6) (t 44)),mc 7 T]) (Y [6,7])) R)))))
def sE:AFn:=⟨sD,45,[.cell 6 (some 4),.t 7],.drop,[],none⟩
theorem k9:qf sE [.cell 6 (some 4),.t 7] .drop:=⟨rfl,rfl,rfl⟩
def dy:AC:=
 (Q (Q (Q (O [m 62 13,fa 63 4 3,ld 64 63,ls 65 64,bl 66 62 65]) (Y [3,11,12,13,66])) (C 66 X (.exit 0))) (Q (.block 1 (Q (Q (D [W (la 70 6 3),Pf 71 4 3,Wl 72 71,Pm 73 13,
 P (ia 74 4 72 73),W (la 75 4 74),Pm 76 11,E (k 77 (f oP) [(t 70),(t 75),(t 76)]),Pm 69 77,P (ex 78 69 0),P (ex 79 69 1),Pm 11 78,Pm 9 79]) (Y [3,9,
 11,12,13])) (Q (Q (O [m 80 9,no 81 80]) (C 81 (Q (O [mc 6 (.c (.slice .nil 1 [])),mc 7 F]) R) X)) (Q (O [m 82 12,m 83 11,o 84 (.bs 1 [(.str [])] 1 [(0,(t 83))]),o 85 (.ap
 false a8 1 16 false (t 82) (t 84)),m 12 85]) (Y [3,11,12,13]))))) (ic 67 13 68)))
def rN:AC:=
 (Q (O [o 3 (.bx ab (t 0)),mc 6 (.c (.slice .nil 1 [])),mc 7 F]) (Q (Q (O [la 15 6 3,m 16 1,m 17 2,k 18 (f kV) [(t 15),(t 16),(t 17)],m 14 18,ex
 19 14 0,ex 20 14 1,o 8 (.nw [(.int .i64 0),(.str []),(.str []),(.slice .nil 2 [])] aR),n (.st 4 (t 8) (t 19)),m 9 20]) (Y [1,3,8,9])) (Q (O [mc 10 (s [])]) (Q (Q
 (O [m 21 9]) (C 21 (Q (O [fa 22 3 3,ld 23 22,m 24 1,ia 25 4 23 24,fa 26 0 25,ld 27 26,m 10 27]) (Y [3,8,9,10])) X)) (Q (Q (Q (O [m 28 9,no 29 28,m 30 29,h 31 30 (.mv (t
 10)),h 32 30 (.len .str (t 31)),h 33 30 (.fa 0 (t 8)),h 34 30 (.ld none (t 33)),h 35 30 (.ar .lss (t 32) (t 34)),pt 36 30 35]) (Y [3,8,10,36])) (C 36 (Q (O [mc 6 (.c (.slice
 .nil 1 [])),mc 7 F]) R) X)) (Q (Q (O [m 37 10,m 38 10,lt 39 38,fa 40 0 8,ld 41 40,ar 42 .sub 39 41,o 43 (.sls (t 37) none (some (t 42))),m 11 43]) (Y [3,8,11])) (Q (Q (O
 [fa 44 1 8,ld 45 44,ac 46 .neq 45 (s [])]) (C 46 (Q (O [fa 47 1 8,ld 48 47,ac 49 .add 48 (s [43]),m 50 11,ar 51 .add 49 50,m 11 51]) (Y [3,8,11])) X)) (Q (Q (O [fa 52 2 8,
 ld 53 52,ac 54 .neq 53 (s [])]) (C 54 (Q (O [m 55 11,ac 56 .add 55 (s [43]),fa 57 2 8,ld 58 57,ar 59 .add 56 58,m 11 59]) (Y [3,11])) X)) (Q (O [m 60 11,o 61 (.bs 1 [(.str
 [])] 1 [(0,(t 60))]),m 12 61]) (Q (Q (O [mc 13 (i 0)]) (Q (.block 0 (.loop ⟨(some [3,11,12,13]),[(12,1,a8)],false⟩ dy)) (Y [12]))) (Q (O [m 86
 12,m 6 86,mc 7 T]) R)))))))))))
def gN:AFn:=⟨rN,87,[.t 6,.t 7],.drop,[],none⟩
theorem dv:qf gN [.t 6,.t 7] .drop:=⟨rfl,rfl,rfl⟩
def p9:AC:=
 (Q (Q (O [o 4 (.bx aJ (t 0)),o 6 (.bx aR (t 2)),o 7 (.bx cY (t 3)),mc 8 F]) (Y [1,4,6,7])) (Q (Q (D [Pf 9 0 4,Pf 10 3 9,Wl 11 10,Pm 12 1,P
 (ia 13 4 11 12),Pf 14 1 13,Wl 15 14,Pf 16 0 7,Wl 17 16,P (ar 18 .eql 15 17),Pm 19 18,P (g 20 19 (.fa 2 (t 7))),W (g 21 19 (.ld none (t 20))),W (g 22 19 (.ld (some 6) (t
 4))),P (g 23 19 (.mv (t 1))),W (g 24 19 (.ld (some 4) (t 6))),K (⟨(some 25),(some (19,true)),(.call (.c (.fn (.func pI) [] [])) [(.t 22),(.t 23),(.t
 24)])⟩),K (⟨(some 26),(some (19,true)),(.call (.c (.fn (.func vN) [] [])) [(.t 21),(.t 25)])⟩),P (pf 27 19 26),Pm 8 27]) (Y [8])) R))
def qa:AFn:=⟨p9,28,[.t 8],.drop,[],none⟩
theorem u9:qf qa [.t 8] .drop:=⟨rfl,rfl,rfl⟩
def dn:AC:=
 (Q (O [mc 2 (.c (.slice .nil 3 []))]) (Q (Q (O [m 3 0,o 4 (.eq false .sl (t 3) (.c (.slice .nil 0 [])))]) (C 4 (Q (O [mc 2 (.c (.slice .nil 3 []))]) R) X)) (Q (Q (O [o 5 (.bs 3
 [(.int .i64 0),(.int .i64 0),(.int .i64 0)] 0 []),m 6 0,o 7 (.ap false da 3 24 false (t 5) (t 6)),m 2 7]) (Y [2])) R)))
def iS:AFn:=⟨dn,8,[.t 2],.keep,[],none⟩
theorem mP:qf iS [.t 2] .keep:=⟨rfl,rfl,rfl⟩
def th:AC:=
 (Q (O [mc 4 (s []),mc 5 F]) (Q (Q (O [m 6 0,m 7 1,k2 8 jK 6 7,ex 9 8 0,ex 10 8 1,m 4 9,m 5 10]) (Y [4,5])) R))
def ti:AFn:=⟨th,11,[.t 4,.t 5],.drop,[],none⟩
theorem DI:qf ti [.t 4,.t 5] .drop:=⟨rfl,rfl,rfl⟩
def qb:AC:=
 (Q (O [mc 4 F]) (Q (Q (O [m 5 0,lt 6 5,m 7 1,lt 8 7,ar 9 .geq 6 8,m 10 9,g 11 10 (.mv (t 0)),g 12 10 (.mv (t 1)),g 13 10 (.len .str (t 12)),g 14 10 (.sls (t 11) none (some
 (t 13))),g 15 10 (.mv (t 1)),g 16 10 (.ar .eql (t 14) (t 15)),pf 17 10 16,m 4 17]) (Y [4])) R))
def qc:AFn:=⟨qb,18,[.t 4],.drop,[],none⟩
theorem vc:qf qc [.t 4] .drop:=⟨rfl,rfl,rfl⟩
def qd:AC:=
 (Q (O [o 2 (.bx ab (t 0)),o 3 (.bx da (t 1)),mc 4 F]) (Q (Q (Q (O [fa 9 2 3,ld 10 9,ac 11 .lss 10 (i 0),m 12 11,h 13 12 (.fa 2 (t 3)),h 14 12 (.ld none (t
 13)),h 15 12 (.fa 5 (t 2)),h 16 12 (.ld none (t 15)),h 17 12 (.len .sl (t 16)),h 18 12 (.ar .geq (t 14) (t 17)),pt 19 12 18]) (Y [2,3,19])) (C 19 (rt 4 F) X)) (Q (Q (O [la 21
 6 2,fa 22 0 3,ld 23 22,fa 24 1 3,ld 25 24,k 26 (f kV) [(t 21),(t 23),(t 25)],m 20 26,ex 27 20 0,ex 28 20 1,o 5 (.nw [(.int .i64 0),(.str []),(.str
 []),(.slice .nil 2 [])] aR),n (.st 4 (t 5) (t 27)),m 6 28]) (Y [2,3,5,6])) (Q (Q (Q (D [Pm 29 6,P (no 30 29),Pm 31 30,P (h 32 31 (.fa 3 (t 2))),W (h 33 31 (.ld
 none (t 32))),P (h 34 31 (.fa 0 (t 3))),W (h 35 31 (.ld none (t 34))),P (h 36 31 (.ias 4 (t 33) (t 35))),P (h 37 31 (.fa 1 (t 36))),W (h 38 31 (.ld none (t 37))),P (h 39 31
 (.fa 5 (t 2))),W (h 40 31 (.ld none (t 39))),P (h 41 31 (.fa 2 (t 3))),W (h 42 31 (.ld none (t 41))),P (h 43 31 (.ias 3 (t 40) (t 42))),P (h 44 31 (.fa 0 (t 43))),W (h 45 31
 (.ld none (t 44))),P (h 46 31 (.ar .neq (t 38) (t 45))),P (pt 47 31 46)]) (Y [2,3,5,47])) (C 47 (rt 4 F) X)) (Q (Q (D [Pf 49 3 2,Wl 50 49,Pf 51 0 3,Wl 52 51,P (ia 53 4 50
 52),Pf 54 2 53,Wl 55 54,Pf 56 3 5,Wl 57 56,E (k2 58 nd 55 57),Pm 48 58,P (ex 59 48 0),P (ex 60 48 1),Pm 7 59,Pm 8 60]) (Y [2,3,7])) (Q (Q (O [fa 61 5
 2,ld 62 61,fa 63 2 3,ld 64 63,ia 65 3 62 64,fa 66 2 65,ld 67 66,m 68 7,k2 69 nX 67 68,m 4 69]) (Y [4])) R))))))
def qe:AFn:=⟨qd,70,[.t 4],.drop,[],none⟩
theorem j7:qf qe [.t 4] .drop:=⟨rfl,rfl,rfl⟩
def mE:AC:=
 (Q (Q (O [o 3 (.bx aJ (t 0)),o 5 (.bx aR (t 2)),mc 6 (s []),mc 7 F]) (Y [1,3,5])) (Q (Q (O [fa 10 0 3,fa 11 3 10,ld 12 11,m 13 1,ia 14 4 12 13,fa 15
 0 14,ld 16 15,m 8 16]) (Y [5,8])) (Q (Q (Q (O [m 17 8,lt 18 17,fa 19 0 5,ld 20 19,bl 21 18 20]) (Y [5,8,21])) (C 21 (Q (O [mc 6 (s []),mc 7 F]) R) X)) (Q (Q (O [m 22 8,m
 23 8,lt 24 23,fa 25 0 5,ld 26 25,ar 27 .sub 24 26,o 28 (.sls (t 22) none (some (t 27))),m 9 28]) (Y [5,9])) (Q (Q (O [fa 29 1 5,ld 30 29,ac 31 .neq 30 (s [])]) (C 31 (Q (O
 [fa 32 1 5,ld 33 32,ac 34 .add 33 (s [43]),m 35 9,ar 36 .add 34 35,m 9 36]) (Y [5,9])) X)) (Q (Q (O [fa 37 2 5,ld 38 37,ac 39 .neq 38 (s [])]) (C 39 (Q (O [m 40 9,fa 41 2
 5,ld 42 41,o 43 (.ar .add (s [43]) (t 42)),ar 44 .add 40 43,m 9 44]) (Y [9])) X)) (Q (O [m 45 9,m 6 45,mc 7 T]) R)))))))
def jB:AFn:=⟨mE,46,[.t 6,.t 7],.drop,[],none⟩
theorem fh:qf jB [.t 6,.t 7] .drop:=⟨rfl,rfl,rfl⟩
def dU:AC:=
 (Q (Q (Q (O [m 10 9,m 11 2,lt 12 11,bl 13 10 12]) (Y [2,3,4,8,9,13])) (C 13 X (.exit 0))) (.block 1 (Q (Q (D [Pm 14 2,Pm 15 9,P (o 16 (.sls (t 14) (some (t 15)) none)),Pf
 17 0 4,Wl 18 17,E (k2 19 tc 16 18),Pm 20 19,W (g 21 20 (.ld (some 6) (t 3))),P (g 22 20 (.fa 2 (t 4))),W (g 23 20 (.ld none (t 22))),P (g 24 20 (.mv (t 2))),
 P (g 25 20 (.mv (t 9))),E (⟨(some 26),(some (20,true)),(.call (.c (.fn (.func qZ) [] [])) [(.t 21),(.t 23),(.t 24),(.t 25)])⟩),P (pf 27 20 26),Pm 28 27,
 W (g 29 28 (.ld (some 6) (t 3))),P (g 30 28 (.fa 3 (t 4))),W (g 31 28 (.ld none (t 30))),P (g 32 28 (.mv (t 2))),P (g 33 28 (.mv (t 9))),P (g 34 28 (.fa 0 (t 4))),W (g 35 28
 (.ld none (t 34))),W (g 36 28 (.len .str (t 35))),P (g 37 28 (.ar .add (t 33) (t 36))),E (⟨(some 38),(some (28,true)),(.call (.c (.fn (.func pJ) [] []))
 [(.t 29),(.t 31),(.t 32),(.t 37)])⟩),P (pf 39 28 38)]) (Y [2,3,4,8,9,39])) (C 39 (Q (O [fa 40 1 4,ld 41 40,k2 42 aS 8 41]) (Q (O [m 43 9,fa 44
 0 4,ld 45 44,lt 46 45,ar 47 .add 43 46,m 9 47]) (Y [2,3,4,8,9]))) (Q (Q (O [m 48 2,m 49 9,o 50 (.ixs (t 48) (t 49)),k2 51 fc 8 50]) (Y [2,3,4,
 8,9])) (ic 52 9 53))))))
def qg:AC:=
 (Q (Q (O [o 3 (.bx aJ (t 0)),o 4 (.bx cu (t 1)),mc 6 (s []),mc 7 F]) (Y [2,3,4])) (Q (O [o 8 (.nwb [.nilp,(.slice .nil 1 [])] bD 1
 dD)]) (Q (Q (O [mc 9 (i 0)]) (Q (.block 0 (lo [2,3,4,8,9] dU)) (Y [8]))) (Q (Q (O [k1 54 c9 8,k1 55 qV 8,ac
 56 .leq 55 (i 512),m 6 54,m 7 56]) (Y [6,7])) R))))
def gd:AFn:=⟨qg,57,[.t 6,.t 7],.drop,[],none⟩
theorem eG:qf gd [.t 6,.t 7] .drop:=⟨rfl,rfl,rfl⟩
def l6:AC:=
 (Q (O [bl 54 53 52]) (Q (C 54 X (.exit 0)) (Q (.block 1 (Q (Q (O [m 55 11,m 56 0,m 57 11,o 58 (.sls (t 56) (some (t 57)) none),m 59 1,k2 60 qA 58 59,ar 61 .add 55
 60,m 12 61]) (Y [0,1,2,10,11,12,52,53])) (Q (Q (O [m 62 0,m 63 11,m 64 12,o 65 (.sls (t 62) (some (t 63)) (some (t 64))),k2 66 aS 10 65]) (Y
 [0,1,2,10,12,52,53])) (Q (O [m 67 2,k2 68 aS 10 67]) (Q (O [m 69 12,m 70 1,lt 71 70,ar 72 .add 69 71,m 11 72]) (Y [0,1,2,10,11,52,
 53])))))) (O [ad 73 53,m 53 73]))))
def DJ:AC:=
 (Q (O [bl 79 78 77]) (Q (C 79 X (.exit 2)) (Q (.block 3 (Q (Q (O [m 81 0,m 82 11,o 83 (.sls (t 81) (some (t 82)) none),k1 84 nr 83,m 80 84,ex 85
 80 0,ex 86 80 1,m 13 85,m 14 86]) (Y [0,2,10,11,14,77,78])) (Q (Q (O [m 87 11,m 88 14,ar 89 .add 87 88,m 15 89]) (Y [0,2,10,11,15,77,78])) (Q (Q (O [m 90 0,m 91
 11,m 92 15,o 93 (.sls (t 90) (some (t 91)) (some (t 92))),k2 94 aS 10 93]) (Y [0,2,10,15,77,78])) (Q (O [m 95 2,k2 96
 aS 10 95]) (O [m 97 15,m 11 97])))))) (O [ad 98 78,m 78 98]))))
def vd:AC:=
 (Q (O [mc 8 (s [])]) (Q (Q (Q (O [m 16 1,m 17 2,ar 18 .eql 16 17,m 19 18,h 20 19 (.mv (t 3)),h 21 19 (.ar .eql (t 20) (i 0)),pt 22 19 21]) (Y [0,1,2,3,22])) (C 22 (Q (O [m
 23 0,m 8 23]) R) X)) (Q (Q (Q (O [m 24 0,m 25 1,k2 26 qz 24 25,m 9 26]) (Y [0,1,2,3,9])) (Q (O [m 27 9,ac 28 .eql 27 (i 0)]) (C 28 (Q (O [m 29 0,m 8 29]) R)
 (Q (Q (O [m 30 3,ac 31 .lss 30 (i 0),m 32 31,h 33 32 (.mv (t 9)),h 34 32 (.mv (t 3)),h 35 32 (.ar .lss (t 33) (t 34)),pt 36 32 35]) (Y [0,1,2,3,9,36])) (C 36 (O [m 37 9,
 m 3 37]) X))))) (Q (O [o 10 (.nw [.nilp,(.slice .nil 1 [])] bD)]) (Q (Q (O [m 38 0,lt 39 38,m 40 3,m 41 2,lt 42 41,m 43 1,lt 44 43,ar 45 .sub 42 44,ar 46
 .mul 40 45,ar 47 .add 39 46,k2 48 mw 10 47]) (Y [0,1,2,3,10])) (Q (O [mc 11 (i 0)]) (Q (Q (O [m 49 1,lt 50 49,ac 51 .gtr 50 (i 0)]) (C 51 (Q (O [m 52 3,
 mc 53 (i 0)]) (Q (.block 0 (lo [0,1,2,10,11,52,53] l6)) (Y [0,10,11]))) (Q (O [m 74 2,k2 75 aS 10 74]) (Q (O [m 76 3,ac 77 .sub
 76 (i 1),mc 78 (i 0)]) (Q (.block 2 (lo [0,2,10,11,77,78] DJ)) (Y [0,10,11])))))) (Q (Q (O [m 99 0,m 100 11,o 101 (.sls (t 99) (some (t 100)) none),k2
 102 aS 10 101]) (Y [10])) (Q (O [k1 103 c9 10,m 8 103]) R)))))))))
def j8:AFn:=⟨vd,104,[.t 8],.drop,[8],none⟩
theorem lI:qf j8 [.t 8] .drop:=⟨rfl,rfl,rfl⟩
def uf:AC:=
 (Q (O [o 5 (.nx (t 4)),ex 6 5 0]) (Q (C 6 X (.exit 0)) (.block 1 (ic 7 2 8))))
def ve:AC:=
 (Q (O [mc 2 (i 0)]) (Q (Q (O [m 3 0,o 4 (.rg (t 3))]) (Q (.block 0 (lo [2,4] uf)) (Y [2]))) (Q (O [m 9 2,m 2 9]) R)))
def nM:AFn:=⟨ve,10,[.t 2],.drop,[],none⟩
def uz:AC:=
 (Q (O [mc 2 (.c (.int .i32 0)),mc 3 (i 0)]) (Q (Q (Q (O [m 4 0,ac 5 .neq 4 (s []),m 6 5,g 7 6 (.mv (t 0)),g 8 6 (.ixs (t 7) (i 0)),g 9 6 (.ar .lss (t 8) (u 128)),pf 10 6 9])
 (Y [0,10])) (C 10 (Q (Q (O [m 11 0,o 12 (.ixs (t 11) (i 0)),o 13 (.cvi .i32 (t 12)),m 2 13,mc 3 (i 1)]) (Y [2,3])) R) (Q (O [m 15 0,k1 16
 sP 15,m 14 16,ex 17 14 0,ex 18 14 1,m 2 17,m 3 18]) (Y [2,3])))) R))
def nu:AFn:=⟨uz,19,[.t 2,.t 3],.drop,[],none⟩
def vO:AC:=
 (Q (Q (O [m 57 8,m 58 9,bl 59 57 58]) (C 59 X (.exit 1))) (.block 2 (Q (Q (Q (O [m 60 0,m 61 8,o 62 (.ixs (t 60) (t 61)),m 63 6,ar 64 .neq 62 63]) (Y [0,1,5,6,7,8,9,10,
 64])) (C 64 (Q (Q (O [m 65 0,m 66 8,ad 67 66,m 68 9,o 69 (.sls (t 65) (some (t 67)) (some (t 68))),m 70 6,k2 71 cV 69 70,m 11 71]) (Y [0,1,5,
 6,7,8,9,10,11])) (Q (Q (O [m 72 11,ac 73 .lss 72 (i 0)]) (C 73 (rt 4 (i (-1))) X)) (Q (O [m 74 8,m 75 11,ad 76 75,ar 77 .add 74 76,m 8 77]) (Y [0,1,5,6,7,8,9,
 10])))) X)) (Q (Q (Q (O [m 78 0,m 79 8,ad 80 79,o 81 (.ixs (t 78) (t 80)),m 82 7,ar 83 .eql 81 82,m 84 83,g 85 84 (.mv (t 0)),g 86 84 (.mv (t 8)),g 87 84 (.mv (t 8)),g 88
 84 (.mv (t 5)),g 89 84 (.ar .add (t 87) (t 88)),g 90 84 (.sls (t 85) (some (t 86)) (some (t 89))),g 91 84 (.mv (t 1)),g 92 84 (.ar .eql (t 90) (t 91)),pf 93 84 92]) (Y [0,1,
 5,6,7,8,9,10,93])) (C 93 (Q (O [m 94 8,m 4 94]) R) X)) (Q (ic 95 8 96) (Q (ic 97 10 98) (Q (Q (O [m 99 5,o 100 (.ld none (.c .unk)),ar 101 .leq 99 100,m 102 101,g 103 102
 (.mv (t 10)),g 104 102 (.mv (t 8)),⟨(some 105),(some (102,true)),(.call (.c (.fn (.func ya) [] [])) [(.t 104)])⟩,g 106 102 (.ar .gtr (t 103) (t 105)),
 pf 107 102 106]) (Y [0,1,5,6,7,8,9,10,107])) (C 107 (Q (Q (O [m 108 0,m 109 8,o 110 (.sls (t 108) (some (t 109)) none),m 111 1,k2 112 oQ 110
 111,m 12 112]) (Y [8,12])) (Q (Q (O [m 113 12,ac 114 .geq 113 (i 0)]) (C 114 (Q (Q (O [m 115 12,m 116 8,ar 117 .add 115 116,m 4 117]) (Y [4])) R) X)) (rt 4 (i (-1))))) (Q (Q
 (O [m 118 5,o 119 (.ld none (.c .unk)),ar 120 .gtr 118 119,m 121 120,g 122 121 (.mv (t 10)),g 123 121 (.mv (t 8)),g 124 121 (.sh .shr (t 123) (.c (.int .u64 4))),g 125 121
 (.ar .add (i 4) (t 124)),g 126 121 (.ar .geq (t 122) (t 125)),pf 127 121 126,m 128 127,g 129 128 (.mv (t 8)),g 130 128 (.mv (t 9)),g 131 128 (.ar .lss (t 129) (t 130)),pf 132
 128 131]) (Y [0,1,5,6,7,8,9,10,132])) (C 132 (Q (Q (O [m 133 0,m 134 8,o 135 (.sls (t 133) (some (t 134)) none),m 136 1,k2 137 re
 135 136,m 13 137]) (Y [8,13])) (Q (Q (O [m 138 13,ac 139 .lss 138 (i 0)]) (C 139 (rt 4 (i (-1))) X)) (Q (Q (O [m 140 8,m 141 13,ar 142 .add 140 141,m 4 142]) (Y [4])) R)))
 X))))))))))
def lW:AC:=
 (Q (O [mc 4 (i 0)]) (Q (O [m 14 1,lt 15 14,m 5 15]) (Q (.block 0 (Q (Q (O [m 17 5,ac 18 .eql 17 (i 0),m 19 18,h 20 19 (.mv (t 1)),h 21 19 (.mv (t 0)),h 22 19 (.ar .eql (t 20)
 (t 21)),pt 23 19 22,m 16 23]) (Y [0,1,5,16])) (C 16 (rt 4 (i 0)) (Q (O [m 25 5,ac 26 .eql 25 (i 1),m 24 26]) (C 24 (Q (Q (O [m 27 0,m 28 1,o 29 (.ixs (t 28) (i 0)),k2 30
 cV 27 29,m 4 30]) (Y [4])) R) (Q (Q (O [m 32 5,m 33 0,lt 34 33,ar 35 .geq 32 34,m 31 35]) (Y [0,1,5,31])) (C 31 (rt 4 (i (-1))) (Q (Q (O [m 37
 5,o 38 (.ld none (.c .unk)),ar 39 .leq 37 38,m 40 39,g 41 40 (.mv (t 0)),g 42 40 (.len .str (t 41)),g 43 40 (.ar .leq (t 42) (i 64)),pf 44 40 43,m 36 44]) (Y [0,1,5,36]))
 (C 36 (Q (Q (O [m 45 0,m 46 1,k2 47 oQ 45 46,m 4 47]) (Y [4])) R) X))))))))) (Q (O [m 48 1,o 49 (.ixs (t 48) (i 0)),m 6 49]) (Q (O [m 50 1,o 51
 (.ixs (t 50) (i 1)),m 7 51]) (Q (O [mc 8 (i 0)]) (Q (Q (O [m 52 0,lt 53 52,m 54 5,ar 55 .sub 53 54,ad 56 55,m 9 56]) (Y [0,1,5,6,7,8,9])) (Q (O [mc 10 (i 0)]) (Q (Q
 (.block 1 (lo [0,1,5,6,7,8,9,10] vO)) (Y [])) (rt 4 (i (-1))))))))))))
def iy:AFn:=⟨lW,143,[.t 4],.drop,[],none⟩
theorem qH:qf iy [.t 4] .drop:=⟨rfl,rfl,rfl⟩
def qh:AC:=
 (Q (Q (D [Pm 5 0,P (o 6 (.nc (t 5))),Pf 7 1 6,Wl 8 7,P (o 9 (.cap (t 8))),P (o 10 (.ar .mul (i 2) (t 9))),Pm 11 1,P (ar 12 .add 10 11),Pm 14 0,P (o 15 (.nc (t 14))),Pf 16
 1 15,Wl 17 16,W (ls 18 17),K (k1 13 dx 12),P (o 19 (.sll 1 (t 13) none (some (t 18)) none)),Pm 4 19]) (Y [0,4])) (Q (Q (O [m 20 4,m 21 0,o 22 (.nc
 (t 21)),fa 23 1 22,ld 24 23,o 25 (.cp 1 false (t 20) (t 24))]) (Y [0,4])) (Q (O [m 26 0,m 27 4,o 28 (.nc (t 26)),fa 29 1 28,n (.st 1 (t 29) (t 27))]) (Y []))))
def mF:AFn:=⟨qh,30,[],.keep,[],none⟩
theorem Bi:qf mF [] .keep:=⟨rfl,rfl,rfl⟩
def cT:AC:=
 (Q (O [bl 9 8 7]) (Q (C 9 X (.exit 0)) (Q (.block 1 (Q (O [m 10 8,m 5 10]) (Q (Q (O [m 11 1,m 12 0,m 13 5,ia 14 2 12 13,la 15 2 14,k 16 (t 11) [(t 15)]]) (Y [0,1,5,7,8,
 16])) (C 16 (Q (O [m 17 5,m 4 17]) R) X)))) (O [ad 18 8,m 8 18]))))
def gD:AC:=
 (Q (O [mc 4 (i 0)]) (Q (Q (O [m 6 0,ls 7 6,mc 8 (i 0)]) (Q (.block 0 (lo [0,1,7,8] cT)) (Y []))) (rt 4 (i (-1)))))
def bA:AFn:=⟨gD,19,[.t 4],.drop,[],none⟩
theorem gE:qf bA [.t 4] .drop:=⟨rfl,rfl,rfl⟩
def dG:AC:=
 (Q (Q (Q (O [m 10 9,m 11 2,lt 12 11,bl 13 10 12]) (Y [2,3,4,8,9,13])) (C 13 X (.exit 0))) (.block 1 (Q (Q (O [la 14 6 3,la 15 4 4,m 16 2,m 17 9,k 18 (f
 oR) [(t 14),(t 15),(t 16),(t 17)]]) (Y [2,3,4,8,9,18])) (C 18 (Q (Q (O [m 19 8,fa 20 1 4,ld 21 20,ar 22 .add 19 21,m 8 22]) (Y [2,3,4,8,9])) (Q
 (O [m 23 9,fa 24 0 4,ld 25 24,lt 26 25,ar 27 .add 23 26,m 9 27]) (Y [2,3,4,8,9]))) (Q (Q (O [m 28 8,m 29 2,m 30 9,m 31 9,ad 32 31,o 33 (.sls (t 29) (some (t 30)) (some
 (t 32))),ar 34 .add 28 33,m 8 34]) (Y [2,3,4,8,9])) (ic 35 9 36))))))
def pb:AC:=
 (Q (Q (O [o 3 (.bx ab (t 0)),o 4 (.bx cu (t 1)),mc 6 (s []),mc 7 F]) (Y [2,3,4])) (Q (O [mc 8 (s [])]) (Q (Q (O [mc 9 (i 0)]) (Q (.block 0 (lo [2,3,4,8,
 9] dG)) (Y [8]))) (Q (Q (O [m 37 8,m 38 8,lt 39 38,ac 40 .leq 39 (i 512),m 6 37,m 7 40]) (Y [6,7])) R))))
def jt:AFn:=⟨pb,41,[.t 6,.t 7],.drop,[],none⟩
theorem ju:qf jt [.t 6,.t 7] .drop:=⟨rfl,rfl,rfl⟩
def vP:AC:=
 (Q (O [o 3 (.bx dP (t 1)),mc 4 F]) (Q (Q (O [m 5 0,o 6 (.mf (.func pK) [] [(t 3)]),k2 7 bW 5 6,no 8 7,m 4 8]) (Y
 [4])) R))
def vQ:AFn:=⟨vP,9,[.t 4],.drop,[],none⟩
theorem Gj:qf vQ [.t 4] .drop:=⟨rfl,rfl,rfl⟩
def qi:AC:=
 (Q (O [o 3 (.bx aJ (t 0)),o 5 (.bx aR (t 2)),mc 6 (.c (.slice .nil 2 []))]) (Q (Q (D [Pf 7 0 3,Pf 8 3 7,Wl 9 8,Pm 10 1,P (ia 11 4 9 10),Pf 12 2 11,Wl
 13 12,Pf 14 3 5,Wl 15 14,E (k2 16 zl 13 15),Pm 6 16]) (Y [6])) R))
def qj:AFn:=⟨qi,17,[.t 6],.drop,[],none⟩
theorem Bj:qf qj [.t 6] .drop:=⟨rfl,rfl,rfl⟩
def j9:AC:=
 (Q (O [mc 4 (s []),mc 5 F]) (Q (Q (Q (O [m 6 0,m 7 1,k2 8 fe 6 7,no 9 8]) (Y [0,1,9])) (C 9 (Q (O [m 10 0,m 4 10,mc 5 F]) R) X)) (Q (Q (O [m 11
 0,m 12 1,lt 13 12,o 14 (.sls (t 11) (some (t 13)) none),m 4 14,mc 5 T]) (Y [4,5])) R)))
def ka:AFn:=⟨j9,15,[.t 4,.t 5],.drop,[],none⟩
theorem nN:qf ka [.t 4,.t 5] .drop:=⟨rfl,rfl,rfl⟩
def fO:AC:=
 (Q (Q (Q (O [m 14 7,m 15 1,ls 16 15,bl 17 14 16]) (Y [0,1,5,6,7,17])) (C 17 X (.exit 2))) (Q (.block 3 (Q (D [Pm 20 6,Pm 21 20,P (h 22 21 (.mv (t 0))),P (h 23 21 (.mv (t
 5))),P (h 24 21 (.ias 2 (t 22) (t 23))),W (h 25 21 (.ld (some 2) (t 24))),P (h 26 21 (.mv (t 1))),P (h 27 21 (.mv (t 7))),P (h 28 21 (.ias 2 (t 26) (t 27))),W (h 29 21 (.ld
 (some 2) (t 28))),P (h 30 21 (.eq false (.st [(0,.str),(1,.str)]) (t 25) (t 29))),P (pt 31 21 30),Pm 6 31]) (Y [0,1,5,6,7]))) (ic 18 7 19)))
def fP:AC:=
 (Q (Q (Q (O [m 8 5,m 9 0,ls 10 9,bl 11 8 10]) (Y [0,1,5,11])) (C 11 X (.exit 0))) (Q (Q (.block 1 (Q (O [mc 6 F]) (Q (Q (O [mc 7 (i 0)]) (Q (.block 2 (lo [0,1,5,6,7]
 fO)) (Y [0,1,5,6]))) (Q (O [m 32 6,no 33 32]) (C 33 (rt 4 F) X))))) (Y [0,1,5])) (ic 12 5 13)))
def om:AC:=
 (Q (O [mc 4 F]) (Q (Q (O [mc 5 (i 0)]) (Q (.block 0 (lo [0,1,5] fP)) (Y []))) (rt 4 T)))
def dV:AFn:=⟨om,34,[.t 4],.drop,[],none⟩
theorem ie:qf dV [.t 4] .drop:=⟨rfl,rfl,rfl⟩
def tj:AC:=
 (Q (O [mc 4 F]) (Q (Q (O [m 5 0,m 6 1,k2 7 fe 5 6,m 4 7]) (Y [4])) R))
def oB:AFn:=⟨tj,8,[.t 4],.drop,[],none⟩
theorem DK:qf oB [.t 4] .drop:=⟨rfl,rfl,rfl⟩
def jv:AC:=
 (Q (O [bl 13 12 11]) (Q (C 13 X (.exit 0)) (Q (.block 1 (Q (O [m 14 12,m 9 14]) (Q (Q (D [W (la 15 6 4),Pm 16 1,Pm 17 1,W (lt 18 17),P (ac 19 .sub 18 (i 1)),Pm 20 9,P (ar 21
 .sub 19 20),P (o 22 (.ixs (t 16) (t 21))),Pm 23 2,Pm 24 3,P (ac 25 .sub 24 (i 1)),Pm 26 9,P (ar 27 .sub 25 26),E (k 28 (f mz) [(t 15),(t 22),(t 23),(t
 27)]),P (no 29 28)]) (Y [1,2,3,4,11,12,29])) (C 29 (rt 8 F) X)))) (O [ad 30 12,m 12 30]))))
def rO:AC:=
 (Q (O [o 4 (.bx aJ (t 0)),mc 8 F]) (Q (Q (O [m 10 1,lt 11 10,mc 12 (i 0)]) (Q (.block 0 (lo [1,2,3,4,11,12] jv)) (Y []))) (rt 8 T)))
def gO:AFn:=⟨rO,31,[.t 8],.drop,[],none⟩
theorem rP:qf gO [.t 8] .drop:=⟨rfl,rfl,rfl⟩
def ig:AC:=
 (Q (O [bl 13 12 11]) (Q (C 13 X (.exit 0)) (Q (.block 1 (Q (O [m 14 12,m 9 14]) (Q (Q (D [W (la 15 6 4),Pm 16 1,Pm 17 9,P (o 18 (.ixs (t 16) (t 17))),Pm 19 2,Pm 20 3,Pm 21 9,
 P (ar 22 .add 20 21),E (k 23 (f mz) [(t 15),(t 18),(t 19),(t 22)]),P (no 24 23)]) (Y [1,2,3,4,11,12,24])) (C 24 (rt 8 F) X)))) (O [ad 25 12,m 12
 25]))))
def qk:AC:=
 (Q (O [o 4 (.bx aJ (t 0)),mc 8 F]) (Q (Q (O [m 10 1,lt 11 10,mc 12 (i 0)]) (Q (.block 0 (lo [1,2,3,4,11,12] ig)) (Y []))) (rt 8 T)))
def gg:AFn:=⟨qk,26,[.t 8],.drop,[],none⟩
theorem qm:qf gg [.t 8] .drop:=⟨rfl,rfl,rfl⟩
def sR:AC:=
 (Q (O [mc 2 (.c (.int .i32 0)),mc 3 (i 0)]) (Q (O [m 13 0,lt 14 13,m 4 14]) (Q (Q (O [m 15 4,ac 16 .lss 15 (i 1)]) (C 16 (Q (O [mc 2 (.c (.int .i32 65533)),mc 3 (i 0)]) R) X))
 (Q (O [m 17 0,o 18 (.ixs (t 17) (i 0)),m 5 18]) (Q (Q (O [m 19 5,o 20 (.iaa 256 1 (.c .unk) (t 19)),ld 21 20,m 6 21]) (Y [0,4,5,6])) (Q (Q (O [m 22 6,ac 23 .geq 22 (u
 240)]) (C 23 (Q (Q (O [m 24 6,o 25 (.cvi .i32 (t 24)),o 26 (.sh .shl (t 25) (.c (.int .u64 31))),o 27 (.sh .shr (t 26) (.c (.int .u64 31))),m 7 27]) (Y [0,7])) (Q (Q (O [m 28
 0,o 29 (.ixs (t 28) (i 0)),o 30 (.cvi .i32 (t 29)),m 31 7,o 32 (.an (t 30) (t 31)),m 33 7,o 34 (.ar .and (.c (.int .i32 65533)) (t 33)),ar 35 .or 32 34,m 2 35,mc 3 (i 1)])
 (Y [2,3])) R)) X)) (Q (Q (O [m 36 6,ac 37 .and 36 (u 7),o 38 (.cvi .i64 (t 37)),m 8 38]) (Y [0,4,5,6,8])) (Q (Q (O [m 39 6,o 40 (.sh .shr (t 39) (.c (.int .u64 4))),o 41
 (.iaa 16 2 (.c .unk) (t 40)),la 42 2 41,o 9 (.nw [(.int .u8 0),(.int .u8 0)] El),n (.st 2 (t 9) (t 42))]) (Y [0,4,5,8,9])) (Q (Q (O [m 43 4,m 44 8,bl 45 43
 44]) (C 45 (Q (O [mc 2 (.c (.int .i32 65533)),mc 3 (i 1)]) R) X)) (Q (O [m 46 0,o 47 (.ixs (t 46) (i 1)),m 10 47]) (Q (Q (Q (O [m 48 10,fa 49 0 9,ld 50 49,bl 51 48 50,m 52
 51,h 53 52 (.fa 1 (t 9)),h 54 52 (.ld none (t 53)),h 55 52 (.mv (t 10)),h 56 52 (.ar .lss (t 54) (t 55)),pt 57 52 56]) (Y [0,5,8,10,57])) (C 57 (Q (O [mc 2 (.c (.int .i32
 65533)),mc 3 (i 1)]) R) X)) (Q (Q (O [m 58 8,ac 59 .leq 58 (i 2)]) (C 59 (Q (Q (O [m 60 5,ac 61 .and 60 (u 31),o 62 (.cvi .i32 (t 61)),o 63 (.sh .shl (t 62) (.c (.int .u64
 6))),m 64 10,ac 65 .and 64 (u 63),o 66 (.cvi .i32 (t 65)),ar 67 .or 63 66,m 2 67,mc 3 (i 2)]) (Y [2,3])) R) X)) (Q (O [m 68 0,o 69 (.ixs (t 68) (i 2)),m 11 69]) (Q (Q (Q (O
 [m 70 11,ac 71 .lss 70 (u 128),m 72 71,h 73 72 (.mv (t 11)),h 74 72 (.ar .lss (u 191) (t 73)),pt 75 72 74]) (Y [0,5,8,10,11,75])) (C 75 (Q (O [mc 2 (.c (.int .i32 65533)),
 mc 3 (i 1)]) R) X)) (Q (Q (O [m 76 8,ac 77 .leq 76 (i 3)]) (C 77 (Q (Q (O [m 78 5,ac 79 .and 78 (u 15),o 80 (.cvi .i32 (t 79)),o 81 (.sh .shl (t 80) (.c (.int .u64 12))),m 82
 10,ac 83 .and 82 (u 63),o 84 (.cvi .i32 (t 83)),o 85 (.sh .shl (t 84) (.c (.int .u64 6))),ar 86 .or 81 85,m 87 11,ac 88 .and 87 (u 63),o 89 (.cvi .i32 (t 88)),ar 90 .or 86
 89,m 2 90,mc 3 (i 3)]) (Y [2,3])) R) X)) (Q (O [m 91 0,o 92 (.ixs (t 91) (i 3)),m 12 92]) (Q (Q (Q (O [m 93 12,ac 94 .lss 93 (u 128),m 95 94,h 96 95 (.mv (t 12)),h 97 95
 (.ar .lss (u 191) (t 96)),pt 98 95 97]) (Y [5,10,11,12,98])) (C 98 (Q (O [mc 2 (.c (.int .i32 65533)),mc 3 (i 1)]) R) X)) (Q (Q (O [m 99 5,ac 100 .and 99 (u 7),o 101 (.cvi
 .i32 (t 100)),o 102 (.sh .shl (t 101) (.c (.int .u64 18))),m 103 10,ac 104 .and 103 (u 63),o 105 (.cvi .i32 (t 104)),o 106 (.sh .shl (t 105) (.c (.int .u64 12))),ar 107 .or
 102 106,m 108 11,ac 109 .and 108 (u 63),o 110 (.cvi .i32 (t 109)),o 111 (.sh .shl (t 110) (.c (.int .u64 6))),ar 112 .or 107 111,m 113 12,ac 114 .and 113 (u 63),o 115 (.cvi
 .i32 (t 114)),ar 116 .or 112 115,m 2 116,mc 3 (i 4)]) (Y [2,3])) R))))))))))))))))))
def lJ:AFn:=⟨sR,117,[.t 2,.t 3],.drop,[],none⟩
def dM:AC:=
 (Q (O [mc 4 (i 0)]) (Q (Q (O [m 5 0,m 6 1,k2 7 dm 5 6,m 4 7]) (Y [4])) R))
def fi:AFn:=⟨dM,8,[.t 4],.drop,[],none⟩
theorem nO:qf fi [.t 4] .drop:=⟨rfl,rfl,rfl⟩
def ym:AC:=
 (Q (O [mc 2 (i 0)]) (Q (Q (O [m 3 0,ac 4 .add 3 (i 16),ac 5 .quo 4 (i 8),m 2 5]) (Y [2])) R))
def sF:AFn:=⟨ym,6,[.t 2],.drop,[],none⟩
def qn:AC:=
 (Q (Q (O [m 18 9,m 19 7,bl 20 18 19]) (C 20 X (.exit 0))) (Q (.block 1 (Q (O [m 23 8,o 24 (.ar .mul (t 23) (.c (.int .u32 16777619))),m 25 0,m 26 9,o 27 (.ixs (t 25) (t 26)),
 o 28 (.cvi .u32 (t 27)),ar 29 .add 24 28,m 8 29]) (Y [0,1,5,6,7,8,9]))) (ic 21 9 22)))
def qo:AC:=
 (Q (Q (Q (O [m 41 10,m 42 0,lt 43 42,bl 44 41 43]) (Y [0,1,5,6,7,8,10,44])) (C 44 X (.exit 2))) (.block 3 (Q (O [m 45 8,o 46 (.ar .mul (t 45) (.c (.int .u32 16777619))),
 m 8 46]) (Q (Q (O [m 47 8,m 48 0,m 49 10,o 50 (.ixs (t 48) (t 49)),o 51 (.cvi .u32 (t 50)),ar 52 .add 47 51,m 8 52]) (Y [0,1,5,6,7,8,10])) (Q (Q (O [m 53 8,m 54 6,m 55
 0,m 56 10,m 57 7,ar 58 .sub 56 57,o 59 (.ixs (t 55) (t 58)),o 60 (.cvi .u32 (t 59)),ar 61 .mul 54 60,ar 62 .sub 53 61,m 8 62]) (Y [0,1,5,6,7,8,10])) (Q (ic 63 10 64)
 (Q (Q (O [m 65 8,m 66 5,ar 67 .eql 65 66,m 68 67,g 69 68 (.mv (t 0)),g 70 68 (.mv (t 10)),g 71 68 (.mv (t 7)),g 72 68 (.ar .sub (t 70) (t 71)),g 73 68 (.mv (t 10)),g 74 68
 (.sls (t 69) (some (t 72)) (some (t 73))),g 75 68 (.mv (t 1)),g 76 68 (.ar .eql (t 74) (t 75)),pf 77 68 76]) (Y [0,1,5,6,7,8,10,77])) (C 77 (Q (Q (O [m 78 10,m 79 7,ar
 80 .sub 78 79,m 4 80]) (Y [4])) R) X))))))))
def rQ:AC:=
 (Q (O [mc 4 (i 0)]) (Q (Q (O [m 12 1,k1 13 uy 12,m 11 13,ex 14 11 0,ex 15 11 1,m 5 14,m 6 15]) (Y [0,1,5,6])) (Q (O [m 16 1,lt 17 16,m 7
 17]) (Q (O [mc 8 (.c (.int .u32 0))]) (Q (Q (O [mc 9 (i 0)]) (Q (.block 0 (lo [0,1,5,6,7,8,9] qn)) (Y [0,1,5,6,7,8]))) (Q (Q (Q (O
 [m 30 8,m 31 5,ar 32 .eql 30 31,m 33 32,g 34 33 (.mv (t 0)),g 35 33 (.mv (t 7)),g 36 33 (.sls (t 34) none (some (t 35))),g 37 33 (.mv (t 1)),g 38 33 (.ar .eql (t 36) (t
 37)),pf 39 33 38]) (Y [0,1,5,6,7,8,39])) (C 39 (rt 4 (i 0)) X)) (Q (Q (O [m 40 7,m 10 40]) (Q (.block 2 (lo [0,1,5,6,7,8,10]
 qo)) (Y []))) (rt 4 (i (-1))))))))))
def kE:AFn:=⟨rQ,81,[.t 4],.drop,[],none⟩
def gr:AC:=
 (Q (Q (Q (O [m 32 9,fa 33 2 5,ld 34 33,lt 35 34,bl 36 32 35]) (Y [2,3,4,5,9,36])) (C 36 X (.exit 0))) (Q (.block 1 (Q (Q (D [W (la 39 6 4),Pf 40 2 5,Wl 41 40,Pf 42 2 5,
 Wl 43 42,W (lt 44 43),P (ac 45 .sub 44 (i 1)),Pm 46 9,P (ar 47 .sub 45 46),P (o 48 (.ixs (t 41) (t 47))),Pm 49 2,Pm 50 3,P (ac 51 .sub 50 (i 1)),Pm 52 9,P (ar 53 .sub 51
 52),E (k 54 (f lB) [(t 39),(t 48),(t 49),(t 53)]),P (no 55 54)]) (Y [2,3,4,5,9,55])) (C 55 (rt 8 F) X))) (ic 37 9 38)))
def gu:AC:=
 (Q (Q (Q (O [m 56 10,fa 57 3 5,ld 58 57,lt 59 58,bl 60 56 59]) (Y [2,3,4,5,10,60])) (C 60 X (.exit 2))) (Q (.block 3 (Q (Q (D [W (la 63 6 4),Pf 64 3 5,Wl 65 64,Pm 66 10,
 P (o 67 (.ixs (t 65) (t 66))),Pm 68 2,Pm 69 3,Pf 70 0 5,Wl 71 70,W (lt 72 71),P (ar 73 .add 69 72),Pm 74 10,P (ar 75 .add 73 74),E (k 76 (f lB) [(t
 63),(t 67),(t 68),(t 75)]),P (no 77 76)]) (Y [2,3,4,5,10,77])) (C 77 (rt 8 F) X))) (ic 61 10 62)))
def pd:AC:=
 (Q (O [o 4 (.bx ab (t 0)),o 5 (.bx cu (t 1)),mc 8 F]) (Q (Q (Q (D [Pm 11 3,Pf 12 0 5,Wl 13 12,W (lt 14 13),P (ar 15 .add 11 14),Pm 16 2,W (lt 17 16),P
 (ar 18 .gtr 15 17),Pm 19 18,P (h 20 19 (.mv (t 2))),P (h 21 19 (.mv (t 3))),P (h 22 19 (.mv (t 3))),P (h 23 19 (.fa 0 (t 5))),W (h 24 19 (.ld none (t 23))),W (h 25 19 (.len
 .str (t 24))),P (h 26 19 (.ar .add (t 22) (t 25))),P (h 27 19 (.sls (t 20) (some (t 21)) (some (t 26)))),P (h 28 19 (.fa 0 (t 5))),W (h 29 19 (.ld none (t 28))),P (h 30 19 (.ar
 .neq (t 27) (t 29))),P (pt 31 19 30)]) (Y [2,3,4,5,31])) (C 31 (rt 8 F) X)) (Q (Q (O [mc 9 (i 0)]) (Q (.block 0 (lo [2,3,4,5,9] gr)) (Y [2,3,4,
 5]))) (Q (Q (O [mc 10 (i 0)]) (Q (.block 2 (lo [2,3,4,5,10] gu)) (Y []))) (rt 8 T)))))
def ei:AFn:=⟨pd,78,[.t 8],.drop,[],none⟩
theorem fu:qf ei [.t 8] .drop:=⟨rfl,rfl,rfl⟩
def ug:AC:=
 (Q (O [o 2 (.bx aU (t 0)),mc 3 F]) (Q (Q (O [ld 4 1,la 5 2 2,k2 6 gR 4 5,no 7 6,m 3 7]) (Y [3])) R))
def uh:AFn:=⟨ug,8,[.t 3],.drop,[],none⟩
theorem Em:qf uh [.t 3] .drop:=⟨rfl,rfl,rfl⟩
def ij:AC:=
 (Q (O [o 3 (.bx aU (t 1)),mc 4 F]) (Q (Q (O [m 5 0,la 6 2 3,k2 7 jL 5 6,ac 8 .geq 7 (i 0),m 4 8]) (Y [4])) R))
def ik:AFn:=⟨ij,9,[.t 4],.drop,[],none⟩
theorem tz:qf ik [.t 4] .drop:=⟨rfl,rfl,rfl⟩
def zy:AC:=
 (Q (O [mc 4 (.c (.slice .nil 2 []))]) (Q (Q (O [m 6 0,m 7 1,o 8 (.bs 1 [(.slice .nil 0 [])] 2 [(0,(t 6)),(1,(t 7))]),k1 9 eP 8,m 5 9]) (Y [5]))
 (Q (O [m 10 5,k 11 (f bk) [(t 10),(f iv)]]) (Q (O [m 12 5,k1 13 ep 12,m 4 13]) R))))
def zA:AFn:=⟨zy,14,[.t 4],.frz,[],none⟩
theorem D6:qf zA [.t 4] .frz:=⟨rfl,rfl,rfl⟩
def kb:AC:=
 (Q (O [mc 4 F]) (Q (Q (O [m 5 0,lt 6 5,m 7 1,lt 8 7,ar 9 .geq 6 8,m 10 9,g 11 10 (.mv (t 0)),g 12 10 (.mv (t 1)),g 13 10 (.len .str (t 12)),g 14 10 (.sls (t 11) none (some
 (t 13))),g 15 10 (.mv (t 1)),g 16 10 (.ar .eql (t 14) (t 15)),pf 17 10 16,m 4 17]) (Y [4])) R))
def fj:AFn:=⟨kb,18,[.t 4],.drop,[],none⟩
theorem nP:qf fj [.t 4] .drop:=⟨rfl,rfl,rfl⟩
def qp:AC:=
 (Q (O [o 4 (.bx aJ (t 0)),mc 8 F]) (Q (Q (Q (O [m 11 3,ac 12 .lss 11 (i 0),m 13 12,h 14 13 (.mv (t 3)),h 15 13 (.mv (t 2)),h 16 13 (.len .str (t 15)),h 17 13
 (.ar .geq (t 14) (t 16)),pt 18 13 17]) (Y [1,2,3,4,18])) (C 18 (Q (Q (O [m 19 1,ac 20 .eql 19 (u 35),m 21 20,g 22 21 (.mv (t 3)),g 23 21 (.ar .eql (t 22) (i (-1))),g 24 21
 (.mv (t 23)),h 25 24 (.mv (t 3)),h 26 24 (.mv (t 2)),h 27 24 (.len .str (t 26)),h 28 24 (.ar .eql (t 25) (t 27)),g 29 21 (.pk (t 24) T (t 28)),pf 30 21 29,m 8 30]) (Y [8]))
 R) X)) (Q (Q (O [m 31 2,m 32 3,o 33 (.ixs (t 31) (t 32)),m 9 33]) (Y [1,4,9])) (Q (Q (O [fa 34 0 4,fa 35 0 34,ld 36 35,m 37 9,k2 38 td 36 37,ac 39 .geq 38
 (i 0),m 10 39]) (Y [1,9,10])) (Q (Q (O [m 40 1]) (.block 0 (Q (.block 2 (Q (.block 1 (Q (Q (Q (O [ac 42 .eql 40 (u 67),m 41 42]) (C 41 (.exit 1) X)) (Q (O [ac 44 .eql 40 (u 86),
 m 43 44]) (C 43 (.exit 2) X))) (.exit 0))) (O [m 45 10,no 46 45,m 10 46]))) (Q (Q (Q (O [m 47 9,k1 48 cO 47,m 49 48,g 50 49 (.mv (t 10)),pf 51 49 50,m 8 51]) (Y
 [8])) R) (.exit 0))))) (Q (Q (O [m 52 1,m 53 9,ar 54 .eql 52 53,m 8 54]) (Y [8])) R))))))
def mG:AFn:=⟨qp,55,[.t 8],.drop,[],none⟩
theorem qq:qf mG [.t 8] .drop:=⟨rfl,rfl,rfl⟩
def tA:AC:=
 (Q (Q (Q (O [m 9 5,m 10 0,lt 11 10,bl 12 9 11]) (Y [0,4,5,12])) (C 12 X (.exit 0))) (Q (.block 1 (Q (O [m 15 4,o 16 (.ar .mul (t 15) (.c (.int .u32 16777619))),m 17 0,m 18
 5,o 19 (.ixs (t 17) (t 18)),o 20 (.cvi .u32 (t 19)),ar 21 .add 16 20,m 4 21]) (Y [0,4,5]))) (ic 13 5 14)))
def tB:AC:=
 (Q (Q (O [m 24 8,ac 25 .gtr 24 (i 0)]) (C 25 X (.exit 2))) (Q (.block 3 (Q (Q (O [m 28 8,ac 29 .and 28 (i 1),ac 30 .neq 29 (i 0)]) (C 30 (Q (O [m 31 6,m 32 7,ar 33 .mul 31 32,
 m 6 33]) (Y [4,6,7,8])) X)) (Q (O [m 34 7,m 35 7,ar 36 .mul 34 35,m 7 36]) (Y [4,6,7,8])))) (O [m 26 8,o 27 (.sh .shr (t 26) (.c (.int .u64 1))),m 8 27])))
def uA:AC:=
 (Q (O [mc 2 (.c (.int .u32 0)),mc 3 (.c (.int .u32 0))]) (Q (O [mc 4 (.c (.int .u32 0))]) (Q (Q (O [mc 5 (i 0)]) (Q (.block 0 (lo [0,4,5] tA)) (Y
 [0,4]))) (Q (O [mc 6 (.c (.int .u32 1)),mc 7 (.c (.int .u32 16777619))]) (Q (Q (O [m 22 0,lt 23 22,m 8 23]) (Q (.block 2 (lo [4,6,7,8] tB))
 (Y [4,6]))) (Q (Q (O [m 37 4,m 38 6,m 2 37,m 3 38]) (Y [2,3])) R))))))
def nv:AFn:=⟨uA,39,[.t 2,.t 3],.drop,[],none⟩
def gv:AC:=
 (Q (Q (Q (O [m 31 10,fa 32 0 4,ld 33 32,lt 34 33,bl 35 31 34]) (Y [1,2,3,4,9,10,35])) (C 35 X (.exit 0))) (Q (.block 1 (Q (D [Pm 38 9,Pm 39 38,P (h 40 39 (.fa 0 (t 4))),
 W (h 41 39 (.ld none (t 40))),P (h 42 39 (.mv (t 10))),P (h 43 39 (.ixs (t 41) (t 42))),P (h 44 39 (.mv (t 2))),P (h 45 39 (.mv (t 3))),P (h 46 39 (.ixs (t 44) (t 45))),P (h
 47 39 (.ar .eql (t 43) (t 46))),P (pt 48 39 47),Pm 9 48]) (Y [1,2,3,4,9,10]))) (ic 36 10 37)))
def pg:AC:=
 (Q (O [o 4 (.bx ab (t 0)),mc 8 F]) (Q (Q (Q (O [m 11 3,ac 12 .lss 11 (i 0),m 13 12,h 14 13 (.mv (t 3)),h 15 13 (.mv (t 2)),h 16 13 (.len .str (t 15)),h 17 13 (.ar
 .geq (t 14) (t 16)),pt 18 13 17]) (Y [1,2,3,4,18])) (C 18 (Q (Q (O [m 19 1,ac 20 .eql 19 (u 35),m 21 20,g 22 21 (.mv (t 3)),g 23 21 (.ar .eql (t 22) (i (-1))),g 24 21 (.mv
 (t 23)),h 25 24 (.mv (t 3)),h 26 24 (.mv (t 2)),h 27 24 (.len .str (t 26)),h 28 24 (.ar .eql (t 25) (t 27)),g 29 21 (.pk (t 24) T (t 28)),pf 30 21 29,m 8 30]) (Y [8])) R) X))
 (Q (O [mc 9 F]) (Q (Q (O [mc 10 (i 0)]) (Q (.block 0 (lo [1,2,3,4,9,10] gv)) (Y [1,2,3,9]))) (Q (Q (O [m 49 1]) (.block 2 (Q (O [ac 51 .eql 49 (u 86),
 m 50 51]) (C 50 (Q (O [m 52 9,m 8 52]) R) (Q (O [ac 54 .eql 49 (u 67),m 53 54]) (C 53 (Q (Q (O [m 55 2,m 56 3,o 57 (.ixs (t 55) (t 56)),k1 58 fW 57,m 59
 58,g 60 59 (.mv (t 9)),g 61 59 (.un .not (t 60)),pf 62 59 61,m 8 62]) (Y [8])) R) X)))))) (Q (Q (O [m 63 1,m 64 2,m 65 3,o 66 (.ixs (t 64) (t 65)),ar 67 .eql 63 66,m 8 67])
 (Y [8])) R))))))
def jw:AFn:=⟨pg,68,[.t 8],.drop,[],none⟩
theorem jx:qf jw [.t 8] .drop:=⟨rfl,rfl,rfl⟩
def dq:AC:=
 (Q (O [bl 9 8 7]) (Q (C 9 X (.exit 0)) (Q (.block 1 (Q (O [m 10 8,m 5 10]) (Q (Q (D [W (la 11 2 3),Pm 12 0,Pm 13 5,P (ia 14 2 12 13),W (la 15 2 14),P (o 16 (.eq false (.st
 [(0,.str),(1,.str)]) (t 11) (t 15)))]) (Y [0,3,5,7,8,16])) (C 16 (Q (O [m 17 5,m 4 17]) R) X)))) (O [ad 18 8,m 8 18]))))
def kd:AC:=
 (Q (O [o 3 (.bx aU (t 1)),mc 4 (i 0)]) (Q (Q (O [m 6 0,ls 7 6,mc 8 (i 0)]) (Q (.block 0 (lo [0,3,7,8] dq)) (Y []))) (rt 4 (i (-1)))))
def dN:AFn:=⟨kd,19,[.t 4],.drop,[],none⟩
theorem kf:qf dN [.t 4] .drop:=⟨rfl,rfl,rfl⟩
def il:AC:=
 (Q (O [bl 12 11 10]) (Q (C 12 X (.exit 0)) (Q (.block 1 (Q (O [ia 13 1 9 11,ld 14 13,m 5 14]) (Q (Q (O [m 15 3,m 16 5,ls 17 16,ar 18 .add 15 17,m 3 18]) (Y [0,3,9,10,11]))
 (Q (O [m 19 3,ac 20 .lss 19 (i 0)]) (C 20 (O [o 21 (.mi a8 (s [108,101,110,32,111,117,116,32,111,102,32,114,97,110,103,101])),⟨none,none,(.panic (.t 21))⟩])
 X))))) (O [ad 22 11,m 11 22]))))
def im:AC:=
 (Q (O [bl 28 27 26]) (Q (C 28 X (.exit 2)) (Q (.block 3 (Q (O [ia 29 1 25 27,ld 30 29,m 8 30]) (Q (O [m 31 6,m 32 8,o 33 (.ap true aU 2 32 false (t 31) (t 32)),m 6 33])
 (Y [6,25,26,27])))) (O [ad 34 27,m 27 34]))))
def dB:AC:=
 (Q (O [mc 2 (.c (.slice .nil 2 []))]) (Q (O [mc 3 (i 0)]) (Q (Q (O [m 9 0,ls 10 9,mc 11 (i 0)]) (Q (.block 0 (lo [0,3,9,10,11] il)) (Y [0,
 3]))) (Q (O [m 23 3,k 24 (f fy) [(.c (.slice .nil 2 [])),(t 23)],m 6 24]) (Q (Q (O [m 25 0,ls 26 25,mc 27 (i 0)]) (Q (.block 2 (lo [6,25,26,27]
 im)) (Y [6]))) (Q (O [m 35 6,m 2 35]) R))))))
def jD:AFn:=⟨dB,36,[.t 2],.keep,[13],none⟩
theorem ny:qf jD [.t 2] .keep:=⟨rfl,rfl,rfl⟩
def H7:AC:=
 (Q (O [o 2 (.bx aU (t 0)),o 3 (.bx aU (t 1)),mc 4 (i 0)]) (Q (Q (O [fa 5 0 2,ld 6 5,fa 7 0 3,ld 8 7,k2 9 Fq 6 8,m 4 9]) (Y [4])) R))
def H8:AFn:=⟨H7,10,[.t 4],.drop,[],none⟩
def Fx:AC:=
 (Q (O [mc 4 (i 0)]) (Q (Q (O [m 5 0,m 6 1,k2 7 u0 5 6,m 4 7]) (Y [4])) R))
def Fy:AFn:=⟨Fx,8,[.t 4],.drop,[],none⟩
def cj:AC:=
 (Q (Q (Q (O [m 29 5,m 30 4,ls 31 30,bl 32 29 31]) (Y [0,3,4,5,32])) (C 32 X (.exit 2))) (Q (.block 3 (Q (Q (D [Pm 35 4,Pm 36 5,P (ia 37 2 35 36),W (la 38 2 37),Pm 39 4,
 Pm 40 5,P (ac 41 .sub 40 (i 1)),P (ia 42 2 39 41),W (la 43 2 42),P (o 44 (.eq true (.st [(0,.str),(1,.str)]) (t 38) (t 43)))]) (Y [0,3,4,5,44])) (C 44 (Q (Q (O [m 45 0,m
 46 3,m 47 4,m 48 5,ia 49 2 47 48,la 50 2 49,ia 51 2 45 46,n (.st 2 (t 51) (t 50))]) (Y [0,3,4,5])) (ic 52 3 53)) X))) (ic 33 5 34)))
def cq:AC:=
 (Q (Q (Q (O [m 10 3,m 11 0,ls 12 11,bl 13 10 12]) (Y [0,3,13])) (C 13 X (.exit 0))) (Q (Q (.block 1 (Q (Q (D [Pm 16 0,Pm 17 3,P (ia 18 2 16 17),W (la 19 2 18),Pm 20 0,Pm
 21 3,P (ac 22 .sub 21 (i 1)),P (ia 23 2 20 22),W (la 24 2 23),P (o 25 (.eq false (.st [(0,.str),(1,.str)]) (t 19) (t 24)))]) (Y [0,3,25])) (C 25 (Q (Q (O [m 26 0,m 27 3,o
 28 (.sll 2 (t 26) (some (t 27)) none none),m 4 28]) (Y [0,3,4])) (Q (Q (O [mc 5 (i 1)]) (Q (.block 2 (lo [0,3,4,5] cj)) (Y [0,3]))) (Q (Q (O
 [m 54 0,m 55 3,o 56 (.sll 2 (t 54) (some (t 55)) none none),n (.cl 2 [(.str []),(.str [])] (t 56))]) (Y [0,3])) (Q (Q (O [m 57 0,m 58 3,o 59 (.sll 2 (t 57) none (some (t 58))
 none),m 2 59]) (Y [2])) R)))) X))) (Y [0,3])) (ic 14 3 15)))
def bZ:AC:=
 (Q (O [mc 2 (.c (.slice .nil 2 []))]) (Q (Q (O [m 6 0,ls 7 6,ac 8 .lss 7 (i 2)]) (C 8 (Q (O [m 9 0,m 2 9]) R) X)) (Q (Q (O [mc 3 (i 1)]) (Q (.block 0 (lo [0,3]
 cq)) (Y [0]))) (Q (O [m 60 0,m 2 60]) R))))
def bq:AFn:=⟨bZ,61,[.t 2],.drop,[],none⟩
theorem bf:qf bq [.t 2] .drop:=⟨rfl,rfl,rfl⟩
def tk:AC:=
 (Q (O [mc 4 (i 0)]) (Q (Q (O [m 5 0,m 6 1,k2 7 cV 5 6,m 4 7]) (Y [4])) R))
def oD:AFn:=⟨tk,8,[.t 4],.drop,[],none⟩
theorem DL:qf oD [.t 4] .drop:=⟨rfl,rfl,rfl⟩
def dX:AC:=
 (Q (O [mc 4 (.c (.slice .nil 2 []))]) (Q (Q (O [m 5 1,ac 6 .lss 5 (i 0)]) (C 6 (O [o 7 (.mi a8 (s [99,97,110,110,111,116,32,98,101,32,110,101,103,97,116,105,
 118,101])),⟨none,none,(.panic (.t 7))⟩]) X)) (Q (Q (Q (O [m 8 1,m 9 0,o 10 (.cap (t 9)),m 11 0,ls 12 11,ar 13 .sub 10 12,ar 14 .sub 8 13,m 1 14]) (Y [0,1])) (Q (O [m 15
 1,ac 16 .gtr 15 (i 0)]) (C 16 (Q (O [m 17 0,m 18 0,o 19 (.cap (t 18)),o 20 (.sll 2 (t 17) none (some (t 19)) none),m 21 1,o 22 (.apz aU 2 32 [(.str []),(.str [])] (t
 20) (t 21)),m 23 0,ls 24 23,o 25 (.sll 2 (t 22) none (some (t 24)) none),m 0 25]) (Y [0])) X))) (Q (O [m 26 0,m 4 26]) R))))
def kp:AFn:=⟨dX,27,[.t 4],.keep,[],none⟩
theorem ot:qf kp [.t 4] .keep:=⟨rfl,rfl,rfl⟩
def vf:AC:=
 (Q (O [mc 4 (i 0)]) (Q (Q (O [m 5 0,m 6 1,k2 7 po 5 6,m 4 7]) (Y [4])) R))
def vg:AFn:=⟨vf,8,[.t 4],.drop,[],none⟩
end Go.Am
end
