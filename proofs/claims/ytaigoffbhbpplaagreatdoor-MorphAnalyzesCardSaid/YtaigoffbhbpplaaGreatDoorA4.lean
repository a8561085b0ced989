import Derived.Test.YtaigoffbhbpplaaGreatDoorA3
import Derived.Carry
import Derived.Deep.Slices
import Derived.DataReads
/-
  Part 4 of the tool: an abstract machine over the model, proved sound, and what it says of the functions that the law reaches. Condition: none but those that each theorem names.
-/
set_option linter.unusedVariables false
set_option linter.unusedSimpArgs false
section
namespace Go.Am
structure wc where
 f:FuncId
 args:List AV
 heap:List AObj
 v:AV
def dd(n:Nat)(l:List AObj):List AObj:=List.replicate n .dead++l
def V7(f:FuncId)(args:List AV)(H:List AObj):List wc→Option AV
 |[]=>none
 |p::ps=>bif Nat.beq f p.f&&AV.eqbL args p.args&&NU p.heap H then some p.v else V7 f args H ps
def pin(f:FuncId):List wc→Bool
 |[]=>false
 |p::ps=>bif Nat.beq f p.f then true else pin f ps
def wc.Ok(P:Program)(G:Nat→Option (List AV))(p:wc):Prop:=∀ H2,NU p.heap H2=true→eV P G p.f p.args H2 fun r H'=>r = .ret p.v∧H'=H2
def E1of(E0:bz):bz := { E0 with wo:=woK E0 100000 }
def acF(E0:bz)(ps:List wc)(f:FuncId)(args:List AV)(H:List AObj):Option Out:=
 match V7 f args H ps with
 |some v=>some (.ret v,H)
 |none=>bif pin f ps then F5 aaS (E1of E0) 100000 f args H else E0.orc f args H
def EPo(E0:bz)(ps:List wc):bz := { E0 with fn:=fun f=>bif pin f ps then none else E0.fn f,orc:=acF E0 ps }
def EP(E0:bz)(ps:List wc):bz := { EPo E0 ps with wo:=woK (EPo E0 ps) 100000 }
theorem SV{P:Program}{G:Nat→Option (List AV)}{f:FuncId}{args:List AV}{H:List AObj}{v:AV}:∀ {ps:List wc},(∀ p∈ps,p.Ok P G)→V7 f args H ps=some v→eV P G f args H fun r H'=>r = .ret v∧H'=H
 |[],_,h=>by cases h
 |p::ps,hp,h=>by
  unfold V7 at h
  cases hb:(Nat.beq f p.f&&AV.eqbL args p.args&&NU p.heap H) with
  |true=>
   rw [hb] at h;cases h
   simp only [Bool.and_eq_true] at hb
   rw [Nat.eq_of_beq_eq_true hb.1.1,AV.eqbL_eq hb.1.2]
   exact hp p (by simp) H hb.2
  |false=>rw [hb] at h;exact SV (fun q hq=>hp q (by simp [hq])) h
section
variable{E0:bz}(h0:E0.Ok)(hG:∀ n g cs,E0.G g=some cs→wkbL n cs=true)
include h0 hG in
theorem aa4:(E1of E0).Ok:=⟨h0.mixed,h0.fn,h0.dfn,fun _ _ _ _ _ h=>Y6 h0 hG h,h0.orc,h0.meth,h0.seq⟩
include h0 hG in
theorem acG{ps:List wc}(hp:∀ p∈ps,p.Ok E0.P E0.G)(hw:∀ f args H,E0.wo f args H=none):(EPo E0 ps).Ok:=⟨h0.mixed,fun f af h=>by
  have h':(bif pin f ps then none else E0.fn f)=some af:=h
  cases hb:pin f ps with
  |true=>rw [hb] at h';cases h'
  |false=>rw [hb] at h';exact h0.fn f af h',h0.dfn,(fun f args H v L h=>by
  have h':E0.wo f args H=some (v,L):=h
  rw [hw] at h';cases h'),fun f args H r H' h=>by
  have h':acF E0 ps f args H=some (r,H'):=h
  unfold acF at h'
  split at h'
  ·rename_i v hv
   cases h'
   exact SV hp hv
  ·cases hb:pin f ps with
   |true=>
    rw [hb] at h'
    exact ((Da (aa4 h0 hG) 100000).2 _ _ _ _ _ h').mono fun r H' e=>e
   |false=>rw [hb] at h';exact h0.orc _ _ _ _ _ h',h0.meth,h0.seq⟩
include h0 hG in
theorem ab5{ps:List wc}(hp:∀ p∈ps,p.Ok E0.P E0.G)(hw:∀ f args H,E0.wo f args H=none):(EP E0 ps).Ok:=
 have h:=acG h0 hG hp hw
 ⟨h.mixed,h.fn,h.dfn,fun _ _ _ _ _ e=>Y6 h hG e,h.orc,h.meth,h.seq⟩
include h0 hG in
theorem Gc{ps:List wc}(hp:∀ p∈ps,p.Ok E0.P E0.G)(hw:∀ f args H,E0.wo f args H=none){p:wc}(h:Ql (EP E0 ps) 100000 p.f p.args p.heap=some p.v):∀ q∈p::ps,q.Ok E0.P E0.G:=fun q hq=>by
 rcases List.mem_cons.1 hq with rfl | hq
 ·exact fun H2 hs=>SU (ab5 h0 hG hp hw) hG h hs
 ·exact hp q hq
end
end Go.Am
end
section
namespace Go.Am
open Go.RowKit Go.ChangeShapes
def aI.start(W:World)(G:Nat→Option (List AV)):aI:=
 {imm:=fun b o=>W.cell? ⟨b,o,none⟩,own:=fun _=>none,loc:=[],base:=fun b=>W.heap.size≤b,w0:=W,glob:=G,shape:=H9 W }
theorem Inv.start(W:World)(G:Nat→Option (List AV))(hG:∀ (g:Nat) (cs:List AV),G g=some cs→V (aI.start W G) (.vptr cs.length [cs] 0 0) (.pointer (some ⟨g,0,none⟩))):Inv (aI.start W G) [] W:=
 ⟨x3.refl _ _,fun _ h=>h,fun _ _ _ h=>h,rfl,(fun id x h=>by simp at h),(fun i j x y h=>by simp at h),(fun b t n h=>by cases h),hG,fun b s h=>ST h⟩
section
variable{P:Program}
theorem Xv{G:Nat→Option (List AV)}{f:FuncId}{args:List AV}{W:World}{cargs:Array Value}(h:eV P G f args [] fun r H'=>r = .ret (.bool true)∧H'=[])
  (hG:∀ (g:Nat) (cs:List AV),G g=some cs→V (aI.start W G) (.vptr cs.length [cs] 0 0) (.pointer (some ⟨g,0,none⟩)))
  (hb:(callFunc f cargs).run P W = .ok (.enter f cargs) W) (hv:Vs (aI.start W G) args cargs):Calls P f cargs W fun e w'=>e = .returned (.bool true)∧Below W.heap.size W w':=by
 rcases h (aI.start W G) W cargs rfl (Inv.start W G hG) hv with ⟨_,h2⟩ | ⟨cv,w',h1,_⟩
 ·refine h2.mono ?_
  rintro e w' ⟨K',r,H',hk,he,hi,rfl,rfl⟩
  have hkept:=hi.below
  rw [hk.base,hk.w0] at hkept
  refine ⟨?_,hkept.below fun b hb=>hb⟩
  cases e with
  |panicked c=>exact he.elim
  |outgrown=>exact he.elim
  |returned x=>
   have hx:V K' (.bool true) x:=he
   cases hx;rfl
 ·rw [hb] at h1;cases h1
theorem Ia{H:Type}{enc:TypeId×Value→H}(hl:laidOutB P=true){W W':World}(hb:Below W.heap.size W W'):∀ (ts:List TypeId) (vs:List Value) (ds:List (DataW H)) (ps:List MemPlace),
  (∀ t∈ts,P.readableRec t=true∧t<P.types.size)→DataW.TrodAll enc P W 0 (fun _=>true) true ts vs ds ps→(∀ x∈ps,x.block<W.heap.size) →
  DataW.TrodAll enc P W' 0 (fun b=>decide (b<W.heap.size)) true ts vs ds ps
 |[],_,_,_,_,h,_=>by
  obtain ⟨rfl,rfl,rfl⟩:=trodAll_nil h
  rfl
 |t::ts,_,_,_,hr,h,hlt=>by
  obtain ⟨v,vs1,d,ds1,a,b,rfl,rfl,rfl,h1,h2⟩:=trodAll_cons h
  exact ⟨a,b,Below.trod hl (hr t (by simp)).1 (hr t (by simp)).2 h1 hb (fun x hx=>hlt x (by simp [hx])),Ia hl hb ts vs1 ds1 b (fun u hu=>hr u (by simp [hu])) h2 (fun x hx=>hlt x (by simp [hx])),rfl⟩
end
end Go.Am
end
section
namespace Go.Am.Sh
open Go.RowKit
abbrev t(n:Nat):RX:=.t n
abbrev i(n:Int):RX:=.c (.int .i64 n)
abbrev u(n:Int):RX:=.c (.int .u8 n)
abbrev T:RX:=.c (.bool true)
abbrev F:RX:=.c (.bool false)
abbrev s(x:List UInt8):RX:=.c (.str x)
abbrev f(n:Nat):RX:=.c (.fn (.func n) [] [])
abbrev o(d:Nat)(x:ROp):RO:=⟨some d,none,.op x⟩
abbrev n(x:ROp):RO:=⟨none,none,.op x⟩
abbrev g(d q:Nat)(x:ROp):RO:=⟨some d,some (q,true),.op x⟩
abbrev h(d q:Nat)(x:ROp):RO:=⟨some d,some (q,false),.op x⟩
abbrev k(d:Nat)(x:RX)(l:List RX):RO:=⟨some d,none,.call x l⟩
abbrev m(d x:Nat):RO:=⟨some d,none,.op (.mv (.t x))⟩
abbrev mc(d:Nat)(x:RX):RO:=⟨some d,none,.op (.mv x)⟩
abbrev ld(d x:Nat):RO:=⟨some d,none,.op (.ld none (.t x))⟩
abbrev la(d j x:Nat):RO:=⟨some d,none,.op (.ld (some j) (.t x))⟩
abbrev fa(d j x:Nat):RO:=⟨some d,none,.op (.fa j (.t x))⟩
abbrev ia(d j x y:Nat):RO:=⟨some d,none,.op (.ias j (.t x) (.t y))⟩
abbrev ls(d x:Nat):RO:=⟨some d,none,.op (.len .sl (.t x))⟩
abbrev lt(d x:Nat):RO:=⟨some d,none,.op (.len .str (.t x))⟩
abbrev ad(d x:Nat):RO:=⟨some d,none,.op (.ar .add (.t x) (.c (.int .i64 1)))⟩
abbrev bl(d x y:Nat):RO:=⟨some d,none,.op (.ar .lss (.t x) (.t y))⟩
abbrev no(d x:Nat):RO:=⟨some d,none,.op (.un .not (.t x))⟩
abbrev ex(d x j:Nat):RO:=⟨some d,none,.op (.ex (.t x) j)⟩
abbrev P(x:RO):RO×Cl:=(x,.pure)
abbrev W(x:RO):RO×Cl:=(x,.wide)
abbrev E(x:RO):RO×Cl:=(x,.eff)
abbrev K(x:RO):RO×Cl:=(x,.keep)
abbrev Q(x y:AC):AC:=.seq x y
abbrev C(c:Nat)(x y:AC):AC:=.cond (.t c) x y
abbrev O(l:List RO):AC:=.ops l
abbrev D(l:List (RO×Cl)):AC:=.dops false [] [] l
abbrev Y(l:List Nat):AC:=.lv l
abbrev R:AC:=.ret
abbrev X:AC:=.skip
end Go.Am.Sh
end
section
set_option linter.defProp false
namespace Go.Am
open Go.RowKit
abbrev Str:=List UInt8
abbrev aX:Nat:=9223372036854775807
def I64(n:Int):Prop := -9223372036854775808≤n∧n≤9223372036854775807
structure Sl (α:Type) where
 tag:Tag
 l:List α
def Tag.strip:Tag→Tag
 |.own _=>.any
 |t=>t
def Sl.strip{α:Type}(s:Sl α):Sl α:=⟨s.tag.strip,s.l⟩
theorem BW(t:Tag)(n:Nat)(r:List (List AV)):AV.strip (.slice t n r) = .slice t.strip n r:=by cases t<;>rfl
theorem ng:(∀ (t:Tag) (n:Nat) (r:List (List AV)),AV.strip (.slice t n r) = .slice t.strip n r)∧(∀ (x:AV) (l:List AV),List.map AV.strip (x::l)=AV.strip x::List.map AV.strip l)∧List.map AV.strip []=[]∧(∀ a b:List AV,List.map AV.strip (a++b)=List.map AV.strip a++List.map AV.strip b):=
 ⟨BW,fun _ _=>rfl,rfl,fun _ _=>List.map_append⟩
structure Sl.ok {α:Type} (s:Sl α) (n:Nat) (p:α→Prop):Prop where
 tag:ln n s.tag
 len:s.l.length≤aX
 all:∀ x∈s.l,p x
theorem ln.mono{n m:Nat}{t:Tag}(h:ln n t)(hn:n≤m):ln m t:=by
 cases t<;>first | trivial | exact Nat.lt_of_lt_of_le h hn
theorem Sl.ok.mono{α:Type}{s:Sl α}{n m:Nat}{p q:α→Prop}(h:s.ok n p)(hn:n≤m)(hp:∀ x,p x→q x):s.ok m q:=
 ⟨h.tag.mono hn,h.len,fun x hx=>hp x (h.all x hx)⟩
theorem Sl.ok.wk{α:Type}{s:Sl α}{n esz:Nat}{p:α→Prop}{row:α→List AV}(h:s.ok n p)(hr:∀ x,p x→WkL n (row x) (row x)):Wk n (.slice s.tag esz (s.l.map row)) (.slice s.tag esz (s.l.map row)):=
 wk_slice h.tag (by rw [rowsWk_map];exact fun x hx=>hr x (h.all x hx))
theorem NV{n:Nat}:∀ {a b c d:List AV},WkL n a b→WkL n c d→WkL n (a++c) (b++d)
 |[],[],_,_,_,h=>h
 |_::_,_::_,_,_,h,h'=>⟨h.1,NV h.2 h'⟩
 |[],_::_,_,_,h,_=>h.elim
 |_::_,[],_,_,h,_=>h.elim
def eH(s:Str):List AV:=[.str s]
def Y7(n:Int):List AV:=[.int .i64 n]
theorem En:(∀ s:Str,b8 none (eH s) 0=some (.str s))∧(∀ n:Int,b8 none (Y7 n) 0=some (.int .i64 n)):=⟨fun _=>rfl,fun _=>rfl⟩
structure au where
 name:Str
 value:Str
def au.row(x:au):List AV:=[.str x.name,.str x.value]
theorem rn:(∀ x:au,pY 2 (au.row x)=some (au.row x))∧(∀ x:au,b8 none (au.row x) 0=some (.str x.name))∧(∀ x:au,b8 none (au.row x) 1=some (.str x.value))∧(∀ x:au,(au.row x).length=2)∧(∀ x:au,(au.row x).all AV.cell=true)∧(∀ x:au,∀ c0 c1:AV,aU [c0,c1] 0 (au.row x)=au.row x)∧(∀ x:au,∀ y:au,aU (au.row y) 0 (au.row x)=au.row x)∧(∀ x:au,∀ (y:Str),aU (au.row x) 0 [.str y]=au.row { x with name:=y })∧(∀ x:au,∀ (y:Str),aU (au.row x) 1 [.str y]=au.row { x with value:=y })∧(∀ x:au,(au.row x).map AV.strip=au.row x)∧(∀ x:au,(au.row x).take 2=au.row x)∧(∀ x:au,(au.row x).drop 2=[]):=
 by refine ⟨?_, ?_, ?_, ?_, ?_, ?_, ?_, ?_, ?_, ?_, ?_, ?_⟩<;>(intros;first | rfl | (simp only [au.row];rfl) | (simp only [au.row,ng];rfl))
structure au.ok (n:Nat) (x:au):Prop where
 name:x.name.length≤aX
 value:x.value.length≤aX
theorem au.ok.mono{n m:Nat}{x:au}(h:x.ok n)(hn:n≤m):x.ok m:=⟨h.name,h.value⟩
theorem au.ok.wk{n:Nat}{x:au}(h:x.ok n):WkL n x.row x.row:=⟨wk_str _ _,wk_str _ _,trivial⟩
structure aV where
 name:Str
 values:Sl Str
def aV.row(x:aV):List AV:=[.str x.name,.slice x.values.tag 1 (x.values.l.map eH)]
def aV.strip(x:aV):aV := { x with values:=x.values.strip }
theorem s8:(∀ x:aV,pY 2 (aV.row x)=some (aV.row x))∧(∀ x:aV,b8 none (aV.row x) 0=some (.str x.name))∧(∀ x:aV,b8 none (aV.row x) 1=some (.slice x.values.tag 1 (x.values.l.map eH)))∧(∀ x:aV,(aV.row x).length=2)∧(∀ x:aV,(aV.row x).all AV.cell=true)∧(∀ x:aV,∀ c0 c1:AV,aU [c0,c1] 0 (aV.row x)=aV.row x)∧(∀ x:aV,∀ y:aV,aU (aV.row y) 0 (aV.row x)=aV.row x)∧(∀ x:aV,∀ (y:Str),aU (aV.row x) 0 [.str y]=aV.row { x with name:=y })∧(∀ x:aV,∀ (t:Tag) (l:List Str),aU (aV.row x) 1 [.slice t 1 (l.map eH)]=aV.row { x with values:=⟨t,l⟩ })∧(∀ x:aV,(aV.row x).map AV.strip=aV.row x.strip)∧(∀ x:aV,(aV.row x).take 2=aV.row x)∧(∀ x:aV,(aV.row x).drop 2=[]):=
 by refine ⟨?_, ?_, ?_, ?_, ?_, ?_, ?_, ?_, ?_, ?_, ?_, ?_⟩<;>(intros;first | rfl | (simp only [aV.row];rfl) | (simp only [aV.row,ng];rfl))
structure aV.ok (n:Nat) (x:aV):Prop where
 name:x.name.length≤aX
 values:x.values.ok n (fun s=>s.length≤aX)
theorem aV.ok.mono{n m:Nat}{x:aV}(h:x.ok n)(hn:n≤m):x.ok m:=⟨h.name,h.values.mono hn (fun _ h=>h)⟩
theorem aV.ok.wk{n:Nat}{x:aV}(h:x.ok n):WkL n x.row x.row:=⟨wk_str _ _,h.values.wk (fun _ _=>⟨wk_str _ _,trivial⟩),trivial⟩
structure aR where
 cut:Int
 pre:Str
 add:Str
 feats:Sl au
def aR.row(x:aR):List AV:=[.int .i64 x.cut,.str x.pre,.str x.add,.slice x.feats.tag 2 (x.feats.l.map au.row)]
def aR.strip(x:aR):aR := { x with feats:=x.feats.strip }
theorem k7:(∀ x:aR,pY 4 (aR.row x)=some (aR.row x))∧(∀ x:aR,b8 none (aR.row x) 0=some (.int .i64 x.cut))∧(∀ x:aR,b8 none (aR.row x) 1=some (.str x.pre))∧(∀ x:aR,b8 none (aR.row x) 2=some (.str x.add))∧(∀ x:aR,b8 none (aR.row x) 3=some (.slice x.feats.tag 2 (x.feats.l.map au.row)))∧(∀ x:aR,(aR.row x).length=4)∧(∀ x:aR,(aR.row x).all AV.cell=true)∧(∀ x:aR,∀ c0 c1 c2 c3:AV,aU [c0,c1,c2,c3] 0 (aR.row x)=aR.row x)∧(∀ x:aR,∀ y:aR,aU (aR.row y) 0 (aR.row x)=aR.row x)∧(∀ x:aR,∀ (y:Int),aU (aR.row x) 0 [.int .i64 y]=aR.row { x with cut:=y })∧(∀ x:aR,∀ (y:Str),aU (aR.row x) 1 [.str y]=aR.row { x with pre:=y })∧(∀ x:aR,∀ (y:Str),aU (aR.row x) 2 [.str y]=aR.row { x with add:=y })∧(∀ x:aR,∀ (t:Tag) (l:List au),aU (aR.row x) 3 [.slice t 2 (l.map au.row)]=aR.row { x with feats:=⟨t,l⟩ })∧(∀ x:aR,(aR.row x).map AV.strip=aR.row x.strip)∧(∀ x:aR,(aR.row x).take 4=aR.row x)∧(∀ x:aR,(aR.row x).drop 4=[]):=
 by refine ⟨?_, ?_, ?_, ?_, ?_, ?_, ?_, ?_, ?_, ?_, ?_, ?_, ?_, ?_, ?_, ?_⟩<;>(intros;first | rfl | (simp only [aR.row];rfl) | (simp only [aR.row,ng];rfl))
structure aR.ok (n:Nat) (x:aR):Prop where
 cut:I64 x.cut
 pre:x.pre.length≤aX
 add:x.add.length≤aX
 feats:x.feats.ok n (au.ok n)
theorem aR.ok.mono{n m:Nat}{x:aR}(h:x.ok n)(hn:n≤m):x.ok m:=⟨h.cut,h.pre,h.add,h.feats.mono hn (fun _ h=>h.mono hn)⟩
theorem aR.ok.wk{n:Nat}{x:aR}(h:x.ok n):WkL n x.row x.row:=⟨wk_int _ _ _,wk_str _ _,wk_str _ _,h.feats.wk (fun _ h=>h.wk),trivial⟩
structure aK where
 name:Str
 slots:Sl aR
def aK.row(x:aK):List AV:=[.str x.name,.slice x.slots.tag 4 (x.slots.l.map aR.row)]
def aK.strip(x:aK):aK := { x with slots:=x.slots.strip }
theorem ka:(∀ x:aK,pY 2 (aK.row x)=some (aK.row x))∧(∀ x:aK,b8 none (aK.row x) 0=some (.str x.name))∧(∀ x:aK,b8 none (aK.row x) 1=some (.slice x.slots.tag 4 (x.slots.l.map aR.row)))∧(∀ x:aK,(aK.row x).length=2)∧(∀ x:aK,(aK.row x).all AV.cell=true)∧(∀ x:aK,∀ c0 c1:AV,aU [c0,c1] 0 (aK.row x)=aK.row x)∧(∀ x:aK,∀ y:aK,aU (aK.row y) 0 (aK.row x)=aK.row x)∧(∀ x:aK,∀ (y:Str),aU (aK.row x) 0 [.str y]=aK.row { x with name:=y })∧(∀ x:aK,∀ (t:Tag) (l:List aR),aU (aK.row x) 1 [.slice t 4 (l.map aR.row)]=aK.row { x with slots:=⟨t,l⟩ })∧(∀ x:aK,(aK.row x).map AV.strip=aK.row x.strip)∧(∀ x:aK,(aK.row x).take 2=aK.row x)∧(∀ x:aK,(aK.row x).drop 2=[]):=
 by refine ⟨?_, ?_, ?_, ?_, ?_, ?_, ?_, ?_, ?_, ?_, ?_, ?_⟩<;>(intros;first | rfl | (simp only [aK.row];rfl) | (simp only [aK.row,ng];rfl))
structure aK.ok (n:Nat) (x:aK):Prop where
 name:x.name.length≤aX
 slots:x.slots.ok n (aR.ok n)
theorem aK.ok.mono{n m:Nat}{x:aK}(h:x.ok n)(hn:n≤m):x.ok m:=⟨h.name,h.slots.mono hn (fun _ h=>h.mono hn)⟩
theorem aK.ok.wk{n:Nat}{x:aK}(h:x.ok n):WkL n x.row x.row:=⟨wk_str _ _,h.slots.wk (fun _ h=>h.wk),trivial⟩
structure bL where
 slot:Int
 word:Str
def bL.row(x:bL):List AV:=[.int .i64 x.slot,.str x.word]
theorem Gd:(∀ x:bL,pY 2 (bL.row x)=some (bL.row x))∧(∀ x:bL,b8 none (bL.row x) 0=some (.int .i64 x.slot))∧(∀ x:bL,b8 none (bL.row x) 1=some (.str x.word))∧(∀ x:bL,(bL.row x).length=2)∧(∀ x:bL,(bL.row x).all AV.cell=true)∧(∀ x:bL,∀ c0 c1:AV,aU [c0,c1] 0 (bL.row x)=bL.row x)∧(∀ x:bL,∀ y:bL,aU (bL.row y) 0 (bL.row x)=bL.row x)∧(∀ x:bL,∀ (y:Int),aU (bL.row x) 0 [.int .i64 y]=bL.row { x with slot:=y })∧(∀ x:bL,∀ (y:Str),aU (bL.row x) 1 [.str y]=bL.row { x with word:=y })∧(∀ x:bL,(bL.row x).map AV.strip=bL.row x)∧(∀ x:bL,(bL.row x).take 2=bL.row x)∧(∀ x:bL,(bL.row x).drop 2=[]):=
 by refine ⟨?_, ?_, ?_, ?_, ?_, ?_, ?_, ?_, ?_, ?_, ?_, ?_⟩<;>(intros;first | rfl | (simp only [bL.row];rfl) | (simp only [bL.row,ng];rfl))
structure bL.ok (n:Nat) (x:bL):Prop where
 slot:I64 x.slot
 word:x.word.length≤aX
theorem bL.ok.mono{n m:Nat}{x:bL}(h:x.ok n)(hn:n≤m):x.ok m:=⟨h.slot,h.word⟩
theorem bL.ok.wk{n:Nat}{x:bL}(h:x.ok n):WkL n x.row x.row:=⟨wk_int _ _ _,wk_str _ _,trivial⟩
structure aw where
 lem:Str
 cls:Str
 feats:Sl au
 forms:Sl bL
def aw.row(x:aw):List AV:=[.str x.lem,.str x.cls,.slice x.feats.tag 2 (x.feats.l.map au.row),.slice x.forms.tag 2 (x.forms.l.map bL.row)]
def aw.strip(x:aw):aw := { x with feats:=x.feats.strip,forms:=x.forms.strip }
theorem dI:(∀ x:aw,pY 4 (aw.row x)=some (aw.row x))∧(∀ x:aw,b8 none (aw.row x) 0=some (.str x.lem))∧(∀ x:aw,b8 none (aw.row x) 1=some (.str x.cls))∧(∀ x:aw,b8 none (aw.row x) 2=some (.slice x.feats.tag 2 (x.feats.l.map au.row)))∧(∀ x:aw,b8 none (aw.row x) 3=some (.slice x.forms.tag 2 (x.forms.l.map bL.row)))∧(∀ x:aw,(aw.row x).length=4)∧(∀ x:aw,(aw.row x).all AV.cell=true)∧(∀ x:aw,∀ c0 c1 c2 c3:AV,aU [c0,c1,c2,c3] 0 (aw.row x)=aw.row x)∧(∀ x:aw,∀ y:aw,aU (aw.row y) 0 (aw.row x)=aw.row x)∧(∀ x:aw,∀ (y:Str),aU (aw.row x) 0 [.str y]=aw.row { x with lem:=y })∧(∀ x:aw,∀ (y:Str),aU (aw.row x) 1 [.str y]=aw.row { x with cls:=y })∧(∀ x:aw,∀ (t:Tag) (l:List au),aU (aw.row x) 2 [.slice t 2 (l.map au.row)]=aw.row { x with feats:=⟨t,l⟩ })∧(∀ x:aw,∀ (t:Tag) (l:List bL),aU (aw.row x) 3 [.slice t 2 (l.map bL.row)]=aw.row { x with forms:=⟨t,l⟩ })∧(∀ x:aw,(aw.row x).map AV.strip=aw.row x.strip)∧(∀ x:aw,(aw.row x).take 4=aw.row x)∧(∀ x:aw,(aw.row x).drop 4=[]):=
 by refine ⟨?_, ?_, ?_, ?_, ?_, ?_, ?_, ?_, ?_, ?_, ?_, ?_, ?_, ?_, ?_, ?_⟩<;>(intros;first | rfl | (simp only [aw.row];rfl) | (simp only [aw.row,ng];rfl))
structure aw.ok (n:Nat) (x:aw):Prop where
 lem:x.lem.length≤aX
 cls:x.cls.length≤aX
 feats:x.feats.ok n (au.ok n)
 forms:x.forms.ok n (bL.ok n)
theorem aw.ok.mono{n m:Nat}{x:aw}(h:x.ok n)(hn:n≤m):x.ok m:=⟨h.lem,h.cls,h.feats.mono hn (fun _ h=>h.mono hn),h.forms.mono hn (fun _ h=>h.mono hn)⟩
theorem aw.ok.wk{n:Nat}{x:aw}(h:x.ok n):WkL n x.row x.row:=⟨wk_str _ _,wk_str _ _,h.feats.wk (fun _ h=>h.wk),h.forms.wk (fun _ h=>h.wk),trivial⟩
structure bu where
 frm:Str
 to:Str
 left:Str
 right:Str
def bu.row(x:bu):List AV:=[.str x.frm,.str x.to,.str x.left,.str x.right]
theorem pf:(∀ x:bu,pY 4 (bu.row x)=some (bu.row x))∧(∀ x:bu,b8 none (bu.row x) 0=some (.str x.frm))∧(∀ x:bu,b8 none (bu.row x) 1=some (.str x.to))∧(∀ x:bu,b8 none (bu.row x) 2=some (.str x.left))∧(∀ x:bu,b8 none (bu.row x) 3=some (.str x.right))∧(∀ x:bu,(bu.row x).length=4)∧(∀ x:bu,(bu.row x).all AV.cell=true)∧(∀ x:bu,∀ c0 c1 c2 c3:AV,aU [c0,c1,c2,c3] 0 (bu.row x)=bu.row x)∧(∀ x:bu,∀ y:bu,aU (bu.row y) 0 (bu.row x)=bu.row x)∧(∀ x:bu,∀ (y:Str),aU (bu.row x) 0 [.str y]=bu.row { x with frm:=y })∧(∀ x:bu,∀ (y:Str),aU (bu.row x) 1 [.str y]=bu.row { x with to:=y })∧(∀ x:bu,∀ (y:Str),aU (bu.row x) 2 [.str y]=bu.row { x with left:=y })∧(∀ x:bu,∀ (y:Str),aU (bu.row x) 3 [.str y]=bu.row { x with right:=y })∧(∀ x:bu,(bu.row x).map AV.strip=bu.row x)∧(∀ x:bu,(bu.row x).take 4=bu.row x)∧(∀ x:bu,(bu.row x).drop 4=[]):=
 by refine ⟨?_, ?_, ?_, ?_, ?_, ?_, ?_, ?_, ?_, ?_, ?_, ?_, ?_, ?_, ?_, ?_⟩<;>(intros;first | rfl | (simp only [bu.row];rfl) | (simp only [bu.row,ng];rfl))
structure bu.ok (n:Nat) (x:bu):Prop where
 frm:x.frm.length≤aX
 to:x.to.length≤aX
 left:x.left.length≤aX
 right:x.right.length≤aX
theorem bu.ok.mono{n m:Nat}{x:bu}(h:x.ok n)(hn:n≤m):x.ok m:=⟨h.frm,h.to,h.left,h.right⟩
theorem bu.ok.wk{n:Nat}{x:bu}(h:x.ok n):WkL n x.row x.row:=⟨wk_str _ _,wk_str _ _,wk_str _ _,wk_str _ _,trivial⟩
structure bN where
 cls:Str
 glue:Str
 feats:Sl au
def bN.row(x:bN):List AV:=[.str x.cls,.str x.glue,.slice x.feats.tag 2 (x.feats.l.map au.row)]
def bN.strip(x:bN):bN := { x with feats:=x.feats.strip }
theorem xx:(∀ x:bN,pY 3 (bN.row x)=some (bN.row x))∧(∀ x:bN,b8 none (bN.row x) 0=some (.str x.cls))∧(∀ x:bN,b8 none (bN.row x) 1=some (.str x.glue))∧(∀ x:bN,b8 none (bN.row x) 2=some (.slice x.feats.tag 2 (x.feats.l.map au.row)))∧(∀ x:bN,(bN.row x).length=3)∧(∀ x:bN,(bN.row x).all AV.cell=true)∧(∀ x:bN,∀ c0 c1 c2:AV,aU [c0,c1,c2] 0 (bN.row x)=bN.row x)∧(∀ x:bN,∀ y:bN,aU (bN.row y) 0 (bN.row x)=bN.row x)∧(∀ x:bN,∀ (y:Str),aU (bN.row x) 0 [.str y]=bN.row { x with cls:=y })∧(∀ x:bN,∀ (y:Str),aU (bN.row x) 1 [.str y]=bN.row { x with glue:=y })∧(∀ x:bN,∀ (t:Tag) (l:List au),aU (bN.row x) 2 [.slice t 2 (l.map au.row)]=bN.row { x with feats:=⟨t,l⟩ })∧(∀ x:bN,(bN.row x).map AV.strip=bN.row x.strip)∧(∀ x:bN,(bN.row x).take 3=bN.row x)∧(∀ x:bN,(bN.row x).drop 3=[]):=
 by refine ⟨?_, ?_, ?_, ?_, ?_, ?_, ?_, ?_, ?_, ?_, ?_, ?_, ?_, ?_⟩<;>(intros;first | rfl | (simp only [bN.row];rfl) | (simp only [bN.row,ng];rfl))
structure bN.ok (n:Nat) (x:bN):Prop where
 cls:x.cls.length≤aX
 glue:x.glue.length≤aX
 feats:x.feats.ok n (au.ok n)
theorem bN.ok.mono{n m:Nat}{x:bN}(h:x.ok n)(hn:n≤m):x.ok m:=⟨h.cls,h.glue,h.feats.mono hn (fun _ h=>h.mono hn)⟩
theorem bN.ok.wk{n:Nat}{x:bN}(h:x.ok n):WkL n x.row x.row:=⟨wk_str _ _,wk_str _ _,h.feats.wk (fun _ h=>h.wk),trivial⟩
structure Lex where
 vowels:Str
 traits:Sl aV
 classes:Sl aK
 entries:Sl aw
 spells:Sl bu
 links:Sl bN
def Lex.row(x:Lex):List AV:=[.str x.vowels,.slice x.traits.tag 2 (x.traits.l.map aV.row),.slice x.classes.tag 2 (x.classes.l.map aK.row),.slice x.entries.tag 4 (x.entries.l.map aw.row),.slice x.spells.tag 4 (x.spells.l.map bu.row),.slice x.links.tag 3 (x.links.l.map bN.row)]
def Lex.strip(x:Lex):Lex := { x with traits:=x.traits.strip,classes:=x.classes.strip,entries:=x.entries.strip,spells:=x.spells.strip,links:=x.links.strip }
theorem bJ:(∀ x:Lex,pY 6 (Lex.row x)=some (Lex.row x))∧(∀ x:Lex,b8 none (Lex.row x) 0=some (.str x.vowels))∧(∀ x:Lex,b8 none (Lex.row x) 1=some (.slice x.traits.tag 2 (x.traits.l.map aV.row)))∧(∀ x:Lex,b8 none (Lex.row x) 2=some (.slice x.classes.tag 2 (x.classes.l.map aK.row)))∧(∀ x:Lex,b8 none (Lex.row x) 3=some (.slice x.entries.tag 4 (x.entries.l.map aw.row)))∧(∀ x:Lex,b8 none (Lex.row x) 4=some (.slice x.spells.tag 4 (x.spells.l.map bu.row)))∧(∀ x:Lex,b8 none (Lex.row x) 5=some (.slice x.links.tag 3 (x.links.l.map bN.row)))∧(∀ x:Lex,(Lex.row x).length=6)∧(∀ x:Lex,(Lex.row x).all AV.cell=true)∧(∀ x:Lex,∀ c0 c1 c2 c3 c4 c5:AV,aU [c0,c1,c2,c3,c4,c5] 0 (Lex.row x)=Lex.row x)∧(∀ x:Lex,∀ y:Lex,aU (Lex.row y) 0 (Lex.row x)=Lex.row x)∧(∀ x:Lex,∀ (y:Str),aU (Lex.row x) 0 [.str y]=Lex.row { x with vowels:=y })∧(∀ x:Lex,∀ (t:Tag) (l:List aV),aU (Lex.row x) 1 [.slice t 2 (l.map aV.row)]=Lex.row { x with traits:=⟨t,l⟩ })∧(∀ x:Lex,∀ (t:Tag) (l:List aK),aU (Lex.row x) 2 [.slice t 2 (l.map aK.row)]=Lex.row { x with classes:=⟨t,l⟩ })∧(∀ x:Lex,∀ (t:Tag) (l:List aw),aU (Lex.row x) 3 [.slice t 4 (l.map aw.row)]=Lex.row { x with entries:=⟨t,l⟩ })∧(∀ x:Lex,∀ (t:Tag) (l:List bu),aU (Lex.row x) 4 [.slice t 4 (l.map bu.row)]=Lex.row { x with spells:=⟨t,l⟩ })∧(∀ x:Lex,∀ (t:Tag) (l:List bN),aU (Lex.row x) 5 [.slice t 3 (l.map bN.row)]=Lex.row { x with links:=⟨t,l⟩ })∧(∀ x:Lex,(Lex.row x).map AV.strip=Lex.row x.strip)∧(∀ x:Lex,(Lex.row x).take 6=Lex.row x)∧(∀ x:Lex,(Lex.row x).drop 6=[]):=
 by refine ⟨?_, ?_, ?_, ?_, ?_, ?_, ?_, ?_, ?_, ?_, ?_, ?_, ?_, ?_, ?_, ?_, ?_, ?_, ?_, ?_⟩<;>(intros;first | rfl | (simp only [Lex.row];rfl) | (simp only [Lex.row,ng];rfl))
structure Lex.ok (n:Nat) (x:Lex):Prop where
 vowels:x.vowels.length≤aX
 traits:x.traits.ok n (aV.ok n)
 classes:x.classes.ok n (aK.ok n)
 entries:x.entries.ok n (aw.ok n)
 spells:x.spells.ok n (bu.ok n)
 links:x.links.ok n (bN.ok n)
theorem Lex.ok.mono{n m:Nat}{x:Lex}(h:x.ok n)(hn:n≤m):x.ok m:=⟨h.vowels,h.traits.mono hn (fun _ h=>h.mono hn),h.classes.mono hn (fun _ h=>h.mono hn),h.entries.mono hn (fun _ h=>h.mono hn),h.spells.mono hn (fun _ h=>h.mono hn),h.links.mono hn (fun _ h=>h.mono hn)⟩
theorem Lex.ok.wk{n:Nat}{x:Lex}(h:x.ok n):WkL n x.row x.row:=⟨wk_str _ _,h.traits.wk (fun _ h=>h.wk),h.classes.wk (fun _ h=>h.wk),h.entries.wk (fun _ h=>h.wk),h.spells.wk (fun _ h=>h.wk),h.links.wk (fun _ h=>h.wk),trivial⟩
structure aJ where
 entry:Int
 slot:Int
 link:Int
def aJ.row(x:aJ):List AV:=[.int .i64 x.entry,.int .i64 x.slot,.int .i64 x.link]
theorem xH:(∀ x:aJ,pY 3 (aJ.row x)=some (aJ.row x))∧(∀ x:aJ,b8 none (aJ.row x) 0=some (.int .i64 x.entry))∧(∀ x:aJ,b8 none (aJ.row x) 1=some (.int .i64 x.slot))∧(∀ x:aJ,b8 none (aJ.row x) 2=some (.int .i64 x.link))∧(∀ x:aJ,(aJ.row x).length=3)∧(∀ x:aJ,(aJ.row x).all AV.cell=true)∧(∀ x:aJ,∀ c0 c1 c2:AV,aU [c0,c1,c2] 0 (aJ.row x)=aJ.row x)∧(∀ x:aJ,∀ y:aJ,aU (aJ.row y) 0 (aJ.row x)=aJ.row x)∧(∀ x:aJ,∀ (y:Int),aU (aJ.row x) 0 [.int .i64 y]=aJ.row { x with entry:=y })∧(∀ x:aJ,∀ (y:Int),aU (aJ.row x) 1 [.int .i64 y]=aJ.row { x with slot:=y })∧(∀ x:aJ,∀ (y:Int),aU (aJ.row x) 2 [.int .i64 y]=aJ.row { x with link:=y })∧(∀ x:aJ,(aJ.row x).map AV.strip=aJ.row x)∧(∀ x:aJ,(aJ.row x).take 3=aJ.row x)∧(∀ x:aJ,(aJ.row x).drop 3=[]):=
 by refine ⟨?_, ?_, ?_, ?_, ?_, ?_, ?_, ?_, ?_, ?_, ?_, ?_, ?_, ?_⟩<;>(intros;first | rfl | (simp only [aJ.row];rfl) | (simp only [aJ.row,ng];rfl))
structure aJ.ok (n:Nat) (x:aJ):Prop where
 entry:I64 x.entry
 slot:I64 x.slot
 link:I64 x.link
theorem aJ.ok.mono{n m:Nat}{x:aJ}(h:x.ok n)(hn:n≤m):x.ok m:=⟨h.entry,h.slot,h.link⟩
theorem aJ.ok.wk{n:Nat}{x:aJ}(h:x.ok n):WkL n x.row x.row:=⟨wk_int _ _ _,wk_int _ _ _,wk_int _ _ _,trivial⟩
structure aq where
 firsts:Sl aJ
 entry:Int
 slot:Int
def aq.row(x:aq):List AV:=[.slice x.firsts.tag 3 (x.firsts.l.map aJ.row),.int .i64 x.entry,.int .i64 x.slot]
def aq.strip(x:aq):aq := { x with firsts:=x.firsts.strip }
theorem tB:(∀ x:aq,pY 3 (aq.row x)=some (aq.row x))∧(∀ x:aq,b8 none (aq.row x) 0=some (.slice x.firsts.tag 3 (x.firsts.l.map aJ.row)))∧(∀ x:aq,b8 none (aq.row x) 1=some (.int .i64 x.entry))∧(∀ x:aq,b8 none (aq.row x) 2=some (.int .i64 x.slot))∧(∀ x:aq,(aq.row x).length=3)∧(∀ x:aq,(aq.row x).all AV.cell=true)∧(∀ x:aq,∀ c0 c1 c2:AV,aU [c0,c1,c2] 0 (aq.row x)=aq.row x)∧(∀ x:aq,∀ y:aq,aU (aq.row y) 0 (aq.row x)=aq.row x)∧(∀ x:aq,∀ (t:Tag) (l:List aJ),aU (aq.row x) 0 [.slice t 3 (l.map aJ.row)]=aq.row { x with firsts:=⟨t,l⟩ })∧(∀ x:aq,∀ (y:Int),aU (aq.row x) 1 [.int .i64 y]=aq.row { x with entry:=y })∧(∀ x:aq,∀ (y:Int),aU (aq.row x) 2 [.int .i64 y]=aq.row { x with slot:=y })∧(∀ x:aq,(aq.row x).map AV.strip=aq.row x.strip)∧(∀ x:aq,(aq.row x).take 3=aq.row x)∧(∀ x:aq,(aq.row x).drop 3=[]):=
 by refine ⟨?_, ?_, ?_, ?_, ?_, ?_, ?_, ?_, ?_, ?_, ?_, ?_, ?_, ?_⟩<;>(intros;first | rfl | (simp only [aq.row];rfl) | (simp only [aq.row,ng];rfl))
structure aq.ok (n:Nat) (x:aq):Prop where
 firsts:x.firsts.ok n (aJ.ok n)
 entry:I64 x.entry
 slot:I64 x.slot
theorem aq.ok.mono{n m:Nat}{x:aq}(h:x.ok n)(hn:n≤m):x.ok m:=⟨h.firsts.mono hn (fun _ h=>h.mono hn),h.entry,h.slot⟩
theorem aq.ok.wk{n:Nat}{x:aq}(h:x.ok n):WkL n x.row x.row:=⟨h.firsts.wk (fun _ h=>h.wk),wk_int _ _ _,wk_int _ _ _,trivial⟩
structure Ask where
 lem:Str
 cls:Str
 feats:Sl au
 entry:Int
 slot:Int
def Ask.row(x:Ask):List AV:=[.str x.lem,.str x.cls,.slice x.feats.tag 2 (x.feats.l.map au.row),.int .i64 x.entry,.int .i64 x.slot]
def Ask.strip(x:Ask):Ask := { x with feats:=x.feats.strip }
structure Ask.ok (n:Nat) (x:Ask):Prop where
 lem:x.lem.length≤aX
 cls:x.cls.length≤aX
 feats:x.feats.ok n (au.ok n)
 entry:I64 x.entry
 slot:I64 x.slot
theorem Ask.ok.mono{n m:Nat}{x:Ask}(h:x.ok n)(hn:n≤m):x.ok m:=⟨h.lem,h.cls,h.feats.mono hn (fun _ h=>h.mono hn),h.entry,h.slot⟩
theorem Ask.ok.wk{n:Nat}{x:Ask}(h:x.ok n):WkL n x.row x.row:=⟨wk_str _ _,wk_str _ _,h.feats.wk (fun _ h=>h.wk),wk_int _ _ _,wk_int _ _ _,trivial⟩
theorem aE{α:Type}{row:α→List AV}{l:List α}{tag:Tag}{sz:Nat}{k:IntKind}{i:Nat}(h:i<l.length):A6 sz (.slice tag sz (l.map row)) (.int k (i:Int))=some (.vptr sz (l.map row) i 0):=
 rias_nat (esz:=0) (by simpa using h)
theorem Y8{α:Type}{row:α→List AV}{l:List α}{tag:Tag}{sz:Nat}{k:IntKind}(h:0<l.length):A6 sz (.slice tag sz (l.map row)) (.int k 0)=some (.vptr sz (l.map row) 0 0):=
 aE (i:=0) h
theorem KQ{α:Type}{row:α→List AV}{l:List α}{tag:Tag}{sz:Nat}{k:IntKind}{i:Nat}(h:i<l.length):Hm sz (.slice tag sz (l.map row)) none (some (.int k (i:Int))) none=some (.slice .any sz ((l.take i).map row)):=by
 have h0:l≠[]:=fun e=>by simp [e] at h
 simp [Hm,ie,Nat.le_of_lt h,h0,List.map_take]
theorem bp{i n:Nat}(h:i<n)(hn:n≤aX):IntKind.i64.wrap ((i:Int)+1)=((i+1:Nat):Int):=by
 rw [dM (by omega) (by simp only [aX] at hn;omega)];rfl
theorem KR{i:Nat}(h:i+1≤aX):IntKind.i64.wrap (((i+1:Nat):Int)-1)=(i:Int):=by
 simp only [aX] at h
 rw [dM (by omega) (by omega)];omega
theorem V8{i:Nat}(h0:0<i)(h:i≤aX):IntKind.i64.wrap ((i:Int)-1)=((i-1:Nat):Int):=by
 simp only [aX] at h
 rw [dM (by omega) (by omega)];omega
theorem Y9{α:Type}(row:α→List AV)(l:List α)(i:Nat):(l.map row)[i]?=(l[i]?).map row:=List.getElem?_map ..
def slc{α:Type}(b:Bool)(x y:α):α:=
 match b with
 |true=>x
 |false=>y
theorem bU{α:Type}{b b':Bool}{x y:α}(h:b=b'):sel b x y=sel b' x y:=by rw [h]
theorem be{α:Type}{b b':Bool}{x x' y y':α}(hb:b=b')(hx:b'=true→x=x')(hy:b'=false→y=y'):slc b x y=slc b' x' y':=by
 subst hb;cases b
 ·exact hy rfl
 ·exact hx rfl
theorem ab{α:Type}(x y:α):slc true x y=x:=rfl
theorem aa{α:Type}(x y:α):slc false x y=y:=rfl
theorem ah{α:Type}(b:Bool)(x y:α):slc (!b) x y=slc b y x:=by cases b<;>rfl
theorem amS :
 (∀ (α:Type) (b:Bool) (x y:α),sel b x y=slc b x y) ∧
 (∀ (α:Type) (x y:α),slc true x y=x)∧(∀ (α:Type) (x y:α),slc false x y=y)∧(∀ (α:Type) (b:Bool) (x y:α),slc (!b) x y=slc b y x) ∧
 (∀ (α:Type) (b:Bool) (x:α),slc b x x=x) ∧
 (∀ (α:Type) (b:Bool) (x y:α),slc b (some x) (some y)=some (slc b x y)) ∧
 (∀ (α β:Type) (b:Bool) (x x':α) (y y':β),slc b (x,y) (x',y')=(slc b x x',slc b y y')) ∧
 (∀ (b:Bool) (v v':AV),slc b (vH.ret v) (vH.ret v') = .ret (slc b v v')) ∧
 (∀ (b p q:Bool),slc b (AV.bool p) (AV.bool q) = .bool (slc b p q)) ∧
 (∀ (b:Bool) (k:IntKind) (x y:Int),slc b (AV.int k x) (AV.int k y) = .int k (slc b x y)) ∧
 (∀ (b:Bool) (x y:Str),slc b (AV.str x) (AV.str y) = .str (slc b x y)) ∧
 (∀ (α:Type) (b p:Bool) (x y:α),slc b (slc p x y) y=slc (b&&p) x y) ∧
 (∀ b p:Bool,slc b p false=(b&&p))∧(∀ b p:Bool,slc b true p=(b||p))∧(∀ b p:Bool,slc b p true=(!b||p))∧(∀ b p:Bool,slc b false p=(!b&&p)) ∧
 (∀ (α:Type) (b w:Bool) (v v':AV) (x u:Option α),Ga (slc b v v') w x u=slc b (Ga v w x u) (Ga v' w x u)):=
 ⟨fun _ _ _ _=>rfl,fun _ _ _=>rfl,fun _ _ _=>rfl,fun _=>ah,fun _ b _=>by cases b<;>rfl,fun _ b _ _=>by cases b<;>rfl,fun _ _ b _ _ _ _=>by cases b<;>rfl,fun b _ _=>by cases b<;>rfl,fun b _ _=>by cases b<;>rfl,
  fun b _ _ _=>by cases b<;>rfl,fun b _ _=>by cases b<;>rfl,fun _ b p _ _=>by cases b<;>cases p<;>rfl,fun b _=>by cases b<;>rfl,fun b _=>by cases b<;>rfl,fun b _=>by cases b<;>rfl,fun b _=>by cases b<;>rfl,fun _ b _ _ _ _ _=>by cases b<;>rfl⟩
def orE(o:Option AV)(H:List AObj)(x:Option Out):Option Out:=
 match o with
 |some v=>some (.ret v,H)
 |none=>x
def orO{α:Type}(o y:Option α):Option α:=
 match o with
 |some v=>some v
 |none=>y
def b9{α:Type}(F:Nat→α→Option AV):Nat→List α→Option AV
 |_,[]=>none
 |i,x::l=>orO (F i x) (b9 F (i+1) l)
theorem zU(v:AV)(H:List AObj)(x:Option Out):orE (some v) H x=some (.ret v,H):=rfl
theorem NW(H:List AObj)(x:Option Out):orE none H x=x:=rfl
theorem Eo(b:Bool)(o o':Option AV)(H:List AObj)(x:Option Out):orE (sel b o o') H x=sel b (orE o H x) (orE o' H x):=by cases b<;>rfl
theorem MW(o o':Option AV)(H:List AObj)(x:Option Out):orE (orO o o') H x=orE o H (orE o' H x):=by cases o<;>rfl
theorem Ge{α:Type}(v:α)(y:Option α):orO (some v) y=some v:=rfl
theorem Gf{α:Type}(y:Option α):orO none y=y:=rfl
theorem JG{α:Type}(b:Bool)(o o' y:Option α):orO (sel b o o') y=sel b (orO o y) (orO o' y):=by cases b<;>rfl
theorem UT{α:Type}(F:Nat→α→Option AV)(i:Nat):b9 F i []=none:=rfl
theorem lH{α:Type}(F:Nat→α→Option AV)(i:Nat)(x:α)(l:List α):b9 F i (x::l)=orO (F i x) (b9 F (i+1) l):=rfl
theorem Dd{α:Type}{l:List α}{n:Nat}(h:l.length≤n)(i:Nat):(l.take i).length≤n:=by simp;omega
theorem we{H0 H:List AObj}(h:co H0 H)(L:List AObj):co H0 (H++L):=
 ⟨by have:=h.1;simp;omega,fun i x hi hx=>h.2 i x hi (by
  have:=h.1
  rwa [List.getElem?_append_left (by omega)] at hx)⟩
theorem KS{H0 H:List AObj}(h:co H0 H)(L:List AObj):(H++L).take H0.length=H.take H0.length:=
 List.take_append_of_le_length h.1
theorem NX{sz:Nat}{r:List AV}(h1:r.length=sz)(h2:r.all AV.cell=true):pd sz [r]=true:=by simp [pd,h1,h2]
theorem Ry{α:Type}{row:α→List AV}{l:List α}{x:α}{r:List AV}{sz bytes:Nat}{e:TypeId}(H:List AObj)(h1:r.length=sz)(h2:r.all AV.cell=true)(h3:r.map AV.strip=row x)
  (hl:(l.length+1)*bytes≤140737488355328) (hl2:l.length+1≤4611686018427387904) :
  rap false (H++[.tok (l.length*sz) e]) e sz bytes false (.slice (.own H.length) sz (l.map row)) (.slice .full sz [r])=some (.slice (.own H.length) sz ((l++[x]).map row),H++[.tok ((l++[x]).length*sz) e]):=by
 have hr:(r.length=sz∧∀ x∈r,x.cell=true):=⟨h1,by simpa using h2⟩
 simp only [rap,Ee,A7,List.length_map,List.length_cons,List.length_nil,Nat.zero_add,or_true,if_true,hl,hl2,NX h1 h2,and_true,true_and,cf,List.getElem?_cons_zero,hp_set0,List.set_cons_zero,List.map_cons,List.map_nil,h3,List.map_append,List.length_append,Nat.add_mul,Nat.one_mul]
 rw [Nat.add_mul,Nat.one_mul] at hl
 rw [if_pos hl]
def NY(pl:Nat→Option (Nat×Nat))(cs:List AV)(rest:List (Nat×AV))(o:Option (Nat×Nat))(c:Option (List AV)):Option (List AV):=
 match o,c with
 |some (off,size),some cells=>if cells.length=size∧off+cells.length≤cs.length then oW pl (aU cs off cells) rest else none
 |_,_=>none
theorem Xw(pl:Nat→Option (Nat×Nat))(cs:List AV):oW pl cs []=some cs:=rfl
theorem UU(pl:Nat→Option (Nat×Nat))(cs:List AV)(i:Nat)(v:AV)(rest:List (Nat×AV)):oW pl cs ((i,v)::rest)=NY pl cs rest (pl i) (iI v):=by
 rfl
theorem SW(pl:Nat→Option (Nat×Nat))(cs:List AV)(rest:List (Nat×AV))(off size:Nat)(cells:List AV)(h1:cells.length=size)(h2:off+size≤cs.length):NY pl cs rest (some (off,size)) (some cells)=oW pl (aU cs off cells) rest:=by
 subst h1
 rw [NY]
 exact if_pos ⟨rfl,h2⟩
theorem adA(f:Nat×RX→Nat×AV):List.map f []=[]:=rfl
theorem adB(f:Nat×RX→Nat×AV)(x:Nat×RX)(l:List (Nat×RX)):List.map f (x::l)=f x::List.map f l:=rfl
theorem amF :
 (∀ (pl:Nat→Option (Nat×Nat)) (cs:List AV),oW pl cs []=some cs) ∧
 (∀ (pl:Nat→Option (Nat×Nat)) (cs:List AV) (i:Nat) (v:AV) (rest:List (Nat×AV)),oW pl cs ((i,v)::rest)=NY pl cs rest (pl i) (iI v)) ∧
 (∀ (pl:Nat→Option (Nat×Nat)) (cs:List AV) (rest:List (Nat×AV)) (off size:Nat) (cells:List AV),cells.length=size→off+size≤cs.length→NY pl cs rest (some (off,size)) (some cells)=oW pl (aU cs off cells) rest) ∧
 (∀ (f:Nat×RX→Nat×AV),List.map f []=[]) ∧
 (∀ (f:Nat×RX→Nat×AV) (x:Nat×RX) (l:List (Nat×RX)),List.map f (x::l)=f x::List.map f l) ∧
 (∀ (z:List AV),FS 0 z=[]) ∧
 (∀ (n:Nat) (z:List AV),FS (n+1) z=z++FS n z) ∧
 (∀ (n:Nat) (cs:List AV),BQ n 0 cs=[]) ∧
 (∀ (n k:Nat) (cs:List AV),BQ n (k+1) cs=cs.take n::BQ n k (cs.drop n)) ∧
 (∀ (l:List AV),l.take 0=[])∧(∀ (n:Nat) (x:AV) (l:List AV),(x::l).take (n+1)=x::l.take n) ∧
 (∀ (l:List AV),l.drop 0=l)∧(∀ (n:Nat) (x:AV) (l:List AV),(x::l).drop (n+1)=l.drop n) ∧
 (∀ (s:Str),AV.strip (.str s) = .str s)∧(∀ (k:IntKind) (n:Int),AV.strip (.int k n) = .int k n)∧(∀ (b:Bool),AV.strip (.bool b) = .bool b)∧(∀ (f:Fn) (x y:List AV),AV.strip (.fn f x y) = .fn f x y) ∧
 (∀ (t n:Nat) (r:List (List AV)),AV.strip (.slice (.own t) n r) = .slice .any n r)∧(∀ (n:Nat) (r:List (List AV)),AV.strip (.slice .any n r) = .slice .any n r)∧(∀ (n:Nat) (r:List (List AV)),AV.strip (.slice .nil n r) = .slice .nil n r)∧(∀ (n:Nat) (r:List (List AV)),AV.strip (.slice .full n r) = .slice .full n r) ∧
 (∀ (f:AV→AV),List.map f []=[])∧(∀ (f:AV→AV) (x:AV) (l:List AV),List.map f (x::l)=f x::List.map f l) ∧
 (∀ (x:Nat×Nat) (l:List (Nat×Nat)),(x::l)[0]?=some x)∧(∀ (x:Nat×Nat) (l:List (Nat×Nat)) (n:Nat),(x::l)[n+1]?=l[n]?):=
 ⟨Xw,UU,SW,adA,adB,fun _=>rfl,fun _ _=>rfl,fun _ _=>rfl,fun _ _ _=>rfl,fun _=>rfl,fun _ _ _=>rfl,fun _=>rfl,fun _ _ _=>rfl,fun _=>rfl,fun _ _=>rfl,fun _=>rfl,fun _ _ _=>rfl,fun _ _ _=>rfl,fun _ _=>rfl,fun _ _=>rfl,fun _ _=>rfl,fun _=>rfl,fun _ _ _=>rfl,fun _ _=>rfl,fun _ _ _=>rfl⟩
theorem amL :
 (∀ (v:AV) (H:List AObj) (x:Option Out),orE (some v) H x=some (.ret v,H)) ∧
 (∀ (H:List AObj) (x:Option Out),orE none H x=x) ∧
 (∀ (b:Bool) (o o':Option AV) (H:List AObj) (x:Option Out),orE (slc b o o') H x=slc b (orE o H x) (orE o' H x)) ∧
 (∀ (o o':Option AV) (H:List AObj) (x:Option Out),orE (orO o o') H x=orE o H (orE o' H x)) ∧
 (∀ (v:AV) (y:Option AV),orO (some v) y=some v) ∧
 (∀ (y:Option AV),orO none y=y) ∧
 (∀ (b:Bool) (o o' y:Option AV),orO (slc b o o') y=slc b (orO o y) (orO o' y)) ∧
 (∀ (α:Type) (F:Nat→α→Option AV) (i:Nat),b9 F i []=none) ∧
 (∀ (α:Type) (F:Nat→α→Option AV) (i:Nat) (x:α) (l:List α),b9 F i (x::l)=orO (F i x) (b9 F (i+1) l)) ∧
 (∀ (α:Type) (l:List α) (row:α→List AV),(l.map row).length=l.length) ∧
 (∀ (α:Type) (row:α→List AV) (l:List α) (i:Nat),(l.map row)[i]?=(l[i]?).map row) ∧
 (∀ (α:Type) (f:α→List AV) (x:α),(some x).map f=some (f x)) ∧
 (∀ (H0 H:List AObj),co H0 H→∀ (L:List AObj),co H0 (H++L)) ∧
 (∀ (H0 H:List AObj),co H0 H→∀ (L:List AObj),(H++L).take H0.length=H.take H0.length):=
 ⟨zU,NW,Eo,MW,Ge,Gf,JG,fun _=>UT,fun _=>lH,fun _ l row=>List.length_map ..,fun _ row l i=>Y9 row l i,fun _ _ _=>rfl,fun _ _=>we,fun _ _=>KS⟩
def amA{E:bz}(M:cG cB E):=And.intro (am1 M) (And.intro am2 (And.intro am3 (And.intro am4 (And.intro am5 (And.intro amL amS)))))
def amB:=And.intro @beq_true (And.intro @beq_false (And.intro @decide_true (And.intro @decide_false (And.intro and_true (And.intro true_and (And.intro Bool.and_true (And.intro Bool.true_and (And.intro Bool.and_false (And.intro Bool.false_and (And.intro Bool.or_false (And.intro Bool.false_or (And.intro Bool.or_true (And.intro Bool.true_or (And.intro Bool.false_eq_true
 (And.intro @if_false.{1} (And.intro @if_true.{1} (And.intro Bool.not_true (And.intro Bool.not_false (And.intro Nat.le_add_right (And.intro @Nat.le_add_right_of_le (And.intro @Option.map_some.{0,0} (And.intro @Option.map_none.{0,0} (And.intro @List.nil_append.{0} (And.intro @List.append_nil.{0} (And.intro @List.map_nil.{0,0} @rias_nat)))))))))))))))))))))))))
def amG:=And.intro amF (And.intro setRow_nil (And.intro setRow_cons (And.intro @List.set_cons_zero.{0} (And.intro @List.length_cons.{0} (And.intro @List.length_nil.{0} (And.intro Nat.zero_add (And.intro Nat.le_refl (And.intro @List.all_cons.{0} (And.intro @List.all_nil.{0} @List.cons_append.{0})))))))))
end Go.Am
end
section
namespace Go.Am
open Go.RowKit Go.ChangeShapes Go.WideShapes
structure VL (K:aI) (row:List AV) (cs:List Value):Prop where
 len:row.length=cs.length
 at_:∀ (i:Nat) (av:AV),row[i]?=some av→V K av (cs.getD i undef)
theorem VL.nil(K:aI):VL K [] []:=⟨rfl,fun i av h=>by simp at h⟩
theorem VL.one{K:aI}{a:AV}{v:Value}(h:V K a v):VL K [a] [v]:=⟨rfl,fun i av hi=>by
 cases i with
 |zero=>obtain rfl:a=av:=by simpa using hi
        simpa using h
 |succ i=>simp at hi⟩
theorem VL.append{K:aI}{a b:List AV}{c d:List Value}(h:VL K a c)(h':VL K b d):VL K (a++b) (c++d):=⟨by simp [h.len,h'.len],fun i av hi=>by
 have e:=h.len
 by_cases hl:i<a.length
 ·rw [List.getElem?_append_left hl] at hi
  have:=h.at_ i av hi
  rwa [List.getD_eq_getElem?_getD,List.getElem?_append_left (by omega),← List.getD_eq_getElem?_getD]
 ·rw [List.getElem?_append_right (by omega)] at hi
  have:=h'.at_ _ av hi
  rwa [List.getD_eq_getElem?_getD,List.getElem?_append_right (by omega),← e,← List.getD_eq_getElem?_getD]⟩
theorem VL.vs{K:aI}{row:List AV}{cs:Array Value}(h:VL K row cs.toList):Vs K row cs:=⟨by simpa using h.len,fun i av hi=>by simpa [Array.getD_eq_getD_getElem?] using h.at_ i av hi⟩
theorem VL.agg{K:aI}{row:List AV}{cs:Array Value}(h:VL K row cs.toList):V K (.agg row) (.agg cs):=.agg _ _ h.vs.size h.vs.at_
section
variable(P:Program)(W:World)(G:Nat→Option (List AV))
def pZ(t:TypeId){α:Type}(row:α→List AV)(ok:α→Prop):Prop:=
 ∀ (H:Type) (enc:TypeId×Value→H) (spare:Nat→Bool) (fuel:Nat) (cs:List Value) (x:DataW H×List MemPlace),DataW.trod enc P W 0 spare true fuel t cs=some x→∃ a,ok a∧VL (aI.start W G) (row a) cs
def Rz(fl:List (Nat×TypeId))(off w:Nat){α:Type}(row:α→List AV)(ok:α→Prop):Prop:=
 ∀ (H:Type) (enc:TypeId×Value→H) (spare:Nat→Bool) (fuel:Nat) (cs:List Value),
  (∀ (i:Nat) (f:Nat×TypeId),fl[i]?=some f→∃ x,DataW.trod enc P W 0 spare true fuel f.2 ((cs.drop f.1).take (P.cellsOf f.2))=some x)→cs.length=off+w→∃ a,ok a∧VL (aI.start W G) (row a) (cs.drop off)
def fieldsOf(t:TypeId):Option (List (Nat×TypeId)):=
 match P.underlying t with
 |some (.struct fs)=>some (fs.toList.map fun f=>(f.offset,f.type))
 |_=>none
end
section
variable{P:Program}{W:World}{G:Nat→Option (List AV)}
theorem iS{t:TypeId}(ht:P.underlying t=some .string):pZ P W G t eH (fun s=>s.length≤aX):=fun H enc spare fuel cs x h=>by
 obtain ⟨s,rfl,_,hs⟩:=DataW.trod_string ht h
 exact ⟨s.data.toList,by simpa [maxLen] using hs,VL.one (.str _)⟩
theorem Qm{t:TypeId}(ht:P.underlying t=some (.int .i64)):pZ P W G t Y7 I64:=fun H enc spare fuel cs x h=>by
 obtain ⟨n,rfl,_,hn⟩:=DataW.trod_int ht h
 refine ⟨n, ?_,VL.one (.int _ _)⟩
 simp only [Lit.wf] at hn
 revert hn
 simp [IntKind.has,IntKind.min,IntKind.max,IntKind.bits,IntKind.signed,I64]
theorem qg(off:Nat):Rz P W G [] off 0 (fun _:Unit=>[]) (fun _=>True):=fun H enc spare fuel cs _ hl=>⟨(),trivial,by
 rw [List.drop_of_length_le (by omega)];exact VL.nil _⟩
theorem bY{t:TypeId}{fl:List (Nat×TypeId)}{off w1 w2:Nat}{α β:Type}{row1:α→List AV}{row2:β→List AV}{ok1:α→Prop}{ok2:β→Prop}
  (h1:pZ P W G t row1 ok1) (hw:P.cellsOf t=w1) (h2:Rz P W G fl (off+w1) w2 row2 ok2):Rz P W G ((off,t)::fl) off (w1+w2) (fun a:α×β=>row1 a.1++row2 a.2) (fun a=>ok1 a.1∧ok2 a.2):=fun H enc spare fuel cs hf hl=>by
 obtain ⟨x,hx⟩:=hf 0 (off,t) rfl
 obtain ⟨a,ha,va⟩:=h1 H enc spare fuel _ x hx
 obtain ⟨b,hb,vb⟩:=h2 H enc spare fuel cs (fun i f hi=>hf (i+1) f (by simpa using hi)) (by omega)
 refine ⟨(a,b),⟨ha,hb⟩, ?_⟩
 have:=va.append vb
 simp only [hw] at this
 have e:(cs.drop off).take w1++cs.drop (off+w1)=cs.drop off:=by rw [← List.drop_drop,List.take_append_drop]
 rwa [e] at this
theorem mV{t:TypeId}{fl:List (Nat×TypeId)}{w:Nat}{α S:Type}{row:α→List AV}{ok:α→Prop}{rowS:S→List AV}{okS:S→Prop}(hf:fieldsOf P t=some fl)(hw:P.cellsOf t=w)
  (h:Rz P W G fl 0 w row ok) (φ:α→S) (hr:∀ a,rowS (φ a)=row a) (ho:∀ a,ok a→okS (φ a)):pZ P W G t rowS okS:=fun H enc spare fuel cs x hx=>by
 unfold fieldsOf at hf
 split at hf
 ·rename_i fs ht
  simp only [Option.some.injEq] at hf
  subst hf
  obtain ⟨xs,n,_,_,hl,hxl,hat⟩:=DataW.trod_struct ht hx
  obtain ⟨a,ha,va⟩:=h H enc spare n cs (fun i f hi=>by
   rw [List.getElem?_map] at hi
   cases hfi:fs.toList[i]? with
   |none=>rw [hfi] at hi;cases hi
   |some g=>
    rw [hfi] at hi
    obtain rfl:(g.offset,g.type)=f:=by simpa using hi
    have hg:fs[i]?=some g:=by simpa using hfi
    have:=hat i g hg
    have hlt:i<xs.length:=by rw [hxl];exact (Array.getElem?_eq_some_iff.1 hg).1
    rw [List.getElem?_eq_getElem hlt] at this
    exact ⟨_,this⟩) (by omega)
  exact ⟨φ a,ho a ha,by rw [hr];simpa using va⟩
 ·cases hf
theorem V9{α:Type}{p:Nat→α→Prop}:∀ (n:Nat),(∀ i,i<n→∃ a,p i a)→∃ l:List α,l.length=n∧∀ i a,l[i]?=some a→p i a
 |0,_=>⟨[],rfl,fun i a h=>by simp at h⟩
 |n+1,h=>by
  obtain ⟨l,h1,h2⟩:=V9 n (fun i hi=>h i (by omega))
  obtain ⟨a,ha⟩:=h n (by omega)
  refine ⟨l++[a],by simp [h1],fun i b hi => ?_⟩
  by_cases hl:i<l.length
  ·rw [List.getElem?_append_left hl] at hi;exact h2 i b hi
  ·rw [List.getElem?_append_right (by omega)] at hi
   have:i-l.length=0:=by
    cases hq:i-l.length with
    |zero=>rfl
    |succ k=>rw [hq] at hi;simp at hi
   rw [this] at hi
   obtain rfl:a=b:=by simpa using hi
   have:i=n:=by omega
   subst this;exact ha
theorem RA{t e:TypeId}{α:Type}{row:α→List AV}{ok:α→Prop}{sz:Nat}(ht:P.underlying t=some (.slice e))(hsz:P.cellsOf e=sz)(hpos:0<sz)(hrow:∀ a,(row a).length=sz)(he:pZ P W G e row ok) :
  pZ P W G t (fun s:Sl α=>[.slice s.tag sz (s.l.map row)]) (fun s=>s.ok 0 ok∧(s.tag = .nil∧s.l=[]∨s.tag = .some)):=fun H enc spare fuel cs x h=>by
 rcases Go.Deep.open_slice ht h with ⟨rfl,_⟩ | ⟨a,len,cap,m,n,D,Pl,rfl,hb,hl,hcap,hm,_,hel⟩
 ·exact ⟨⟨.nil,[]⟩,⟨⟨trivial,by simp,fun x hx=>by cases hx⟩,.inl ⟨rfl,rfl⟩⟩,VL.one (.slice0 _ _ _ (by simp))⟩
 ·rw [hsz] at hel
  have hlm:len≤m:=by rw [hm];split<;>omega
  obtain ⟨l,hll,hat⟩:=V9 (α:=α) (p:=fun i a'=>ok a'∧∃ cs',W.cells? 0 (a.add (i*sz)) sz=some cs'∧VL (aI.start W G) (row a') cs') len (fun i hi=>by
   obtain ⟨cs',h1,h2⟩:=hel i (by omega)
   obtain ⟨a',h3,h4⟩:=he H enc spare n cs' _ h2
   exact ⟨a',h3,cs',h1,h4⟩)
  refine ⟨⟨.some,l⟩,⟨⟨trivial,by rw [hll];simp only [aX,maxLen] at *;omega,fun x hx => ?_⟩,.inr rfl⟩,VL.one ?_⟩
  ·obtain ⟨i,hi⟩:=List.getElem?_of_mem hx
   exact (hat i x hi).1
  ·obtain ⟨b,o,spot⟩:=a
   cases l with
   |nil=>
    have:len=0:=by simpa using hll.symm
    subst this
    exact .sliceAny .some _ _ _ (.inr ⟨rfl,by simp⟩)
   |cons a0 l0=>
    obtain ⟨_,cs0,hc0,hv0⟩:=hat 0 a0 rfl
    obtain ⟨_,hcl,hcat⟩:=World.cells?_some hc0
    have hsp:spot=none:=by
     have h0:=hcat 0 hpos
     rw [List.getElem?_eq_getElem (by omega)] at h0
     simpa [Addr.add] using World.cell?_spot h0
    subst hsp
    have hlen:len=((a0::l0).map row).length:=by simpa using hll.symm
    rw [hlen]
    have key:∀ (i:Nat) (r:List AV),((a0::l0).map row)[i]?=some r→∃ cs',VL (aI.start W G) r cs'∧∀ j,j<sz→W.cell? ⟨b,o+i*sz+j,none⟩=cs'[j]? := fun i r hi=>by
     rw [List.getElem?_map] at hi
     cases hai:(a0::l0)[i]? with
     |none=>rw [hai] at hi;cases hi
     |some ai=>
      rw [hai] at hi
      obtain rfl:row ai=r:=by simpa using hi
      obtain ⟨_,cs',hc,hv⟩:=hat i ai hai
      obtain ⟨_,hcl',hcat'⟩:=World.cells?_some hc
      refine ⟨cs',hv,fun j hj => ?_⟩
      rw [← hcat' j hj]
      congr 1
      unfold Addr.add
      by_cases h1:i*sz=0<;>by_cases h2:j=0<;>simp [h1,h2,Nat.add_assoc]
    refine .slice .some sz _ b o cap (fun i j=>(W.cell? ⟨b,o+i*sz+j,none⟩).getD undef) (fun r hr => ?_) (fun i j r av hi hj => ?_) (fun i j r av hi hj => ?_) (by rw [← hlen];exact hl) trivial
    ·obtain ⟨a',_,rfl⟩:=List.mem_map.1 hr
     exact hrow a'
    ·obtain ⟨cs',hv,hc⟩:=key i r hi
     have hjl:j<r.length:=(List.getElem?_eq_some_iff.1 hj).1
     have hrl:r.length=sz:=by
      obtain ⟨a',_,rfl⟩:=List.mem_map.1 (List.mem_of_getElem? hi)
      exact hrow a'
     show W.cell? _=_
     have hcj:=hc j (by omega)
     rw [hcj,List.getElem?_eq_getElem (by rw [← hv.len];omega)]
     rfl
    ·obtain ⟨cs',hv,hc⟩:=key i r hi
     have hjl:j<r.length:=(List.getElem?_eq_some_iff.1 hj).1
     have hrl:r.length=sz:=by
      obtain ⟨a',_,rfl⟩:=List.mem_map.1 (List.mem_of_getElem? hi)
      exact hrow a'
     have:=hv.at_ j av hj
     rw [hc j (by omega),← List.getD_eq_getElem?_getD]
     exact this
theorem NZ{t:TypeId}{α:Type}{row:α→List AV}{ok ok':α→Prop}(h:pZ P W G t row ok)(hm:∀ a,ok a→ok' a):pZ P W G t row ok':=fun H enc spare fuel cs x hh=>
 let ⟨a,h1,h2⟩:=h H enc spare fuel cs x hh;⟨a,hm a h1,h2⟩
theorem aa5{t:TypeId}{fl:List (Nat×TypeId)}{r:Reach}{b:Nat}{v:Value}(hf:fieldsOf P t=some fl)(h:Value.okWide P W r b t v):∃ cs,v = .agg cs:=by
 unfold fieldsOf at hf
 split at hf
 ·rename_i fs ht
  simp only [Value.okWide,ht] at h
  obtain ⟨cs,rfl,_⟩:=h
  exact ⟨cs,rfl⟩
 ·cases hf
theorem aa6{t:TypeId}{r:Reach}{b:Nat}{v:Value}(ht:P.underlying t=some .string)(h:Value.okWide P W r b t v):∃ s,v = .string s:=by
 simp only [Value.okWide,ht,Cell.okWide,Cell.ok] at h
 split at h<;>first | exact ⟨_,rfl⟩ | (simp_all;done) | cases h
theorem SX{H:Type}{enc:TypeId×Value→H}{spare:Nat→Bool}{t:TypeId}{α:Type}{row:α→List AV}{ok:α→Prop}(ho:pZ P W G t row ok){v:Value}{d:DataW H}{ps:List MemPlace}
  (h:DataW.Trod enc P W 0 spare true t v d ps):∃ a,ok a∧VL (aI.start W G) (row a) v.cells.toList:=by
 obtain ⟨fuel,hf⟩:=h
 exact ho H enc spare fuel _ _ hf
end
end Go.Am
end
section
namespace Go.Am
open Go.RowKit
def lI:FuncId:=7
def rT:FuncId:=8
def fq:FuncId:=9
def Pw:FuncId:=10
def rO:FuncId:=15
def nz:FuncId:=16
def BX:FuncId:=17
def lw:FuncId:=23
def yu:FuncId:=24
def pg:FuncId:=25
def fZ:FuncId:=26
def jE:FuncId:=27
def RB:FuncId:=28
def E3:FuncId:=29
def Hn:FuncId:=30
def zV:FuncId:=37
def rU:FuncId:=38
def dZ:FuncId:=39
def Cd:FuncId:=43
def mW:FuncId:=44
def u1:FuncId:=45
def mX:FuncId:=46
def nA:FuncId:=47
def u3:FuncId:=48
def mY:FuncId:=49
def nB:FuncId:=50
def u4:FuncId:=51
def mZ:FuncId:=52
def nC:FuncId:=53
def u5:FuncId:=54
def m1:FuncId:=55
def nD:FuncId:=56
def u6:FuncId:=57
def nE:FuncId:=58
def n9:FuncId:=59
def dJ:FuncId:=60
def qh:FuncId:=61
def ph:FuncId:=62
def pi:FuncId:=63
def gl:FuncId:=64
def kg:FuncId:=65
def hZ:FuncId:=66
def lX:FuncId:=67
def tX:FuncId:=68
def rV:FuncId:=70
def wg:FuncId:=71
def lA:FuncId:=72
def oa:FuncId:=73
def oF:FuncId:=74
def eS:FuncId:=75
def Px:FuncId:=76
def nF:FuncId:=77
def zW:FuncId:=78
def Fl:FuncId:=79
def Py:FuncId:=80
def lJ:FuncId:=81
def KT:FuncId:=82
def a7:FuncId:=86
def gv:FuncId:=88
def De:FuncId:=89
def dn:FuncId:=91
def wh:FuncId:=92
def eb:FuncId:=93
def lY:FuncId:=94
def gH:FuncId:=95
def ec:FuncId:=96
def lZ:FuncId:=97
def nG:FuncId:=98
def l5:FuncId:=99
def lB:FuncId:=100
def kh:FuncId:=101
def ib:FuncId:=102
def xY:FuncId:=103
def ed:FuncId:=104
def l6:FuncId:=105
def eM:FuncId:=106
def l7:FuncId:=107
def Ce:FuncId:=108
def cO:FuncId:=109
def l8:FuncId:=110
def pj:FuncId:=111
def s9:FuncId:=112
def ii:FuncId:=113
def lK:FuncId:=114
def nH:FuncId:=115
def qi:FuncId:=116
def k8:FuncId:=117
def nI:FuncId:=118
def jq:FuncId:=119
def jr:FuncId:=120
def js:FuncId:=121
def jt:FuncId:=122
def ki:FuncId:=123
def mj:FuncId:=124
def kj:FuncId:=125
def dy:FuncId:=126
def dQ:FuncId:=127
def qj:FuncId:=128
def rW:FuncId:=129
def tc:FuncId:=130
def td:FuncId:=133
def te:FuncId:=134
def nX:FuncId:=135
def pm:FuncId:=136
def fb:FuncId:=137
def k9:FuncId:=138
def qk:FuncId:=139
def th:FuncId:=140
def JH:FuncId:=141
def nZ:FuncId:=142
def rp:FuncId:=143
def Mm:FuncId:=144
def m4:FuncId:=145
def Mn:FuncId:=146
def Mo:FuncId:=147
def Mp:FuncId:=148
def zX:FuncId:=149
def Cf:FuncId:=150
def Mq:FuncId:=151
def Mr:FuncId:=152
def Ms:FuncId:=153
def Mt:FuncId:=154
def c7:FuncId:=155
def m5:FuncId:=156
def yv:FuncId:=157
def iY:FuncId:=158
def pn:FuncId:=159
def cw:FuncId:=160
def ml:FuncId:=161
def cA:FuncId:=162
def nJ:FuncId:=163
def lC:FuncId:=164
def km:FuncId:=165
def oc:FuncId:=166
def dq:FuncId:=167
def dN:FuncId:=168
def cj:FuncId:=169
def u7:FuncId:=170
def sO:FuncId:=171
def ca:FuncId:=172
def lL:FuncId:=173
def rX:FuncId:=174
def qm:FuncId:=175
def eh:FuncId:=176
def tY:FuncId:=177
def qn:FuncId:=178
def qo:FuncId:=179
def m6:FuncId:=180
def qp:FuncId:=181
def wi:FuncId:=182
def od:FuncId:=183
def nQ:FuncId:=184
def fA:FuncId:=185
def jm:FuncId:=186
def N0:FuncId:=187
def Pz:FuncId:=188
def jF:FuncId:=189
def qq:FuncId:=190
def Cg:FuncId:=191
def yw:FuncId:=192
def xg:FuncId:=193
def x9:FuncId:=194
def dO:FuncId:=195
def po:FuncId:=196
def xI:FuncId:=197
def qr:FuncId:=198
def ko:FuncId:=199
def oG:FuncId:=200
def tZ:FuncId:=201
def rY:FuncId:=202
def qs:FuncId:=203
def tC:FuncId:=204
def dz:FuncId:=205
def pp:FuncId:=206
def zY:FuncId:=207
def rZ:FuncId:=208
def Df:FuncId:=209
def JI:FuncId:=210
def zZ:FuncId:=211
def ez:FuncId:=212
def yx:FuncId:=213
def JJ:FuncId:=214
def yy:FuncId:=215
def xh:FuncId:=216
def A8:FuncId:=217
def pq:FuncId:=218
def qt:FuncId:=219
def iZ:FuncId:=220
def Ch:FuncId:=221
def gy:FuncId:=222
def m7:FuncId:=223
def ei:FuncId:=224
def vJ:FuncId:=225
def zb:FuncId:=226
def Fm:FuncId:=227
def Gg:FuncId:=228
def Ho:FuncId:=229
def Ep:FuncId:=230
def zd:FuncId:=231
def ze:FuncId:=232
def l9:FuncId:=233
def kp:FuncId:=234
def gb:FuncId:=235
def bI:FuncId:=236
def jn:FuncId:=237
def JK:FuncId:=238
def fO:FuncId:=239
def t6:FuncId:=240
def yz:FuncId:=241
def jo:FuncId:=242
def JL:FuncId:=243
def gI:FuncId:=244
def wj:FuncId:=247
def bT:FuncId:=248
def xi:FuncId:=249
def pU:FuncId:=259
def Qo:TypeId:=3
def Za:TypeId:=4
def eN:TypeId:=5
def bv:TypeId:=9
def z6:TypeId:=22
def z7:TypeId:=23
def z8:TypeId:=24
def wl:TypeId:=25
def Ci:TypeId:=26
def am:TypeId:=28
def lM:TypeId:=42
def aQ:TypeId:=52
def ll:TypeId:=55
def fc:TypeId:=62
def bf:TypeId:=64
def ce:TypeId:=67
def Cj:TypeId:=68
def bo:TypeId:=70
def aY:TypeId:=72
def qu:TypeId:=73
def bq:TypeId:=75
def de:TypeId:=77
def cP:TypeId:=79
def dK:TypeId:=81
def N1:TypeId:=85
def bP:TypeId:=96
def bQ:TypeId:=105
def aW:TypeId:=124
def ct:TypeId:=128
def aA:TypeId:=138
def Ck:TypeId:=145
def RC:TypeId:=148
def JM:TypeId:=171
def d4:TypeId:=210
def ee:TypeId:=234
def UV:TypeId:=248
def UW:TypeId:=263
def Iv:TypeId:=272
def cD:TypeId:=276
def oe:TypeId:=279
def qv:TypeId:=291
def Er:TypeId:=299
def Gh:TypeId:=301
end Go.Am
end
