import Derived.Test.YtaigoffbhbpplaaGreatDoorA3
import Derived.Carry
import Derived.Deep.Slices
import Derived.DataReads
/-
  Part 4 of the tool: an abstract machine over the model, proved sound, and what it says of the functions that the law reaches. Condition: none but those that each theorem names.
-/
set_option linter.unusedVariables false
set_option linter.unusedSimpArgs false
section
namespace Go.Am
structure tq where
 f:FuncId
 args:List AV
 heap:List AObj
 v:AV
def dd(n:Nat)(l:List AObj):List AObj:=List.replicate n .dead++l
def Qi(f:FuncId)(args:List AV)(H:List AObj):List tq→Option AV
 |[]=>none
 |p::ps=>bif Nat.beq f p.f&&AV.eqbL args p.args&&HR p.heap H then some p.v else Qi f args H ps
def pin(f:FuncId):List tq→Bool
 |[]=>false
 |p::ps=>bif Nat.beq f p.f then true else pin f ps
def tq.Ok(P:Program)(G:Nat→Option (List AV))(p:tq):Prop:=∀ H2,HR p.heap H2=true→dC P G p.f p.args H2 fun r H'=>r = .ret p.v∧H'=H2
def YI(E0:aX):aX := { E0 with wo:=woK E0 100000 }
def XB(E0:aX)(ps:List tq)(f:FuncId)(args:List AV)(H:List AObj):Option Out:=
 match Qi f args H ps with
 |some v=>some (.ret v,H)
 |none=>bif pin f ps then Bc Vl (YI E0) 100000 f args H else E0.orc f args H
def EPo(E0:aX)(ps:List tq):aX := { E0 with fn:=fun f=>bif pin f ps then none else E0.fn f,orc:=XB E0 ps }
def EP(E0:aX)(ps:List tq):aX := { EPo E0 ps with wo:=woK (EPo E0 ps) 100000 }
theorem M9{P:Program}{G:Nat→Option (List AV)}{f:FuncId}{args:List AV}{H:List AObj}{v:AV}:∀ {ps:List tq},(∀ p∈ps,p.Ok P G)→Qi f args H ps=some v→dC P G f args H fun r H'=>r = .ret v∧H'=H
 |[],_,h=>by cases h
 |p::ps,hp,h=>by
  unfold Qi at h;cases hb:(Nat.beq f p.f&&AV.eqbL args p.args&&HR p.heap H) with
  |true=>
   rw [hb] at h;cases h;simp only [Bool.and_eq_true] at hb;rw [ZM hb.1.1,AV.eqbL_eq hb.1.2];exact hp p (by simp) H hb.2
  |false=>rw [hb] at h;exact M9 (fun q hq=>hp q (by simp [hq])) h
section
variable{E0:aX}(h0:E0.Ok)(hG:∀ n g cs,E0.G g=some cs→wkbL n cs=true)
include h0 hG in
theorem Vy:(YI E0).Ok:=⟨h0.mixed,h0.fn,h0.dfn,fun _ _ _ _ _ h=>Tc h0 hG h,h0.orc,h0.meth,h0.seq⟩
include h0 hG in
theorem XC{ps:List tq}(hp:∀ p∈ps,p.Ok E0.P E0.G)(hw:∀ f args H,E0.wo f args H=none):(EPo E0 ps).Ok:=⟨h0.mixed,fun f af h=>by
  have h':(bif pin f ps then none else E0.fn f)=some af:=h;cases hb:pin f ps with
  |true=>rw [hb] at h';cases h'
  |false=>rw [hb] at h';exact h0.fn f af h',h0.dfn,(fun f args H v L h=>by
  have h':E0.wo f args H=some (v,L):=h;rw [hw] at h';cases h'),fun f args H r H' h=>by
  have h':XB E0 ps f args H=some (r,H'):=h;unfold XB at h';split at h'
  ·rename_i v hv
   cases h';exact M9 hp hv
  ·cases hb:pin f ps with
   |true=>
    rw [hb] at h';exact ((yu (Vy h0 hG) 100000).2 _ _ _ _ _ h').mono fun r H' e=>e
   |false=>rw [hb] at h';exact h0.orc _ _ _ _ _ h',h0.meth,h0.seq⟩
include h0 hG in
theorem WT{ps:List tq}(hp:∀ p∈ps,p.Ok E0.P E0.G)(hw:∀ f args H,E0.wo f args H=none):(EP E0 ps).Ok:=
 have h:=XC h0 hG hp hw
 ⟨h.mixed,h.fn,h.dfn,fun _ _ _ _ _ e=>Tc h hG e,h.orc,h.meth,h.seq⟩
include h0 hG in
theorem Bl{ps:List tq}(hp:∀ p∈ps,p.Ok E0.P E0.G)(hw:∀ f args H,E0.wo f args H=none){p:tq}(h:Qf (EP E0 ps) 100000 p.f p.args p.heap=some p.v):∀ q∈p::ps,q.Ok E0.P E0.G:=fun q hq=>by
 rcases ZY.1 hq with rfl | hq
 ·exact fun H2 hs=>M7 (WT h0 hG hp hw) hG h hs
 ·exact hp q hq
end
end Go.Am
end
section
namespace Go.Am
open Go.RowKit Go.ChangeShapes
def au.start(W:World)(G:Nat→Option (List AV)):au:=
 {imm:=fun b o=>W.cell? ⟨b,o,none⟩,own:=fun _=>none,loc:=[],base:=fun b=>W.heap.size≤b,w0:=W,glob:=G,shape:=Cy W }
theorem Inv.start(W:World)(G:Nat→Option (List AV))(hG:∀ (g:Nat) (cs:List AV),G g=some cs→V (au.start W G) (.vptr cs.length [cs] 0 0) (.pointer (some ⟨g,0,none⟩))):Inv (au.start W G) [] W:=
 ⟨uL.refl _ _,fun _ h=>h,fun _ _ _ h=>h,rfl,(fun id x h=>by simp at h),(fun i j x y h=>by simp at h),(fun b t n h=>by cases h),hG,fun b s h=>M6 h⟩
section
variable{P:Program}
theorem Rt{G:Nat→Option (List AV)}{f:FuncId}{args:List AV}{W:World}{cargs:Array Value}(h:dC P G f args [] fun r H'=>r = .ret (.bool true)∧H'=[])
  (hG:∀ (g:Nat) (cs:List AV),G g=some cs→V (au.start W G) (.vptr cs.length [cs] 0 0) (.pointer (some ⟨g,0,none⟩)))
  (hb:(callFunc f cargs).run P W = .ok (.enter f cargs) W) (hv:Vs (au.start W G) args cargs):Calls P f cargs W fun e w'=>e = .returned (.bool true)∧Below W.heap.size W w':=by
 rcases h (au.start W G) W cargs rfl (Inv.start W G hG) hv with ⟨_,h2⟩ | ⟨cv,w',h1,_⟩
 ·refine h2.mono ?_
  rintro e w' ⟨K',r,H',hk,he,hi,rfl,rfl⟩;have hkept:=hi.below;rw [hk.base,hk.w0] at hkept;refine ⟨?_,hkept.below fun b hb=>hb⟩;cases e with
  |panicked c=>exact he.elim
  |outgrown=>exact he.elim
  |returned x=>
   have hx:V K' (.bool true) x:=he;cases hx;rfl
 ·rw [hb] at h1;cases h1
theorem Cz{H:Type}{enc:TypeId×Value→H}(hl:laidOutB P=true){W W':World}(hb:Below W.heap.size W W'):∀ (ts:List TypeId) (vs:List Value) (ds:List (DataW H)) (ps:List MemPlace),
  (∀ t∈ts,P.readableRec t=true∧t<P.types.size)→DataW.TrodAll enc P W 0 (fun _=>true) true ts vs ds ps→(∀ x∈ps,x.block<W.heap.size) →
  DataW.TrodAll enc P W' 0 (fun b=>decide (b<W.heap.size)) true ts vs ds ps
 |[],_,_,_,_,h,_=>by
  obtain ⟨rfl,rfl,rfl⟩:=trodAll_nil h;rfl
 |t::ts,_,_,_,hr,h,hlt=>by
  obtain ⟨v,vs1,d,ds1,a,b,rfl,rfl,rfl,h1,h2⟩:=trodAll_cons h;exact ⟨a,b,Below.trod hl (hr t (by simp)).1 (hr t (by simp)).2 h1 hb (fun x hx=>hlt x (by simp [hx])),Cz hl hb ts vs1 ds1 b (fun u hu=>hr u (by simp [hu])) h2 (fun x hx=>hlt x (by simp [hx])),rfl⟩
end
end Go.Am
end
section
namespace Go.Am.Sh
open Go.RowKit
abbrev t(n:Nat):RX:=.t n
abbrev i(n:Int):RX:=.c (.int .i64 n)
abbrev u(n:Int):RX:=.c (.int .u8 n)
abbrev T:RX:=.c (.bool true)
abbrev F:RX:=.c (.bool false)
abbrev s(x:List UInt8):RX:=.c (.str x)
abbrev f(n:Nat):RX:=.c (.fn (.func n) [] [])
abbrev o(d:Nat)(x:ROp):RO:=⟨some d,none,.op x⟩
abbrev n(x:ROp):RO:=⟨none,none,.op x⟩
abbrev g(d q:Nat)(x:ROp):RO:=⟨some d,some (q,true),.op x⟩
abbrev h(d q:Nat)(x:ROp):RO:=⟨some d,some (q,false),.op x⟩
abbrev k(d:Nat)(x:RX)(l:List RX):RO:=⟨some d,none,.call x l⟩
abbrev m(d x:Nat):RO:=⟨some d,none,.op (.mv (.t x))⟩
abbrev mc(d:Nat)(x:RX):RO:=⟨some d,none,.op (.mv x)⟩
abbrev ld(d x:Nat):RO:=⟨some d,none,.op (.ld none (.t x))⟩
abbrev la(d j x:Nat):RO:=⟨some d,none,.op (.ld (some j) (.t x))⟩
abbrev fa(d j x:Nat):RO:=⟨some d,none,.op (.fa j (.t x))⟩
abbrev ia(d j x y:Nat):RO:=⟨some d,none,.op (.ias j (.t x) (.t y))⟩
abbrev ls(d x:Nat):RO:=⟨some d,none,.op (.len .sl (.t x))⟩
abbrev lt(d x:Nat):RO:=⟨some d,none,.op (.len .str (.t x))⟩
abbrev ad(d x:Nat):RO:=⟨some d,none,.op (.ar .add (.t x) (.c (.int .i64 1)))⟩
abbrev bl(d x y:Nat):RO:=⟨some d,none,.op (.ar .lss (.t x) (.t y))⟩
abbrev no(d x:Nat):RO:=⟨some d,none,.op (.un .not (.t x))⟩
abbrev ex(d x j:Nat):RO:=⟨some d,none,.op (.ex (.t x) j)⟩
abbrev P(x:RO):RO×Cl:=(x,.pure)
abbrev W(x:RO):RO×Cl:=(x,.wide)
abbrev E(x:RO):RO×Cl:=(x,.eff)
abbrev K(x:RO):RO×Cl:=(x,.keep)
abbrev Q(x y:AC):AC:=.seq x y
abbrev C(c:Nat)(x y:AC):AC:=.cond (.t c) x y
abbrev O(l:List RO):AC:=.ops l
abbrev D(l:List (RO×Cl)):AC:=.dops false [] [] l
abbrev Y(l:List Nat):AC:=.lv l
abbrev R:AC:=.ret
abbrev X:AC:=.skip
abbrev ar(d:Nat)(op:BinOp)(x y:Nat):RO:=⟨some d,none,.op (.ar op (.t x) (.t y))⟩
abbrev ac(d:Nat)(op:BinOp)(x:Nat)(y:RX):RO:=⟨some d,none,.op (.ar op (.t x) y)⟩
abbrev pf(d c x:Nat):RO:=⟨some d,none,.op (.pk (.t c) (.t x) (.c (.bool false)))⟩
abbrev pt(d c x:Nat):RO:=⟨some d,none,.op (.pk (.t c) (.c (.bool true)) (.t x))⟩
abbrev k1(d f x:Nat):RO:=⟨some d,none,.call (.c (.fn (.func f) [] [])) [.t x]⟩
abbrev k2(d f x y:Nat):RO:=⟨some d,none,.call (.c (.fn (.func f) [] [])) [.t x,.t y]⟩
abbrev rt(d:Nat)(x:RX):AC:=.seq (.ops [⟨some d,none,.op (.mv x)⟩]) .ret
abbrev lo(l:List Nat)(x:AC):AC:=.loop ⟨some l,[],false⟩ x
abbrev lc(l:List Nat)(x:AC):AC:=.loop ⟨some l,[],true⟩ x
abbrev ic(b a c:Nat):AC:=.ops [⟨some b,none,.op (.mv (.t a))⟩,⟨some c,none,.op (.ar .add (.t b) (.c (.int .i64 1)))⟩,⟨some a,none,.op (.mv (.t c))⟩]
abbrev Pm(d x:Nat):RO×Cl:=(⟨some d,none,.op (.mv (.t x))⟩,.pure)
abbrev Pf(d j x:Nat):RO×Cl:=(⟨some d,none,.op (.fa j (.t x))⟩,.pure)
abbrev Wl(d x:Nat):RO×Cl:=(⟨some d,none,.op (.ld none (.t x))⟩,.wide)
abbrev qf(a:AFn)(r:List xg)(m:RM):Prop:=a.res=r∧a.mode=m∧a.dfr=none
end Go.Am.Sh
end
section
namespace Go.Am
end Go.Am
end
section
namespace Go.Am
def Bm(g:Nat→Option (List (List AV)×List Nat)):Nat→Option (List (List AV)×List Nat)
 |0=>some ([],[])
 |n+1=>match g (25-n) with
  |some (a,L)=>match Bm g n with
   |some (b,L2)=>some (a++b,L++L2)
   |none=>none
  |none=>none
def LL(rec:Nat→Option (List (List AV)×List Nat))(o:Option AV):Option (List (List AV)×List Nat):=
 match o with
 |some .nilp=>some ([],[])
 |some (.ptr q 0)=>rec q
 |_=>none
def DJ(o:Option AObj):Option (List AV×Int):=
 match o with
 |some (.cells cs _)=>match (cs[26]? : Option AV) with
  |some (.int .i64 m)=>some (cs,m)
  |_=>none
 |_=>none
def vM(H:List AObj):Nat→Nat→List UInt8→Option (List (List AV)×List Nat)
 |0,_,_=>none
 |d+1,q,s=>match DJ H[q]? with
  |some (cs,m)=>match Bm (fun k=>LL (fun q'=>vM H d q' (s++[UInt8.ofNat (97+k)])) cs[k]?) 26 with
   |some (xs,L)=>some ((if 0<m then [[.str s,.int .i64 m]] else [])++xs,q::L)
   |none=>none
  |none=>none
def wF(cap:List AV)(H:List AObj):Option (List (List AV)×List Nat):=
 match cap with
 |[.ptr id 0]=>match H[id]? with
  |some (.cells [.ptr id2 0] _)=>match H[id2]? with
   |some (.cells [_,_,_,_,_,_,.ptr r 0] _)=>vM H 30 r []
   |_=>none
  |_=>none
 |_=>none
end Go.Am
end
section
set_option linter.defProp false
namespace Go.Am
open Go.RowKit
abbrev Str:=List UInt8
abbrev aQ:Nat:=9223372036854775807
def I64(n:Int):Prop := -9223372036854775808≤n∧n≤9223372036854775807
structure Sl (α:Type) where
 tag:Tag
 l:List α
def Tag.strip:Tag→Tag
 |.own _=>.any
 |t=>t
def Sl.strip{α:Type}(s:Sl α):Sl α:=⟨s.tag.strip,s.l⟩
theorem Na(t:Tag)(n:Nat)(r:List (List AV)):AV.strip (.slice t n r) = .slice t.strip n r:=by cases t<;>rfl
theorem pj:(∀ (t:Tag) (n:Nat) (r:List (List AV)),AV.strip (.slice t n r) = .slice t.strip n r)∧(∀ (x:AV) (l:List AV),List.map AV.strip (x::l)=AV.strip x::List.map AV.strip l)∧List.map AV.strip []=[]∧(∀ a b:List AV,List.map AV.strip (a++b)=List.map AV.strip a++List.map AV.strip b):=
 ⟨Na,fun _ _=>rfl,rfl,fun _ _=>List.map_append⟩
structure Sl.ok {α:Type} (s:Sl α) (n:Nat) (p:α→Prop):Prop where
 tag:HO n s.tag
 len:s.l.length≤aQ
 all:∀ x∈s.l,p x
theorem HO.mono{n m:Nat}{t:Tag}(h:HO n t)(hn:n≤m):HO m t:=by
 cases t<;>first | trivial | exact ZN h hn
theorem Sl.ok.mono{α:Type}{s:Sl α}{n m:Nat}{p q:α→Prop}(h:s.ok n p)(hn:n≤m)(hp:∀ x,p x→q x):s.ok m q:=
 ⟨h.tag.mono hn,h.len,fun x hx=>hp x (h.all x hx)⟩
theorem Sl.ok.wk{α:Type}{s:Sl α}{n esz:Nat}{p:α→Prop}{row:α→List AV}(h:s.ok n p)(hr:∀ x,p x→WkL n (row x) (row x)):Wk n (.slice s.tag esz (s.l.map row)) (.slice s.tag esz (s.l.map row)):=
 wk_slice h.tag (by rw [rowsWk_map];exact fun x hx=>hr x (h.all x hx))
theorem HT{n:Nat}:∀ {a b c d:List AV},WkL n a b→WkL n c d→WkL n (a++c) (b++d)
 |[],[],_,_,_,h=>h
 |_::_,_::_,_,_,h,h'=>⟨h.1,HT h.2 h'⟩
 |[],_::_,_,_,h,_=>h.elim
 |_::_,[],_,_,h,_=>h.elim
def bJ(s:Str):List AV:=[.str s]
def Te(n:Int):List AV:=[.int .i64 n]
theorem Ju:(∀ s:Str,cK none (bJ s) 0=some (.str s))∧(∀ n:Int,cK none (Te n) 0=some (.int .i64 n)):=⟨fun _=>rfl,fun _=>rfl⟩
structure aI where
 name:Str
 value:Str
def aI.row(x:aI):List AV:=[.str x.name,.str x.value]
theorem sO:(∀ x:aI,rJ 2 (aI.row x)=some (aI.row x))∧(∀ x:aI,cK none (aI.row x) 0=some (.str x.name))∧(∀ x:aI,cK none (aI.row x) 1=some (.str x.value))∧(∀ x:aI,(aI.row x).length=2)∧(∀ x:aI,(aI.row x).all AV.cell=true)∧(∀ x:aI,∀ c0 c1:AV,aW [c0,c1] 0 (aI.row x)=aI.row x)∧(∀ x:aI,∀ y:aI,aW (aI.row y) 0 (aI.row x)=aI.row x)∧(∀ x:aI,∀ (y:Str),aW (aI.row x) 0 [.str y]=aI.row { x with name:=y })∧(∀ x:aI,∀ (y:Str),aW (aI.row x) 1 [.str y]=aI.row { x with value:=y })∧(∀ x:aI,(aI.row x).map AV.strip=aI.row x)∧(∀ x:aI,(aI.row x).take 2=aI.row x)∧(∀ x:aI,(aI.row x).drop 2=[]):=
 by refine ⟨?_, ?_, ?_, ?_, ?_, ?_, ?_, ?_, ?_, ?_, ?_, ?_⟩<;>(intros;first | rfl | (simp only [aI.row];rfl) | (simp only [aI.row,pj];rfl))
structure aI.ok (n:Nat) (x:aI):Prop where
 name:x.name.length≤aQ
 value:x.value.length≤aQ
theorem aI.ok.mono{n m:Nat}{x:aI}(h:x.ok n)(hn:n≤m):x.ok m:=⟨h.name,h.value⟩
theorem aI.ok.wk{n:Nat}{x:aI}(h:x.ok n):WkL n x.row x.row:=⟨wk_str _ _,wk_str _ _,trivial⟩
structure aK where
 name:Str
 values:Sl Str
def aK.row(x:aK):List AV:=[.str x.name,.slice x.values.tag 1 (x.values.l.map bJ)]
def aK.strip(x:aK):aK := { x with values:=x.values.strip }
theorem qB:(∀ x:aK,rJ 2 (aK.row x)=some (aK.row x))∧(∀ x:aK,cK none (aK.row x) 0=some (.str x.name))∧(∀ x:aK,cK none (aK.row x) 1=some (.slice x.values.tag 1 (x.values.l.map bJ)))∧(∀ x:aK,(aK.row x).length=2)∧(∀ x:aK,(aK.row x).all AV.cell=true)∧(∀ x:aK,∀ c0 c1:AV,aW [c0,c1] 0 (aK.row x)=aK.row x)∧(∀ x:aK,∀ y:aK,aW (aK.row y) 0 (aK.row x)=aK.row x)∧(∀ x:aK,∀ (y:Str),aW (aK.row x) 0 [.str y]=aK.row { x with name:=y })∧(∀ x:aK,∀ (t:Tag) (l:List Str),aW (aK.row x) 1 [.slice t 1 (l.map bJ)]=aK.row { x with values:=⟨t,l⟩ })∧(∀ x:aK,(aK.row x).map AV.strip=aK.row x.strip)∧(∀ x:aK,(aK.row x).take 2=aK.row x)∧(∀ x:aK,(aK.row x).drop 2=[]):=
 by refine ⟨?_, ?_, ?_, ?_, ?_, ?_, ?_, ?_, ?_, ?_, ?_, ?_⟩<;>(intros;first | rfl | (simp only [aK.row];rfl) | (simp only [aK.row,pj];rfl))
structure aK.ok (n:Nat) (x:aK):Prop where
 name:x.name.length≤aQ
 values:x.values.ok n (fun s=>s.length≤aQ)
theorem aK.ok.mono{n m:Nat}{x:aK}(h:x.ok n)(hn:n≤m):x.ok m:=⟨h.name,h.values.mono hn (fun _ h=>h)⟩
theorem aK.ok.wk{n:Nat}{x:aK}(h:x.ok n):WkL n x.row x.row:=⟨wk_str _ _,h.values.wk (fun _ _=>⟨wk_str _ _,trivial⟩),trivial⟩
structure aL where
 cut:Int
 pre:Str
 add:Str
 feats:Sl aI
def aL.row(x:aL):List AV:=[.int .i64 x.cut,.str x.pre,.str x.add,.slice x.feats.tag 2 (x.feats.l.map aI.row)]
def aL.strip(x:aL):aL := { x with feats:=x.feats.strip }
theorem mY:(∀ x:aL,rJ 4 (aL.row x)=some (aL.row x))∧(∀ x:aL,cK none (aL.row x) 0=some (.int .i64 x.cut))∧(∀ x:aL,cK none (aL.row x) 1=some (.str x.pre))∧(∀ x:aL,cK none (aL.row x) 2=some (.str x.add))∧(∀ x:aL,cK none (aL.row x) 3=some (.slice x.feats.tag 2 (x.feats.l.map aI.row)))∧(∀ x:aL,(aL.row x).length=4)∧(∀ x:aL,(aL.row x).all AV.cell=true)∧(∀ x:aL,∀ c0 c1 c2 c3:AV,aW [c0,c1,c2,c3] 0 (aL.row x)=aL.row x)∧(∀ x:aL,∀ y:aL,aW (aL.row y) 0 (aL.row x)=aL.row x)∧(∀ x:aL,∀ (y:Int),aW (aL.row x) 0 [.int .i64 y]=aL.row { x with cut:=y })∧(∀ x:aL,∀ (y:Str),aW (aL.row x) 1 [.str y]=aL.row { x with pre:=y })∧(∀ x:aL,∀ (y:Str),aW (aL.row x) 2 [.str y]=aL.row { x with add:=y })∧(∀ x:aL,∀ (t:Tag) (l:List aI),aW (aL.row x) 3 [.slice t 2 (l.map aI.row)]=aL.row { x with feats:=⟨t,l⟩ })∧(∀ x:aL,(aL.row x).map AV.strip=aL.row x.strip)∧(∀ x:aL,(aL.row x).take 4=aL.row x)∧(∀ x:aL,(aL.row x).drop 4=[]):=
 by refine ⟨?_, ?_, ?_, ?_, ?_, ?_, ?_, ?_, ?_, ?_, ?_, ?_, ?_, ?_, ?_, ?_⟩<;>(intros;first | rfl | (simp only [aL.row];rfl) | (simp only [aL.row,pj];rfl))
structure aL.ok (n:Nat) (x:aL):Prop where
 cut:I64 x.cut
 pre:x.pre.length≤aQ
 add:x.add.length≤aQ
 feats:x.feats.ok n (aI.ok n)
theorem aL.ok.mono{n m:Nat}{x:aL}(h:x.ok n)(hn:n≤m):x.ok m:=⟨h.cut,h.pre,h.add,h.feats.mono hn (fun _ h=>h.mono hn)⟩
theorem aL.ok.wk{n:Nat}{x:aL}(h:x.ok n):WkL n x.row x.row:=⟨wk_int _ _ _,wk_str _ _,wk_str _ _,h.feats.wk (fun _ h=>h.wk),trivial⟩
structure aG where
 name:Str
 slots:Sl aL
def aG.row(x:aG):List AV:=[.str x.name,.slice x.slots.tag 4 (x.slots.l.map aL.row)]
def aG.strip(x:aG):aG := { x with slots:=x.slots.strip }
theorem iN:(∀ x:aG,rJ 2 (aG.row x)=some (aG.row x))∧(∀ x:aG,cK none (aG.row x) 0=some (.str x.name))∧(∀ x:aG,cK none (aG.row x) 1=some (.slice x.slots.tag 4 (x.slots.l.map aL.row)))∧(∀ x:aG,(aG.row x).length=2)∧(∀ x:aG,(aG.row x).all AV.cell=true)∧(∀ x:aG,∀ c0 c1:AV,aW [c0,c1] 0 (aG.row x)=aG.row x)∧(∀ x:aG,∀ y:aG,aW (aG.row y) 0 (aG.row x)=aG.row x)∧(∀ x:aG,∀ (y:Str),aW (aG.row x) 0 [.str y]=aG.row { x with name:=y })∧(∀ x:aG,∀ (t:Tag) (l:List aL),aW (aG.row x) 1 [.slice t 4 (l.map aL.row)]=aG.row { x with slots:=⟨t,l⟩ })∧(∀ x:aG,(aG.row x).map AV.strip=aG.row x.strip)∧(∀ x:aG,(aG.row x).take 2=aG.row x)∧(∀ x:aG,(aG.row x).drop 2=[]):=
 by refine ⟨?_, ?_, ?_, ?_, ?_, ?_, ?_, ?_, ?_, ?_, ?_, ?_⟩<;>(intros;first | rfl | (simp only [aG.row];rfl) | (simp only [aG.row,pj];rfl))
structure aG.ok (n:Nat) (x:aG):Prop where
 name:x.name.length≤aQ
 slots:x.slots.ok n (aL.ok n)
theorem aG.ok.mono{n m:Nat}{x:aG}(h:x.ok n)(hn:n≤m):x.ok m:=⟨h.name,h.slots.mono hn (fun _ h=>h.mono hn)⟩
theorem aG.ok.wk{n:Nat}{x:aG}(h:x.ok n):WkL n x.row x.row:=⟨wk_str _ _,h.slots.wk (fun _ h=>h.wk),trivial⟩
structure bo where
 slot:Int
 word:Str
def bo.row(x:bo):List AV:=[.int .i64 x.slot,.str x.word]
theorem Bn:(∀ x:bo,rJ 2 (bo.row x)=some (bo.row x))∧(∀ x:bo,cK none (bo.row x) 0=some (.int .i64 x.slot))∧(∀ x:bo,cK none (bo.row x) 1=some (.str x.word))∧(∀ x:bo,(bo.row x).length=2)∧(∀ x:bo,(bo.row x).all AV.cell=true)∧(∀ x:bo,∀ c0 c1:AV,aW [c0,c1] 0 (bo.row x)=bo.row x)∧(∀ x:bo,∀ y:bo,aW (bo.row y) 0 (bo.row x)=bo.row x)∧(∀ x:bo,∀ (y:Int),aW (bo.row x) 0 [.int .i64 y]=bo.row { x with slot:=y })∧(∀ x:bo,∀ (y:Str),aW (bo.row x) 1 [.str y]=bo.row { x with word:=y })∧(∀ x:bo,(bo.row x).map AV.strip=bo.row x)∧(∀ x:bo,(bo.row x).take 2=bo.row x)∧(∀ x:bo,(bo.row x).drop 2=[]):=
 by refine ⟨?_, ?_, ?_, ?_, ?_, ?_, ?_, ?_, ?_, ?_, ?_, ?_⟩<;>(intros;first | rfl | (simp only [bo.row];rfl) | (simp only [bo.row,pj];rfl))
structure bo.ok (n:Nat) (x:bo):Prop where
 slot:I64 x.slot
 word:x.word.length≤aQ
theorem bo.ok.mono{n m:Nat}{x:bo}(h:x.ok n)(hn:n≤m):x.ok m:=⟨h.slot,h.word⟩
theorem bo.ok.wk{n:Nat}{x:bo}(h:x.ok n):WkL n x.row x.row:=⟨wk_int _ _ _,wk_str _ _,trivial⟩
structure ak where
 lem:Str
 cls:Str
 feats:Sl aI
 forms:Sl bo
def ak.row(x:ak):List AV:=[.str x.lem,.str x.cls,.slice x.feats.tag 2 (x.feats.l.map aI.row),.slice x.forms.tag 2 (x.forms.l.map bo.row)]
def ak.strip(x:ak):ak := { x with feats:=x.feats.strip,forms:=x.forms.strip }
theorem dg:(∀ x:ak,rJ 4 (ak.row x)=some (ak.row x))∧(∀ x:ak,cK none (ak.row x) 0=some (.str x.lem))∧(∀ x:ak,cK none (ak.row x) 1=some (.str x.cls))∧(∀ x:ak,cK none (ak.row x) 2=some (.slice x.feats.tag 2 (x.feats.l.map aI.row)))∧(∀ x:ak,cK none (ak.row x) 3=some (.slice x.forms.tag 2 (x.forms.l.map bo.row)))∧(∀ x:ak,(ak.row x).length=4)∧(∀ x:ak,(ak.row x).all AV.cell=true)∧(∀ x:ak,∀ c0 c1 c2 c3:AV,aW [c0,c1,c2,c3] 0 (ak.row x)=ak.row x)∧(∀ x:ak,∀ y:ak,aW (ak.row y) 0 (ak.row x)=ak.row x)∧(∀ x:ak,∀ (y:Str),aW (ak.row x) 0 [.str y]=ak.row { x with lem:=y })∧(∀ x:ak,∀ (y:Str),aW (ak.row x) 1 [.str y]=ak.row { x with cls:=y })∧(∀ x:ak,∀ (t:Tag) (l:List aI),aW (ak.row x) 2 [.slice t 2 (l.map aI.row)]=ak.row { x with feats:=⟨t,l⟩ })∧(∀ x:ak,∀ (t:Tag) (l:List bo),aW (ak.row x) 3 [.slice t 2 (l.map bo.row)]=ak.row { x with forms:=⟨t,l⟩ })∧(∀ x:ak,(ak.row x).map AV.strip=ak.row x.strip)∧(∀ x:ak,(ak.row x).take 4=ak.row x)∧(∀ x:ak,(ak.row x).drop 4=[]):=
 by refine ⟨?_, ?_, ?_, ?_, ?_, ?_, ?_, ?_, ?_, ?_, ?_, ?_, ?_, ?_, ?_, ?_⟩<;>(intros;first | rfl | (simp only [ak.row];rfl) | (simp only [ak.row,pj];rfl))
structure ak.ok (n:Nat) (x:ak):Prop where
 lem:x.lem.length≤aQ
 cls:x.cls.length≤aQ
 feats:x.feats.ok n (aI.ok n)
 forms:x.forms.ok n (bo.ok n)
theorem ak.ok.mono{n m:Nat}{x:ak}(h:x.ok n)(hn:n≤m):x.ok m:=⟨h.lem,h.cls,h.feats.mono hn (fun _ h=>h.mono hn),h.forms.mono hn (fun _ h=>h.mono hn)⟩
theorem ak.ok.wk{n:Nat}{x:ak}(h:x.ok n):WkL n x.row x.row:=⟨wk_str _ _,wk_str _ _,h.feats.wk (fun _ h=>h.wk),h.forms.wk (fun _ h=>h.wk),trivial⟩
structure aV where
 frm:Str
 to:Str
 left:Str
 right:Str
def aV.row(x:aV):List AV:=[.str x.frm,.str x.to,.str x.left,.str x.right]
theorem nk:(∀ x:aV,rJ 4 (aV.row x)=some (aV.row x))∧(∀ x:aV,cK none (aV.row x) 0=some (.str x.frm))∧(∀ x:aV,cK none (aV.row x) 1=some (.str x.to))∧(∀ x:aV,cK none (aV.row x) 2=some (.str x.left))∧(∀ x:aV,cK none (aV.row x) 3=some (.str x.right))∧(∀ x:aV,(aV.row x).length=4)∧(∀ x:aV,(aV.row x).all AV.cell=true)∧(∀ x:aV,∀ c0 c1 c2 c3:AV,aW [c0,c1,c2,c3] 0 (aV.row x)=aV.row x)∧(∀ x:aV,∀ y:aV,aW (aV.row y) 0 (aV.row x)=aV.row x)∧(∀ x:aV,∀ (y:Str),aW (aV.row x) 0 [.str y]=aV.row { x with frm:=y })∧(∀ x:aV,∀ (y:Str),aW (aV.row x) 1 [.str y]=aV.row { x with to:=y })∧(∀ x:aV,∀ (y:Str),aW (aV.row x) 2 [.str y]=aV.row { x with left:=y })∧(∀ x:aV,∀ (y:Str),aW (aV.row x) 3 [.str y]=aV.row { x with right:=y })∧(∀ x:aV,(aV.row x).map AV.strip=aV.row x)∧(∀ x:aV,(aV.row x).take 4=aV.row x)∧(∀ x:aV,(aV.row x).drop 4=[]):=
 by refine ⟨?_, ?_, ?_, ?_, ?_, ?_, ?_, ?_, ?_, ?_, ?_, ?_, ?_, ?_, ?_, ?_⟩<;>(intros;first | rfl | (simp only [aV.row];rfl) | (simp only [aV.row,pj];rfl))
structure aV.ok (n:Nat) (x:aV):Prop where
 frm:x.frm.length≤aQ
 to:x.to.length≤aQ
 left:x.left.length≤aQ
 right:x.right.length≤aQ
theorem aV.ok.mono{n m:Nat}{x:aV}(h:x.ok n)(hn:n≤m):x.ok m:=⟨h.frm,h.to,h.left,h.right⟩
theorem aV.ok.wk{n:Nat}{x:aV}(h:x.ok n):WkL n x.row x.row:=⟨wk_str _ _,wk_str _ _,wk_str _ _,wk_str _ _,trivial⟩
structure bF where
 cls:Str
 glue:Str
 feats:Sl aI
def bF.row(x:bF):List AV:=[.str x.cls,.str x.glue,.slice x.feats.tag 2 (x.feats.l.map aI.row)]
def bF.strip(x:bF):bF := { x with feats:=x.feats.strip }
theorem Nb:(∀ x:bF,rJ 3 (bF.row x)=some (bF.row x))∧(∀ x:bF,cK none (bF.row x) 0=some (.str x.cls))∧(∀ x:bF,cK none (bF.row x) 1=some (.str x.glue))∧(∀ x:bF,cK none (bF.row x) 2=some (.slice x.feats.tag 2 (x.feats.l.map aI.row)))∧(∀ x:bF,(bF.row x).length=3)∧(∀ x:bF,(bF.row x).all AV.cell=true)∧(∀ x:bF,∀ c0 c1 c2:AV,aW [c0,c1,c2] 0 (bF.row x)=bF.row x)∧(∀ x:bF,∀ y:bF,aW (bF.row y) 0 (bF.row x)=bF.row x)∧(∀ x:bF,∀ (y:Str),aW (bF.row x) 0 [.str y]=bF.row { x with cls:=y })∧(∀ x:bF,∀ (y:Str),aW (bF.row x) 1 [.str y]=bF.row { x with glue:=y })∧(∀ x:bF,∀ (t:Tag) (l:List aI),aW (bF.row x) 2 [.slice t 2 (l.map aI.row)]=bF.row { x with feats:=⟨t,l⟩ })∧(∀ x:bF,(bF.row x).map AV.strip=bF.row x.strip)∧(∀ x:bF,(bF.row x).take 3=bF.row x)∧(∀ x:bF,(bF.row x).drop 3=[]):=
 by refine ⟨?_, ?_, ?_, ?_, ?_, ?_, ?_, ?_, ?_, ?_, ?_, ?_, ?_, ?_⟩<;>(intros;first | rfl | (simp only [bF.row];rfl) | (simp only [bF.row,pj];rfl))
structure bF.ok (n:Nat) (x:bF):Prop where
 cls:x.cls.length≤aQ
 glue:x.glue.length≤aQ
 feats:x.feats.ok n (aI.ok n)
theorem bF.ok.mono{n m:Nat}{x:bF}(h:x.ok n)(hn:n≤m):x.ok m:=⟨h.cls,h.glue,h.feats.mono hn (fun _ h=>h.mono hn)⟩
theorem bF.ok.wk{n:Nat}{x:bF}(h:x.ok n):WkL n x.row x.row:=⟨wk_str _ _,wk_str _ _,h.feats.wk (fun _ h=>h.wk),trivial⟩
structure Lex where
 vowels:Str
 traits:Sl aK
 classes:Sl aG
 entries:Sl ak
 spells:Sl aV
 links:Sl bF
def Lex.row(x:Lex):List AV:=[.str x.vowels,.slice x.traits.tag 2 (x.traits.l.map aK.row),.slice x.classes.tag 2 (x.classes.l.map aG.row),.slice x.entries.tag 4 (x.entries.l.map ak.row),.slice x.spells.tag 4 (x.spells.l.map aV.row),.slice x.links.tag 3 (x.links.l.map bF.row)]
def Lex.strip(x:Lex):Lex := { x with traits:=x.traits.strip,classes:=x.classes.strip,entries:=x.entries.strip,spells:=x.spells.strip,links:=x.links.strip }
theorem bH:(∀ x:Lex,rJ 6 (Lex.row x)=some (Lex.row x))∧(∀ x:Lex,cK none (Lex.row x) 0=some (.str x.vowels))∧(∀ x:Lex,cK none (Lex.row x) 1=some (.slice x.traits.tag 2 (x.traits.l.map aK.row)))∧(∀ x:Lex,cK none (Lex.row x) 2=some (.slice x.classes.tag 2 (x.classes.l.map aG.row)))∧(∀ x:Lex,cK none (Lex.row x) 3=some (.slice x.entries.tag 4 (x.entries.l.map ak.row)))∧(∀ x:Lex,cK none (Lex.row x) 4=some (.slice x.spells.tag 4 (x.spells.l.map aV.row)))∧(∀ x:Lex,cK none (Lex.row x) 5=some (.slice x.links.tag 3 (x.links.l.map bF.row)))∧(∀ x:Lex,(Lex.row x).length=6)∧(∀ x:Lex,(Lex.row x).all AV.cell=true)∧(∀ x:Lex,∀ c0 c1 c2 c3 c4 c5:AV,aW [c0,c1,c2,c3,c4,c5] 0 (Lex.row x)=Lex.row x)∧(∀ x:Lex,∀ y:Lex,aW (Lex.row y) 0 (Lex.row x)=Lex.row x)∧(∀ x:Lex,∀ (y:Str),aW (Lex.row x) 0 [.str y]=Lex.row { x with vowels:=y })∧(∀ x:Lex,∀ (t:Tag) (l:List aK),aW (Lex.row x) 1 [.slice t 2 (l.map aK.row)]=Lex.row { x with traits:=⟨t,l⟩ })∧(∀ x:Lex,∀ (t:Tag) (l:List aG),aW (Lex.row x) 2 [.slice t 2 (l.map aG.row)]=Lex.row { x with classes:=⟨t,l⟩ })∧(∀ x:Lex,∀ (t:Tag) (l:List ak),aW (Lex.row x) 3 [.slice t 4 (l.map ak.row)]=Lex.row { x with entries:=⟨t,l⟩ })∧(∀ x:Lex,∀ (t:Tag) (l:List aV),aW (Lex.row x) 4 [.slice t 4 (l.map aV.row)]=Lex.row { x with spells:=⟨t,l⟩ })∧(∀ x:Lex,∀ (t:Tag) (l:List bF),aW (Lex.row x) 5 [.slice t 3 (l.map bF.row)]=Lex.row { x with links:=⟨t,l⟩ })∧(∀ x:Lex,(Lex.row x).map AV.strip=Lex.row x.strip)∧(∀ x:Lex,(Lex.row x).take 6=Lex.row x)∧(∀ x:Lex,(Lex.row x).drop 6=[]):=
 by refine ⟨?_, ?_, ?_, ?_, ?_, ?_, ?_, ?_, ?_, ?_, ?_, ?_, ?_, ?_, ?_, ?_, ?_, ?_, ?_, ?_⟩<;>(intros;first | rfl | (simp only [Lex.row];rfl) | (simp only [Lex.row,pj];rfl))
structure Lex.ok (n:Nat) (x:Lex):Prop where
 vowels:x.vowels.length≤aQ
 traits:x.traits.ok n (aK.ok n)
 classes:x.classes.ok n (aG.ok n)
 entries:x.entries.ok n (ak.ok n)
 spells:x.spells.ok n (aV.ok n)
 links:x.links.ok n (bF.ok n)
theorem Lex.ok.mono{n m:Nat}{x:Lex}(h:x.ok n)(hn:n≤m):x.ok m:=⟨h.vowels,h.traits.mono hn (fun _ h=>h.mono hn),h.classes.mono hn (fun _ h=>h.mono hn),h.entries.mono hn (fun _ h=>h.mono hn),h.spells.mono hn (fun _ h=>h.mono hn),h.links.mono hn (fun _ h=>h.mono hn)⟩
theorem Lex.ok.wk{n:Nat}{x:Lex}(h:x.ok n):WkL n x.row x.row:=⟨wk_str _ _,h.traits.wk (fun _ h=>h.wk),h.classes.wk (fun _ h=>h.wk),h.entries.wk (fun _ h=>h.wk),h.spells.wk (fun _ h=>h.wk),h.links.wk (fun _ h=>h.wk),trivial⟩
structure yw where
 entry:Int
 slot:Int
 link:Int
def yw.row(x:yw):List AV:=[.int .i64 x.entry,.int .i64 x.slot,.int .i64 x.link]
structure yw.ok (n:Nat) (x:yw):Prop where
 entry:I64 x.entry
 slot:I64 x.slot
 link:I64 x.link
theorem yw.ok.mono{n m:Nat}{x:yw}(h:x.ok n)(hn:n≤m):x.ok m:=⟨h.entry,h.slot,h.link⟩
theorem yw.ok.wk{n:Nat}{x:yw}(h:x.ok n):WkL n x.row x.row:=⟨wk_int _ _ _,wk_int _ _ _,wk_int _ _ _,trivial⟩
structure qC where
 firsts:Sl yw
 entry:Int
 slot:Int
def qC.row(x:qC):List AV:=[.slice x.firsts.tag 3 (x.firsts.l.map yw.row),.int .i64 x.entry,.int .i64 x.slot]
def qC.strip(x:qC):qC := { x with firsts:=x.firsts.strip }
structure qC.ok (n:Nat) (x:qC):Prop where
 firsts:x.firsts.ok n (yw.ok n)
 entry:I64 x.entry
 slot:I64 x.slot
theorem qC.ok.mono{n m:Nat}{x:qC}(h:x.ok n)(hn:n≤m):x.ok m:=⟨h.firsts.mono hn (fun _ h=>h.mono hn),h.entry,h.slot⟩
theorem qC.ok.wk{n:Nat}{x:qC}(h:x.ok n):WkL n x.row x.row:=⟨h.firsts.wk (fun _ h=>h.wk),wk_int _ _ _,wk_int _ _ _,trivial⟩
structure Ask where
 lem:Str
 cls:Str
 feats:Sl aI
 entry:Int
 slot:Int
def Ask.row(x:Ask):List AV:=[.str x.lem,.str x.cls,.slice x.feats.tag 2 (x.feats.l.map aI.row),.int .i64 x.entry,.int .i64 x.slot]
def Ask.strip(x:Ask):Ask := { x with feats:=x.feats.strip }
structure Ask.ok (n:Nat) (x:Ask):Prop where
 lem:x.lem.length≤aQ
 cls:x.cls.length≤aQ
 feats:x.feats.ok n (aI.ok n)
 entry:I64 x.entry
 slot:I64 x.slot
theorem Ask.ok.mono{n m:Nat}{x:Ask}(h:x.ok n)(hn:n≤m):x.ok m:=⟨h.lem,h.cls,h.feats.mono hn (fun _ h=>h.mono hn),h.entry,h.slot⟩
theorem Ask.ok.wk{n:Nat}{x:Ask}(h:x.ok n):WkL n x.row x.row:=⟨wk_str _ _,wk_str _ _,h.feats.wk (fun _ h=>h.wk),wk_int _ _ _,wk_int _ _ _,trivial⟩
theorem aF{α:Type}{row:α→List AV}{l:List α}{tag:Tag}{sz:Nat}{k:IntKind}{i:Nat}(h:i<l.length):Eu sz (.slice tag sz (l.map row)) (.int k (i:Int))=some (.vptr sz (l.map row) i 0):=
 rias_nat (esz:=0) (by simpa using h)
theorem Tg{α:Type}{row:α→List AV}{l:List α}{tag:Tag}{sz:Nat}{k:IntKind}(h:0<l.length):Eu sz (.slice tag sz (l.map row)) (.int k 0)=some (.vptr sz (l.map row) 0 0):=
 aF (i:=0) h
theorem EA{α:Type}{row:α→List AV}{l:List α}{tag:Tag}{sz:Nat}{k:IntKind}{i:Nat}(h:i<l.length):yq sz (.slice tag sz (l.map row)) none (some (.int k (i:Int))) none=some (.slice .any sz ((l.take i).map row)):=by
 have h0:l≠[]:=fun e=>by simp [e] at h
 simp [yq,fT,Nat.le_of_lt h,h0,List.map_take]
theorem aZ{i n:Nat}(h:i<n)(hn:n≤aQ):IntKind.i64.wrap ((i:Int)+1)=((i+1:Nat):Int):=by
 rw [dZ (by omega) (by simp only [aQ] at hn;omega)];rfl
theorem EB{i:Nat}(h:i+1≤aQ):IntKind.i64.wrap (((i+1:Nat):Int)-1)=(i:Int):=by
 simp only [aQ] at h;rw [dZ (by omega) (by omega)];omega
theorem Qj{i:Nat}(h0:0<i)(h:i≤aQ):IntKind.i64.wrap ((i:Int)-1)=((i-1:Nat):Int):=by
 simp only [aQ] at h;rw [dZ (by omega) (by omega)];omega
theorem Th{α:Type}(row:α→List AV)(l:List α)(i:Nat):(l.map row)[i]?=(l[i]?).map row:=ZK ..
def slc{α:Type}(b:Bool)(x y:α):α:=
 match b with
 |true=>x
 |false=>y
theorem br{α:Type}{b b':Bool}{x y:α}(h:b=b'):sel b x y=sel b' x y:=by rw [h]
theorem aJ{α:Type}{b b':Bool}{x x' y y':α}(hb:b=b')(hx:b'=true→x=x')(hy:b'=false→y=y'):slc b x y=slc b' x' y':=by
 subst hb;cases b
 ·exact hy rfl
 ·exact hx rfl
theorem slc_true{α:Type}(x y:α):slc true x y=x:=rfl
theorem slc_false{α:Type}(x y:α):slc false x y=y:=rfl
theorem slc_not{α:Type}(b:Bool)(x y:α):slc (!b) x y=slc b y x:=by cases b<;>rfl
theorem amS :
 (∀ (α:Type) (b:Bool) (x y:α),sel b x y=slc b x y) ∧
 (∀ (α:Type) (x y:α),slc true x y=x)∧(∀ (α:Type) (x y:α),slc false x y=y)∧(∀ (α:Type) (b:Bool) (x y:α),slc (!b) x y=slc b y x) ∧
 (∀ (α:Type) (b:Bool) (x:α),slc b x x=x) ∧
 (∀ (α:Type) (b:Bool) (x y:α),slc b (some x) (some y)=some (slc b x y)) ∧
 (∀ (α β:Type) (b:Bool) (x x':α) (y y':β),slc b (x,y) (x',y')=(slc b x x',slc b y y')) ∧
 (∀ (b:Bool) (v v':AV),slc b (s8.ret v) (s8.ret v') = .ret (slc b v v')) ∧
 (∀ (b p q:Bool),slc b (AV.bool p) (AV.bool q) = .bool (slc b p q)) ∧
 (∀ (b:Bool) (k:IntKind) (x y:Int),slc b (AV.int k x) (AV.int k y) = .int k (slc b x y)) ∧
 (∀ (b:Bool) (x y:Str),slc b (AV.str x) (AV.str y) = .str (slc b x y)) ∧
 (∀ (α:Type) (b p:Bool) (x y:α),slc b (slc p x y) y=slc (b&&p) x y) ∧
 (∀ b p:Bool,slc b p false=(b&&p))∧(∀ b p:Bool,slc b true p=(b||p))∧(∀ b p:Bool,slc b p true=(!b||p))∧(∀ b p:Bool,slc b false p=(!b&&p)) ∧
 (∀ (α:Type) (b w:Bool) (v v':AV) (x u:Option α),Bh (slc b v v') w x u=slc b (Bh v w x u) (Bh v' w x u)):=
 ⟨fun _ _ _ _=>rfl,fun _ _ _=>rfl,fun _ _ _=>rfl,fun _=>slc_not,fun _ b _=>by cases b<;>rfl,fun _ b _ _=>by cases b<;>rfl,fun _ _ b _ _ _ _=>by cases b<;>rfl,fun b _ _=>by cases b<;>rfl,fun b _ _=>by cases b<;>rfl,
  fun b _ _ _=>by cases b<;>rfl,fun b _ _=>by cases b<;>rfl,fun _ b p _ _=>by cases b<;>cases p<;>rfl,fun b _=>by cases b<;>rfl,fun b _=>by cases b<;>rfl,fun b _=>by cases b<;>rfl,fun b _=>by cases b<;>rfl,fun _ b _ _ _ _ _=>by cases b<;>rfl⟩
def orE(o:Option AV)(H:List AObj)(x:Option Out):Option Out:=
 match o with
 |some v=>some (.ret v,H)
 |none=>x
def orO{α:Type}(o y:Option α):Option α:=
 match o with
 |some v=>some v
 |none=>y
def bS{α:Type}(F:Nat→α→Option AV):Nat→List α→Option AV
 |_,[]=>none
 |i,x::l=>orO (F i x) (bS F (i+1) l)
theorem yx(v:AV)(H:List AObj)(x:Option Out):orE (some v) H x=some (.ret v,H):=rfl
theorem Nc(H:List AObj)(x:Option Out):orE none H x=x:=rfl
theorem B3(b:Bool)(o o':Option AV)(H:List AObj)(x:Option Out):orE (sel b o o') H x=sel b (orE o H x) (orE o' H x):=by cases b<;>rfl
theorem LM(o o':Option AV)(H:List AObj)(x:Option Out):orE (orO o o') H x=orE o H (orE o' H x):=by cases o<;>rfl
theorem Bo{α:Type}(v:α)(y:Option α):orO (some v) y=some v:=rfl
theorem Bp{α:Type}(y:Option α):orO none y=y:=rfl
theorem DK{α:Type}(b:Bool)(o o' y:Option α):orO (sel b o o') y=sel b (orO o y) (orO o' y):=by cases b<;>rfl
theorem O4{α:Type}(F:Nat→α→Option AV)(i:Nat):bS F i []=none:=rfl
theorem lj{α:Type}(F:Nat→α→Option AV)(i:Nat)(x:α)(l:List α):bS F i (x::l)=orO (F i x) (bS F (i+1) l):=rfl
theorem yy{α:Type}{l:List α}{n:Nat}(h:l.length≤n)(i:Nat):(l.take i).length≤n:=by simp;omega
theorem tr{H0 H:List AObj}(h:b4 H0 H)(L:List AObj):b4 H0 (H++L):=
 ⟨by have:=h.1;simp;omega,fun i x hi hx=>h.2 i x hi (by
  have:=h.1;rwa [ZE (by omega)] at hx)⟩
theorem EC{H0 H:List AObj}(h:b4 H0 H)(L:List AObj):(H++L).take H0.length=H.take H0.length:=
 List.take_append_of_le_length h.1
theorem HU{sz:Nat}{r:List AV}(h1:r.length=sz)(h2:r.all AV.cell=true):nj sz [r]=true:=by simp [nj,h1,h2]
theorem HV{α:Type}{row:α→List AV}{l:List α}{x:α}{r:List AV}{sz bytes:Nat}{e:TypeId}(H:List AObj)(h1:r.length=sz)(h2:r.all AV.cell=true)(h3:r.map AV.strip=row x)
  (hl:(l.length+1)*bytes≤140737488355328) (hl2:l.length+1≤4611686018427387904) :
  rap false (H++[.tok (l.length*sz) e]) e sz bytes false (.slice (.own H.length) sz (l.map row)) (.slice .full sz [r])=some (.slice (.own H.length) sz ((l++[x]).map row),H++[.tok ((l++[x]).length*sz) e]):=by
 have hr:(r.length=sz∧∀ x∈r,x.cell=true):=⟨h1,by simpa using h2⟩
 simp only [rap,xE,uq,List.length_map,List.length_cons,List.length_nil,Nat.zero_add,or_true,if_true,hl,hl2,HU h1 h2,and_true,true_and,cI,List.getElem?_cons_zero,hp_set0,List.set_cons_zero,List.map_cons,List.map_nil,h3,List.map_append,List.length_append,Nat.add_mul,Nat.one_mul];rw [Nat.add_mul,Nat.one_mul] at hl;rw [if_pos hl]
def HW(pl:Nat→Option (Nat×Nat))(cs:List AV)(rest:List (Nat×AV))(o:Option (Nat×Nat))(c:Option (List AV)):Option (List AV):=
 match o,c with
 |some (off,size),some cells=>if cells.length=size∧off+cells.length≤cs.length then mV pl (aW cs off cells) rest else none
 |_,_=>none
theorem Ru(pl:Nat→Option (Nat×Nat))(cs:List AV):mV pl cs []=some cs:=rfl
theorem O5(pl:Nat→Option (Nat×Nat))(cs:List AV)(i:Nat)(v:AV)(rest:List (Nat×AV)):mV pl cs ((i,v)::rest)=HW pl cs rest (pl i) (fS v):=by
 rfl
theorem Nd(pl:Nat→Option (Nat×Nat))(cs:List AV)(rest:List (Nat×AV))(off size:Nat)(cells:List AV)(h1:cells.length=size)(h2:off+size≤cs.length):HW pl cs rest (some (off,size)) (some cells)=mV pl (aW cs off cells) rest:=by
 subst h1;rw [HW];exact if_pos ⟨rfl,h2⟩
theorem YJ(f:Nat×RX→Nat×AV):List.map f []=[]:=rfl
theorem YK(f:Nat×RX→Nat×AV)(x:Nat×RX)(l:List (Nat×RX)):List.map f (x::l)=f x::List.map f l:=rfl
theorem amF :
 (∀ (pl:Nat→Option (Nat×Nat)) (cs:List AV),mV pl cs []=some cs) ∧
 (∀ (pl:Nat→Option (Nat×Nat)) (cs:List AV) (i:Nat) (v:AV) (rest:List (Nat×AV)),mV pl cs ((i,v)::rest)=HW pl cs rest (pl i) (fS v)) ∧
 (∀ (pl:Nat→Option (Nat×Nat)) (cs:List AV) (rest:List (Nat×AV)) (off size:Nat) (cells:List AV),cells.length=size→off+size≤cs.length→HW pl cs rest (some (off,size)) (some cells)=mV pl (aW cs off cells) rest) ∧
 (∀ (f:Nat×RX→Nat×AV),List.map f []=[]) ∧
 (∀ (f:Nat×RX→Nat×AV) (x:Nat×RX) (l:List (Nat×RX)),List.map f (x::l)=f x::List.map f l) ∧
 (∀ (z:List AV),AZ 0 z=[]) ∧
 (∀ (n:Nat) (z:List AV),AZ (n+1) z=z++AZ n z) ∧
 (∀ (n:Nat) (cs:List AV),yj n 0 cs=[]) ∧
 (∀ (n k:Nat) (cs:List AV),yj n (k+1) cs=cs.take n::yj n k (cs.drop n)) ∧
 (∀ (l:List AV),l.take 0=[])∧(∀ (n:Nat) (x:AV) (l:List AV),(x::l).take (n+1)=x::l.take n) ∧
 (∀ (l:List AV),l.drop 0=l)∧(∀ (n:Nat) (x:AV) (l:List AV),(x::l).drop (n+1)=l.drop n) ∧
 (∀ (s:Str),AV.strip (.str s) = .str s)∧(∀ (k:IntKind) (n:Int),AV.strip (.int k n) = .int k n)∧(∀ (b:Bool),AV.strip (.bool b) = .bool b)∧(∀ (f:Fn) (x y:List AV),AV.strip (.fn f x y) = .fn f x y) ∧
 (∀ (t n:Nat) (r:List (List AV)),AV.strip (.slice (.own t) n r) = .slice .any n r)∧(∀ (n:Nat) (r:List (List AV)),AV.strip (.slice .any n r) = .slice .any n r)∧(∀ (n:Nat) (r:List (List AV)),AV.strip (.slice .nil n r) = .slice .nil n r)∧(∀ (n:Nat) (r:List (List AV)),AV.strip (.slice .full n r) = .slice .full n r) ∧
 (∀ (f:AV→AV),List.map f []=[])∧(∀ (f:AV→AV) (x:AV) (l:List AV),List.map f (x::l)=f x::List.map f l) ∧
 (∀ (x:Nat×Nat) (l:List (Nat×Nat)),(x::l)[0]?=some x)∧(∀ (x:Nat×Nat) (l:List (Nat×Nat)) (n:Nat),(x::l)[n+1]?=l[n]?):=
 ⟨Ru,O5,Nd,YJ,YK,fun _=>rfl,fun _ _=>rfl,fun _ _=>rfl,fun _ _ _=>rfl,fun _=>rfl,fun _ _ _=>rfl,fun _=>rfl,fun _ _ _=>rfl,fun _=>rfl,fun _ _=>rfl,fun _=>rfl,fun _ _ _=>rfl,fun _ _ _=>rfl,fun _ _=>rfl,fun _ _=>rfl,fun _ _=>rfl,fun _=>rfl,fun _ _ _=>rfl,fun _ _=>rfl,fun _ _ _=>rfl⟩
theorem amL :
 (∀ (v:AV) (H:List AObj) (x:Option Out),orE (some v) H x=some (.ret v,H)) ∧
 (∀ (H:List AObj) (x:Option Out),orE none H x=x) ∧
 (∀ (b:Bool) (o o':Option AV) (H:List AObj) (x:Option Out),orE (slc b o o') H x=slc b (orE o H x) (orE o' H x)) ∧
 (∀ (o o':Option AV) (H:List AObj) (x:Option Out),orE (orO o o') H x=orE o H (orE o' H x)) ∧
 (∀ (v:AV) (y:Option AV),orO (some v) y=some v) ∧
 (∀ (y:Option AV),orO none y=y) ∧
 (∀ (b:Bool) (o o' y:Option AV),orO (slc b o o') y=slc b (orO o y) (orO o' y)) ∧
 (∀ (α:Type) (F:Nat→α→Option AV) (i:Nat),bS F i []=none) ∧
 (∀ (α:Type) (F:Nat→α→Option AV) (i:Nat) (x:α) (l:List α),bS F i (x::l)=orO (F i x) (bS F (i+1) l)) ∧
 (∀ (α:Type) (l:List α) (row:α→List AV),(l.map row).length=l.length) ∧
 (∀ (α:Type) (row:α→List AV) (l:List α) (i:Nat),(l.map row)[i]?=(l[i]?).map row) ∧
 (∀ (α:Type) (f:α→List AV) (x:α),(some x).map f=some (f x)) ∧
 (∀ (H0 H:List AObj),b4 H0 H→∀ (L:List AObj),b4 H0 (H++L)) ∧
 (∀ (H0 H:List AObj),b4 H0 H→∀ (L:List AObj),(H++L).take H0.length=H.take H0.length):=
 ⟨yx,Nc,B3,LM,Bo,Bp,DK,fun _=>O4,fun _=>lj,fun _ l row=>ZL ..,fun _ row l i=>Th row l i,fun _ _ _=>rfl,fun _ _=>tr,fun _ _=>EC⟩
def amA{E:aX}(M:bR bN E):=And.intro (am1 M) (And.intro am2 (And.intro am3 (And.intro am4 (And.intro am5 (And.intro amL amS)))))
def amB:=And.intro @beq_true (And.intro @beq_false (And.intro @decide_true (And.intro @decide_false (And.intro and_true (And.intro true_and (And.intro Bool.and_true (And.intro Bool.true_and (And.intro Bool.and_false (And.intro Bool.false_and (And.intro Bool.or_false (And.intro Bool.false_or (And.intro Bool.or_true (And.intro Bool.true_or (And.intro Bool.false_eq_true
 (And.intro @if_false.{1} (And.intro @if_true.{1} (And.intro Bool.not_true (And.intro Bool.not_false (And.intro Nat.le_add_right (And.intro @Nat.le_add_right_of_le (And.intro @Option.map_some.{0,0} (And.intro @Option.map_none.{0,0} (And.intro @List.nil_append.{0} (And.intro @List.append_nil.{0} (And.intro @List.map_nil.{0,0} @rias_nat)))))))))))))))))))))))))
def amC{E:aX}(M:bR bN E):=And.intro (amA M) amB
def amD:=And.intro @slc_true (And.intro @slc_false (And.intro @slc_not @fget_at))
def amG:=And.intro amF (And.intro setRow_nil (And.intro setRow_cons (And.intro @List.set_cons_zero.{0} (And.intro @List.length_cons.{0} (And.intro @List.length_nil.{0} (And.intro Z4 (And.intro ZO (And.intro @List.all_cons.{0} (And.intro @List.all_nil.{0} @List.cons_append.{0})))))))))
end Go.Am
end
section
namespace Go.Am
open Go.RowKit Go.ChangeShapes Go.WideShapes
structure VL (K:au) (row:List AV) (cs:List Value):Prop where
 len:row.length=cs.length
 at_:∀ (i:Nat) (av:AV),row[i]?=some av→V K av (cs.getD i undef)
theorem VL.nil(K:au):VL K [] []:=⟨rfl,fun i av h=>by simp at h⟩
theorem VL.one{K:au}{a:AV}{v:Value}(h:V K a v):VL K [a] [v]:=⟨rfl,fun i av hi=>by
 cases i with
 |zero=>obtain rfl:a=av:=by simpa using hi
        simpa using h
 |succ i=>simp at hi⟩
theorem VL.append{K:au}{a b:List AV}{c d:List Value}(h:VL K a c)(h':VL K b d):VL K (a++b) (c++d):=⟨by simp [h.len,h'.len],fun i av hi=>by
 have e:=h.len
 by_cases hl:i<a.length
 ·rw [ZE hl] at hi
  have:=h.at_ i av hi;rwa [List.getD_eq_getElem?_getD,ZE (by omega),← List.getD_eq_getElem?_getD]
 ·rw [ZF (by omega)] at hi
  have:=h'.at_ _ av hi;rwa [List.getD_eq_getElem?_getD,ZF (by omega),← e,← List.getD_eq_getElem?_getD]⟩
theorem VL.vs{K:au}{row:List AV}{cs:Array Value}(h:VL K row cs.toList):Vs K row cs:=⟨by simpa using h.len,fun i av hi=>by simpa [Array.getD_eq_getD_getElem?] using h.at_ i av hi⟩
theorem VL.agg{K:au}{row:List AV}{cs:Array Value}(h:VL K row cs.toList):V K (.agg row) (.agg cs):=.agg _ _ h.vs.size h.vs.at_
section
variable(P:Program)(W:World)(G:Nat→Option (List AV))
def nP(t:TypeId){α:Type}(row:α→List AV)(ok:α→Prop):Prop:=
 ∀ (H:Type) (enc:TypeId×Value→H) (spare:Nat→Bool) (fuel:Nat) (cs:List Value) (x:DataW H×List MemPlace),DataW.trod enc P W 0 spare true fuel t cs=some x→∃ a,ok a∧VL (au.start W G) (row a) cs
def LN(fl:List (Nat×TypeId))(off w:Nat){α:Type}(row:α→List AV)(ok:α→Prop):Prop:=
 ∀ (H:Type) (enc:TypeId×Value→H) (spare:Nat→Bool) (fuel:Nat) (cs:List Value),
  (∀ (i:Nat) (f:Nat×TypeId),fl[i]?=some f→∃ x,DataW.trod enc P W 0 spare true fuel f.2 ((cs.drop f.1).take (P.cellsOf f.2))=some x)→cs.length=off+w→∃ a,ok a∧VL (au.start W G) (row a) (cs.drop off)
def fieldsOf(t:TypeId):Option (List (Nat×TypeId)):=
 match P.underlying t with
 |some (.struct fs)=>some (fs.toList.map fun f=>(f.offset,f.type))
 |_=>none
end
section
variable{P:Program}{W:World}{G:Nat→Option (List AV)}
theorem ga{t:TypeId}(ht:P.underlying t=some .string):nP P W G t bJ (fun s=>s.length≤aQ):=fun H enc spare fuel cs x h=>by
 obtain ⟨s,rfl,_,hs⟩:=DataW.trod_string ht h;exact ⟨s.data.toList,by simpa [maxLen] using hs,VL.one (.str _)⟩
theorem Kk{t:TypeId}(ht:P.underlying t=some (.int .i64)):nP P W G t Te I64:=fun H enc spare fuel cs x h=>by
 obtain ⟨n,rfl,_,hn⟩:=DataW.trod_int ht h;refine ⟨n, ?_,VL.one (.int _ _)⟩;simp only [Lit.wf] at hn;revert hn;simp [IntKind.has,IntKind.min,IntKind.max,IntKind.bits,IntKind.signed,I64]
theorem nR(off:Nat):LN P W G [] off 0 (fun _:Unit=>[]) (fun _=>True):=fun H enc spare fuel cs _ hl=>⟨(),trivial,by
 rw [aaa (by omega)];exact VL.nil _⟩
theorem bG{t:TypeId}{fl:List (Nat×TypeId)}{off w1 w2:Nat}{α β:Type}{row1:α→List AV}{row2:β→List AV}{ok1:α→Prop}{ok2:β→Prop}
  (h1:nP P W G t row1 ok1) (hw:P.cellsOf t=w1) (h2:LN P W G fl (off+w1) w2 row2 ok2):LN P W G ((off,t)::fl) off (w1+w2) (fun a:α×β=>row1 a.1++row2 a.2) (fun a=>ok1 a.1∧ok2 a.2):=fun H enc spare fuel cs hf hl=>by
 obtain ⟨x,hx⟩:=hf 0 (off,t) rfl;obtain ⟨a,ha,va⟩:=h1 H enc spare fuel _ x hx;obtain ⟨b,hb,vb⟩:=h2 H enc spare fuel cs (fun i f hi=>hf (i+1) f (by simpa using hi)) (by omega);refine ⟨(a,b),⟨ha,hb⟩, ?_⟩;have:=va.append vb;simp only [hw] at this;have e:(cs.drop off).take w1++cs.drop (off+w1)=cs.drop off:=by rw [← Z8,List.take_append_drop]
 rwa [e] at this
theorem kI{t:TypeId}{fl:List (Nat×TypeId)}{w:Nat}{α S:Type}{row:α→List AV}{ok:α→Prop}{rowS:S→List AV}{okS:S→Prop}(hf:fieldsOf P t=some fl)(hw:P.cellsOf t=w)
  (h:LN P W G fl 0 w row ok) (φ:α→S) (hr:∀ a,rowS (φ a)=row a) (ho:∀ a,ok a→okS (φ a)):nP P W G t rowS okS:=fun H enc spare fuel cs x hx=>by
 unfold fieldsOf at hf;split at hf
 ·rename_i fs ht
  simp only [Option.some.injEq] at hf;subst hf;obtain ⟨xs,n,_,_,hl,hxl,hat⟩:=DataW.trod_struct ht hx
  obtain ⟨a,ha,va⟩:=h H enc spare n cs (fun i f hi=>by
   rw [ZK] at hi;cases hfi:fs.toList[i]? with
   |none=>rw [hfi] at hi;cases hi
   |some g=>
    rw [hfi] at hi;obtain rfl:(g.offset,g.type)=f:=by simpa using hi
    have hg:fs[i]?=some g:=by simpa using hfi
    have:=hat i g hg;have hlt:i<xs.length:=by rw [hxl];exact (Array.getElem?_eq_some_iff.1 hg).1
    rw [ZC hlt] at this;exact ⟨_,this⟩) (by omega)
  exact ⟨φ a,ho a ha,by rw [hr];simpa using va⟩
 ·cases hf
theorem Qk{α:Type}{p:Nat→α→Prop}:∀ (n:Nat),(∀ i,i<n→∃ a,p i a)→∃ l:List α,l.length=n∧∀ i a,l[i]?=some a→p i a
 |0,_=>⟨[],rfl,fun i a h=>by simp at h⟩
 |n+1,h=>by
  obtain ⟨l,h1,h2⟩:=Qk n (fun i hi=>h i (by omega));obtain ⟨a,ha⟩:=h n (by omega);refine ⟨l++[a],by simp [h1],fun i b hi => ?_⟩
  by_cases hl:i<l.length
  ·rw [ZE hl] at hi;exact h2 i b hi
  ·rw [ZF (by omega)] at hi
   have:i-l.length=0:=by
    cases hq:i-l.length with
    |zero=>rfl
    |succ k=>rw [hq] at hi;simp at hi
   rw [this] at hi;obtain rfl:a=b:=by simpa using hi
   have:i=n:=by omega
   subst this;exact ha
theorem LO{t e:TypeId}{α:Type}{row:α→List AV}{ok:α→Prop}{sz:Nat}(ht:P.underlying t=some (.slice e))(hsz:P.cellsOf e=sz)(hpos:0<sz)(hrow:∀ a,(row a).length=sz)(he:nP P W G e row ok) :
  nP P W G t (fun s:Sl α=>[.slice s.tag sz (s.l.map row)]) (fun s=>s.ok 0 ok∧(s.tag = .nil∧s.l=[]∨s.tag = .some)):=fun H enc spare fuel cs x h=>by
 rcases Go.Deep.open_slice ht h with ⟨rfl,_⟩ | ⟨a,len,cap,m,n,D,Pl,rfl,hb,hl,hcap,hm,_,hel⟩
 ·exact ⟨⟨.nil,[]⟩,⟨⟨trivial,by simp,fun x hx=>by cases hx⟩,.inl ⟨rfl,rfl⟩⟩,VL.one (.slice0 _ _ _ (by simp))⟩
 ·rw [hsz] at hel
  have hlm:len≤m:=by rw [hm];split<;>omega
  obtain ⟨l,hll,hat⟩:=Qk (α:=α) (p:=fun i a'=>ok a'∧∃ cs',W.cells? 0 (a.add (i*sz)) sz=some cs'∧VL (au.start W G) (row a') cs') len (fun i hi=>by
   obtain ⟨cs',h1,h2⟩:=hel i (by omega);obtain ⟨a',h3,h4⟩:=he H enc spare n cs' _ h2;exact ⟨a',h3,cs',h1,h4⟩)
  refine ⟨⟨.some,l⟩,⟨⟨trivial,by rw [hll];simp only [aQ,maxLen] at *;omega,fun x hx => ?_⟩,.inr rfl⟩,VL.one ?_⟩
  ·obtain ⟨i,hi⟩:=ZV hx
   exact (hat i x hi).1
  ·obtain ⟨b,o,spot⟩:=a
   cases l with
   |nil=>
    have:len=0:=by simpa using hll.symm
    subst this;exact .sliceAny .some _ _ _ (.inr ⟨rfl,by simp⟩)
   |cons a0 l0=>
    obtain ⟨_,cs0,hc0,hv0⟩:=hat 0 a0 rfl;obtain ⟨_,hcl,hcat⟩:=World.cells?_some hc0
    have hsp:spot=none:=by
     have h0:=hcat 0 hpos;rw [ZC (by omega)] at h0;simpa [Addr.add] using World.cell?_spot h0
    subst hsp;have hlen:len=((a0::l0).map row).length:=by simpa using hll.symm
    rw [hlen]
    have key:∀ (i:Nat) (r:List AV),((a0::l0).map row)[i]?=some r→∃ cs',VL (au.start W G) r cs'∧∀ j,j<sz→W.cell? ⟨b,o+i*sz+j,none⟩=cs'[j]? := fun i r hi=>by
     rw [ZK] at hi;cases hai:(a0::l0)[i]? with
     |none=>rw [hai] at hi;cases hi
     |some ai=>
      rw [hai] at hi;obtain rfl:row ai=r:=by simpa using hi
      obtain ⟨_,cs',hc,hv⟩:=hat i ai hai;obtain ⟨_,hcl',hcat'⟩:=World.cells?_some hc;refine ⟨cs',hv,fun j hj => ?_⟩;rw [← hcat' j hj];congr 1;unfold Addr.add
      by_cases h1:i*sz=0<;>by_cases h2:j=0<;>simp [h1,h2,Nat.add_assoc]
    refine .slice .some sz _ b o cap (fun i j=>(W.cell? ⟨b,o+i*sz+j,none⟩).getD undef) (fun r hr => ?_) (fun i j r av hi hj => ?_) (fun i j r av hi hj => ?_) (by rw [← hlen];exact hl) trivial
    ·obtain ⟨a',_,rfl⟩:=ZW.1 hr
     exact hrow a'
    ·obtain ⟨cs',hv,hc⟩:=key i r hi
     have hjl:j<r.length:=(ZB.1 hj).1
     have hrl:r.length=sz:=by
      obtain ⟨a',_,rfl⟩:=ZW.1 (ZG hi);exact hrow a'
     show W.cell? _=_;have hcj:=hc j (by omega);rw [hcj,ZC (by rw [← hv.len];omega)];rfl
    ·obtain ⟨cs',hv,hc⟩:=key i r hi
     have hjl:j<r.length:=(ZB.1 hj).1
     have hrl:r.length=sz:=by
      obtain ⟨a',_,rfl⟩:=ZW.1 (ZG hi);exact hrow a'
     have:=hv.at_ j av hj;rw [hc j (by omega),← List.getD_eq_getElem?_getD];exact this
theorem HX{t:TypeId}{α:Type}{row:α→List AV}{ok ok':α→Prop}(h:nP P W G t row ok)(hm:∀ a,ok a→ok' a):nP P W G t row ok':=fun H enc spare fuel cs x hh=>
 let ⟨a,h1,h2⟩:=h H enc spare fuel cs x hh;⟨a,hm a h1,h2⟩
theorem Vz{t:TypeId}{fl:List (Nat×TypeId)}{r:Reach}{b:Nat}{v:Value}(hf:fieldsOf P t=some fl)(h:Value.okWide P W r b t v):∃ cs,v = .agg cs:=by
 unfold fieldsOf at hf;split at hf
 ·rename_i fs ht
  simp only [Value.okWide,ht] at h;obtain ⟨cs,rfl,_⟩:=h;exact ⟨cs,rfl⟩
 ·cases hf
theorem VA{t:TypeId}{r:Reach}{b:Nat}{v:Value}(ht:P.underlying t=some .string)(h:Value.okWide P W r b t v):∃ s,v = .string s:=by
 simp only [Value.okWide,ht,Cell.okWide,Cell.ok] at h;split at h<;>first | exact ⟨_,rfl⟩ | (simp_all;done) | cases h
theorem Nf{H:Type}{enc:TypeId×Value→H}{spare:Nat→Bool}{t:TypeId}{α:Type}{row:α→List AV}{ok:α→Prop}(ho:nP P W G t row ok){v:Value}{d:DataW H}{ps:List MemPlace}
  (h:DataW.Trod enc P W 0 spare true t v d ps):∃ a,ok a∧VL (au.start W G) (row a) v.cells.toList:=by
 obtain ⟨fuel,hf⟩:=h;exact ho H enc spare fuel _ _ hf
end
end Go.Am
end
section
namespace Go.Am
open Go.RowKit
def lA:FuncId:=5
def pz:FuncId:=8
def er:FuncId:=9
def Jv:FuncId:=10
def rK:FuncId:=15
def pA:FuncId:=16
def Bq:FuncId:=17
def lL:FuncId:=18
def nS:FuncId:=19
def eB:FuncId:=20
def kJ:FuncId:=21
def iO:FuncId:=22
def gV:FuncId:=27
def LP:FuncId:=28
def Au:FuncId:=29
def Ca:FuncId:=30
def wG:FuncId:=37
def pB:FuncId:=38
def cT:FuncId:=39
def xI:FuncId:=43
def kK:FuncId:=44
def sa:FuncId:=45
def kL:FuncId:=46
def lM:FuncId:=47
def sb:FuncId:=48
def kM:FuncId:=49
def lN:FuncId:=50
def sd:FuncId:=51
def kN:FuncId:=52
def lO:FuncId:=53
def se:FuncId:=54
def kO:FuncId:=55
def lP:FuncId:=56
def sf:FuncId:=57
def lQ:FuncId:=58
def mw:FuncId:=59
def cO:FuncId:=60
def nT:FuncId:=61
def nm:FuncId:=62
def nn:FuncId:=63
def eu:FuncId:=64
def iP:FuncId:=65
def fp:FuncId:=66
def np:FuncId:=67
def rq:FuncId:=68
def iQ:FuncId:=69
def zD:FuncId:=71
def qD:FuncId:=73
def Jw:FuncId:=76
def lR:FuncId:=77
def wH:FuncId:=78
def AA:FuncId:=79
def Jy:FuncId:=80
def jP:FuncId:=81
def ED:FuncId:=82
def aM:FuncId:=86
def eD:FuncId:=88
def yz:FuncId:=89
def cD:FuncId:=91
def tt:FuncId:=92
def cV:FuncId:=93
def jY:FuncId:=94
def eX:FuncId:=95
def cW:FuncId:=96
def jZ:FuncId:=97
def lS:FuncId:=98
def j0:FuncId:=99
def jI:FuncId:=100
def iR:FuncId:=101
def fq:FuncId:=102
def uG:FuncId:=103
def cX:FuncId:=104
def j6:FuncId:=105
def di:FuncId:=106
def j7:FuncId:=107
def xJ:FuncId:=108
def b6:FuncId:=109
def j8:FuncId:=110
def nq:FuncId:=111
def qF:FuncId:=112
def fx:FuncId:=113
def jQ:FuncId:=114
def lT:FuncId:=115
def nU:FuncId:=116
def jA:FuncId:=117
def pC:FuncId:=118
def gF:FuncId:=119
def gG:FuncId:=120
def gH:FuncId:=121
def gI:FuncId:=122
def iS:FuncId:=123
def km:FuncId:=124
def iT:FuncId:=125
def cL:FuncId:=126
def cR:FuncId:=127
def nV:FuncId:=128
def pD:FuncId:=129
def qG:FuncId:=130
def dw:FuncId:=131
def qH:FuncId:=133
def qI:FuncId:=134
def lU:FuncId:=138
def nW:FuncId:=139
def qJ:FuncId:=140
def DL:FuncId:=141
def o3:FuncId:=142
def o4:FuncId:=143
def F2:FuncId:=144
def kP:FuncId:=145
def F3:FuncId:=146
def F4:FuncId:=147
def F5:FuncId:=148
def Br:FuncId:=149
def xK:FuncId:=150
def F6:FuncId:=151
def F7:FuncId:=152
def F8:FuncId:=153
def F9:FuncId:=154
def cu:FuncId:=155
def kQ:FuncId:=156
def vh:FuncId:=157
def gk:FuncId:=158
def nr:FuncId:=159
def bT:FuncId:=160
def ko:FuncId:=161
def bU:FuncId:=162
def lV:FuncId:=163
def jJ:FuncId:=164
def iU:FuncId:=165
def my:FuncId:=166
def cE:FuncId:=167
def cP:FuncId:=168
def bP:FuncId:=169
def sg:FuncId:=170
def qn:FuncId:=171
def bK:FuncId:=172
def mz:FuncId:=173
def pE:FuncId:=174
def Cb:FuncId:=177
def kR:FuncId:=180
def nX:FuncId:=181
def tu:FuncId:=182
def mA:FuncId:=183
def ma:FuncId:=184
def dE:FuncId:=185
def gC:FuncId:=186
def HY:FuncId:=187
def Jz:FuncId:=188
def gW:FuncId:=189
def nY:FuncId:=190
def xL:FuncId:=191
def vi:FuncId:=192
def uc:FuncId:=193
def uQ:FuncId:=194
def cQ:FuncId:=195
def nu:FuncId:=196
def EE:FuncId:=197
def zE:FuncId:=198
def mB:FuncId:=199
def rr:FuncId:=201
def pF:FuncId:=202
def nZ:FuncId:=203
def ri:FuncId:=204
def cM:FuncId:=205
def nv:FuncId:=206
def wI:FuncId:=207
def pG:FuncId:=208
def yA:FuncId:=209
def DM:FuncId:=210
def wJ:FuncId:=211
def dc:FuncId:=212
def vj:FuncId:=213
def DN:FuncId:=214
def vk:FuncId:=215
def ud:FuncId:=216
def xh:FuncId:=217
def ny:FuncId:=218
def wK:FuncId:=219
def ll:FuncId:=220
def CA:FuncId:=221
def eG:FuncId:=222
def kS:FuncId:=223
def cZ:FuncId:=224
def sS:FuncId:=225
def vT:FuncId:=226
def AB:FuncId:=227
def Bs:FuncId:=228
def Cc:FuncId:=229
def zF:FuncId:=230
def vU:FuncId:=231
def vV:FuncId:=232
def j9:FuncId:=233
def mC:FuncId:=234
def mb:FuncId:=235
def gl:FuncId:=236
def vl:FuncId:=237
def DO:FuncId:=238
def lB:FuncId:=239
def ru:FuncId:=240
def vm:FuncId:=241
def gD:FuncId:=242
def DP:FuncId:=243
def mZ:FuncId:=244
def tv:FuncId:=247
def bB:FuncId:=248
def ue:FuncId:=249
def nO:FuncId:=259
def uR:TypeId:=3
def LQ:TypeId:=4
def dj:TypeId:=5
def aE:TypeId:=9
def wL:TypeId:=22
def wM:TypeId:=23
def wN:TypeId:=24
def tx:TypeId:=25
def xM:TypeId:=26
def ae:TypeId:=28
def eZ:TypeId:=39
def fb:TypeId:=42
def aP:TypeId:=52
def gX:TypeId:=55
def eh:TypeId:=62
def bQ:TypeId:=64
def bO:TypeId:=67
def xN:TypeId:=68
def aR:TypeId:=70
def aS:TypeId:=72
def n9:TypeId:=73
def aU:TypeId:=75
def cB:TypeId:=77
def b7:TypeId:=79
def c6:TypeId:=81
def HZ:TypeId:=85
def bt:TypeId:=96
def bw:TypeId:=105
def bf:TypeId:=124
def dx:TypeId:=128
def xO:TypeId:=145
def LR:TypeId:=148
def DQ:TypeId:=171
def O6:TypeId:=248
def O7:TypeId:=263
def CS:TypeId:=272
def bY:TypeId:=276
def mD:TypeId:=279
def oa:TypeId:=291
def zG:TypeId:=299
def Bt:TypeId:=301
end Go.Am
end
section
set_option maxRecDepth 100000
namespace Go.Am
open Go.RowKit Sh
def bC:AC:=
 (Q (Q (Q (O [m 40 12,m 41 7,ls 42 41,bl 43 40 42]) (Y [1,5,7,8,9,10,11,12,43])) (C 43 X (.exit 0))) (Q (.block 1 (Q (Q (Q (O [m 46 8,m 47 12,ia 48 1 46 47,ld 49 48,ac
 50 .gtr 49 (i 1)]) (Y [1,5,7,8,9,10,11,12,50])) (C 50 (Q (O [m 51 9,m 52 7,m 53 12,ia 54 1 52 53,ld 55 54,o 56 (.bs 1 [(.str [])] 1 [(0,(t 55))]),o 57 (.ap false
 aE 1 16 false (t 51) (t 56)),m 9 57]) (Y [1,5,7,8,9,10,11,12])) X)) (Q (Q (O [m 58 11,no 59 58,m 60 59,g 61 60 (.mv (t 7)),g 62 60 (.mv (t 12)),g 63 60 (.ias 1 (t
 61) (t 62)),g 64 60 (.ld none (t 63)),g 65 60 (.mv (t 1)),g 66 60 (.ar .gtr (t 64) (t 65)),pf 67 60 66]) (Y [1,5,7,8,9,10,11,12,67])) (C 67 (Q (Q (O [m 68 7,m 69 12,ia
 70 1 68 69,ld 71 70,m 10 71]) (Y [1,5,7,8,9,10,12])) (O [mc 11 T])) X)))) (ic 44 12 45)))
def lC:AC:=
 (Q (O [o 2 (.bx ae (t 0)),mc 4 F]) (Q (Q (Q (O [la 15 6 2,k1 16 pz 15,m 17 16,h 18 17 (.mv (t 1)),h 19 17 (.len .str (t 18)),h 20 17 (.ar .gtr (t
 19) (i 1000)),pt 21 17 20,m 22 21,h 23 22 (.ld (some 6) (t 2)),⟨(some 24),(some (22,false)),(.call (.c (.fn (.func pA) [] [])) [(.t 23)])⟩,h 25 22 (.ar
 .neq (t 24) (u 0)),pt 26 22 25]) (Y [1,2,26])) (C 26 (Q (O [k 27 (f er) [],m 4 27]) R) X)) (Q (Q (O [la 29 6 2,k1 30 Bq 29,m 28 30,ex 31 28 0,ex
 32 28 1,m 5 31,m 6 32]) (Y [1,2,5,6])) (Q (Q (O [m 33 6,ac 34 .neq 33 (u 0)]) (C 34 (rt 4 F) X)) (Q (Q (O [la 36 6 2,k1 37 lL 36,m 35 37,ex 38 35 0,ex
 39 35 1,m 7 38,m 8 39]) (Y [1,5,7,8])) (Q (O [mc 9 (.c (.slice .nil 1 []))]) (Q (O [mc 10 (s []),mc 11 F]) (Q (Q (O [mc 12 (i 0)]) (Q (.block 0 (.loop ⟨(some [1,5,7,8,9,
 10,11,12]),[(9,1,aE)],false⟩ bC)) (Y [1,5,7,9,10,11]))) (Q (Q (O [m 73 5,m 74 1,k2 75 nS 73 74,m 72 75,ex 76 72 0,
 ex 77 72 1,m 13 76,m 14 77]) (Y [5,7,9,10,11,13,14])) (Q (Q (O [m 78 5,k1 79 kJ 78,m 80 7,k2 81 eB 79 80,m 82 81,g 83 82
 (.mv (t 5)),⟨(some 84),(some (82,true)),(.call (.c (.fn (.func iO) [] [])) [(.t 83)])⟩,g 85 82 (.mv (t 9)),⟨(some 86),(some (82,true)),(.call (.c
 (.fn (.func eB) [] [])) [(.t 84),(.t 85)])⟩,pf 87 82 86,m 88 87,g 89 88 (.mv (t 14)),g 90 88 (.mv (t 11)),g 91 88 (.eq false .bool (t 89) (t 90)),pf
 92 88 91,m 93 92,g 94 93 (.mv (t 13)),g 95 93 (.mv (t 10)),g 96 93 (.ar .eql (t 94) (t 95)),pf 97 93 96,m 98 97,⟨(some 99),(some (98,true)),(.call (.c (.fn (.func
 er) [] [])) [])⟩,pf 100 98 99,m 4 100]) (Y [4])) R))))))))))
def fc:AFn:=⟨lC,101,[.t 4],.drop,[],none⟩
theorem bg:qf fc [.t 4] .drop:=⟨rfl,rfl,rfl⟩
def gY:AC:=
 (Q (Q (Q (O [m 76 6,fa 77 1 1,ld 78 77,m 79 5,ia 80 2 78 79,fa 81 1 80,ld 82 81,ls 83 82,bl 84 76 83,m 85 84,g 86 85 (.mv (t 6)),g 87 85 (.ar .lss (t 86) (i 100)),pf 88
 85 87]) (Y [1,3,4,5,6,88])) (C 88 X (.exit 2))) (Q (.block 3 (Q (D [Wl 91 3,Pf 92 1 1,Wl 93 92,Pm 94 5,P (ia 95 2 93 94),Pf 96 1 95,Wl 97 96,Pm 98 6,P (ia 99 1 97 98),
 Wl 100 99,W (lt 101 100),P (o 102 (.ar .add (i 1) (t 101))),P (ar 103 .add 91 102),E (n (.st 1 (t 3) (t 103)))]) (Y [1,3,4,5,6]))) (ic 89 6 90)))
def gZ:AC:=
 (Q (Q (Q (O [m 59 5,fa 60 1 1,ld 61 60,ls 62 61,bl 63 59 62]) (Y [1,3,4,5,63])) (C 63 X (.exit 0))) (Q (Q (.block 1 (Q (Q (D [Wl 66 3,Pf 67 1 1,Wl 68 67,Pm 69 5,P (ia 70
 2 68 69),Pf 71 0 70,Wl 72 71,W (lt 73 72),P (o 74 (.ar .add (i 1) (t 73))),P (ar 75 .add 66 74),E (n (.st 1 (t 3) (t 75)))]) (Y [1,3,4,5])) (Q (Q (O [mc 6 (i 0)]) (Q
 (.block 2 (lo [1,3,4,5,6] gY)) (Y [1,3,4,5]))) (Q (D [Wl 104 3,Pf 105 1 1,Wl 106 105,Pm 107 5,P (ia 108 2 106 107),Pf 109 1 108,Wl 110 109,W (ls
 111 110),P (ar 112 .add 104 111),E (n (.st 1 (t 3) (t 112)))]) (Y [1,3,4,5]))))) (Y [1,3,4,5])) (ic 64 5 65)))
def hP:AC:=
 (Q (Q (Q (O [m 158 8,fa 159 2 1,ld 160 159,m 161 7,ia 162 2 160 161,fa 163 1 162,ld 164 163,ls 165 164,bl 166 158 165]) (Y [1,3,4,7,8,166])) (C 166 X (.exit 6))) (Q
 (.block 7 (Q (Q (O [fa 169 2 1,ld 170 169,m 171 7,ia 172 2 170 171,fa 173 1 172,ld 174 173,m 175 8,ia 176 4 174 175,la 177 4 176,o 9 (.nw [(.int .i64 0),(.str []),(.str
 []),(.slice .nil 2 [])] aS),n (.st 4 (t 9) (t 177))]) (Y [1,3,4,7,8,9])) (Q (Q (O [ld 178 3,fa 179 1 9,ld 180 179,lt 181 180,o 182 (.ar .add (i 1) (t 181)),fa
 183 2 9,ld 184 183,lt 185 184,ar 186 .add 182 185,ar 187 .add 178 186,n (.st 1 (t 3) (t 187))]) (Y [1,3,4,7,8,9])) (Q (O [m 188 4,fa 189 3 9,ld 190 189,k 191 (t 188)
 [(t 190)]]) (Y [1,3,4,7,8]))))) (ic 167 8 168)))
def hT:AC:=
 (Q (Q (Q (O [m 113 7,fa 114 2 1,ld 115 114,ls 116 115,bl 117 113 116]) (Y [1,3,4,7,117])) (C 117 X (.exit 4))) (Q (Q (.block 5 (Q (Q (Q (O [fa 120 2 1,ld 121 120,m 122 7,
 ia 123 2 121 122,fa 124 1 123,ld 125 124,ls 126 125,ac 127 .gtr 126 (i 12),m 128 127,g 129 128 (.fa 2 (t 1)),g 130 128 (.ld none (t 129)),g 131 128 (.mv (t 7)),g 132 128
 (.ias 2 (t 130) (t 131)),g 133 128 (.fa 1 (t 132)),g 134 128 (.ld none (t 133)),g 135 128 (.len .sl (t 134)),g 136 128 (.ar .leq (t 135) (i 24)),pf 137 128 136,m 138 137,h
 139 138 (.fa 2 (t 1)),h 140 138 (.ld none (t 139)),h 141 138 (.mv (t 7)),h 142 138 (.ias 2 (t 140) (t 141)),h 143 138 (.fa 1 (t 142)),h 144 138 (.ld none (t 143)),h 145 138
 (.len .sl (t 144)),h 146 138 (.ar .gtr (t 145) (i 60)),pt 147 138 146]) (Y [1,3,4,7,147])) (C 147 (rt 2 T) X)) (Q (Q (D [Wl 148 3,Pf 149 2 1,Wl 150 149,Pm 151 7,P (ia 152
 2 150 151),Pf 153 0 152,Wl 154 153,W (lt 155 154),P (o 156 (.ar .add (i 1) (t 155))),P (ar 157 .add 148 156),E (n (.st 1 (t 3) (t 157)))]) (Y [1,3,4,7])) (Q (O [mc 8 (i
 0)]) (Q (.block 6 (lc [1,3,4,7,8] hP)) (Y [1,3,4,7])))))) (Y [1,3,4,7])) (ic 118 7 119)))
def hU:AC:=
 (Q (Q (Q (O [m 222 12,fa 223 3 11,ld 224 223,ls 225 224,bl 226 222 225,m 227 226,g 228 227 (.mv (t 12)),g 229 227 (.ar .lss (t 228) (i 100)),pf 230 227 229]) (Y [1,3,4,
 10,11,12,230])) (C 230 X (.exit 10))) (Q (.block 11 (Q (D [Wl 233 3,Pf 234 3 11,Wl 235 234,Pm 236 12,P (ia 237 2 235 236),Pf 238 1 237,Wl 239 238,W (lt 240 239),P (ar 241
 .add 233 240),E (n (.st 1 (t 3) (t 241)))]) (Y [1,3,4,10,11,12]))) (ic 231 12 232)))
def ib:AC:=
 (Q (Q (Q (O [m 192 10,fa 193 3 1,ld 194 193,ls 195 194,bl 196 192 195]) (Y [1,3,4,10,196])) (C 196 X (.exit 8))) (Q (Q (.block 9 (Q (Q (O [fa 199 3 1,ld 200 199,m 201 10,
 ia 202 4 200 201,la 203 4 202,o 11 (.nw [(.str []),(.str []),(.slice .nil 2 []),(.slice .nil 2 [])] aU),n (.st 4 (t 11) (t 203))]) (Y [1,3,4,10,11])) (Q (Q (O [ld
 204 3,fa 205 0 11,ld 206 205,lt 207 206,o 208 (.ar .add (i 1) (t 207)),fa 209 1 11,ld 210 209,lt 211 210,ar 212 .add 208 211,fa 213 3 11,ld 214 213,ls 215 214,ar 216
 .add 212 215,ar 217 .add 204 216,n (.st 1 (t 3) (t 217))]) (Y [1,3,4,10,11])) (Q (Q (O [m 218 4,fa 219 2 11,ld 220 219,k 221 (t 218) [(t 220)]]) (Y [1,3,4,10,11])) (Q
 (O [mc 12 (i 0)]) (Q (.block 10 (lo [1,3,4,10,11,12] hU)) (Y [1,3,4,10]))))))) (Y [1,3,4,10])) (ic 197 10 198)))
def ie:AC:=
 (Q (Q (Q (O [m 242 13,fa 243 4 1,ld 244 243,ls 245 244,bl 246 242 245]) (Y [1,3,4,13,246])) (C 246 X (.exit 12))) (Q (.block 13 (Q (D [Wl 249 3,Pf 250 4 1,Wl 251 250,Pm
 252 13,P (ia 253 4 251 252),Pf 254 0 253,Wl 255 254,W (lt 256 255),Pf 257 4 1,Wl 258 257,Pm 259 13,P (ia 260 4 258 259),Pf 261 1 260,Wl 262 261,W (lt 263 262),P (ar 264
 .add 256 263),Pf 265 4 1,Wl 266 265,Pm 267 13,P (ia 268 4 266 267),Pf 269 2 268,Wl 270 269,W (lt 271 270),P (ar 272 .add 264 271),Pf 273 4 1,Wl 274 273,Pm 275 13,P (ia
 276 4 274 275),Pf 277 3 276,Wl 278 277,W (lt 279 278),P (ar 280 .add 272 279),P (ar 281 .add 249 280),E (n (.st 1 (t 3) (t 281)))]) (Y [1,3,4,13]))) (ic 247 13 248)))
def ig:AC:=
 (Q (Q (Q (O [m 282 14,fa 283 5 1,ld 284 283,ls 285 284,bl 286 282 285]) (Y [1,3,4,14,286])) (C 286 X (.exit 14))) (Q (.block 15 (Q (Q (D [Wl 289 3,Pf 290 5 1,Wl 291 290,
 Pm 292 14,P (ia 293 3 291 292),Pf 294 0 293,Wl 295 294,W (lt 296 295),Pf 297 5 1,Wl 298 297,Pm 299 14,P (ia 300 3 298 299),Pf 301 1 300,Wl 302 301,W (lt 303 302),P (ar
 304 .add 296 303),P (ar 305 .add 289 304),E (n (.st 1 (t 3) (t 305)))]) (Y [1,3,4,14])) (Q (O [m 306 4,fa 307 5 1,ld 308 307,m 309 14,ia 310 3 308 309,fa 311 2 310,ld 312
 311,k 313 (t 306) [(t 312)]]) (Y [1,3,4,14])))) (ic 287 14 288)))
def pH:AC:=
 (Q (O [o 1 (.bx ae (t 0)),mc 2 F]) (Q (Q (O [fa 15 0 1,ld 16 15,lt 17 16,o 3 (.nw [(.int .i64 0)] uR),n (.st 1 (t 3) (t 17))]) (Y [1,3])) (Q (O [o 18 (.mf (.func
 gV) [] [(t 3)]),m 4 18]) (Q (Q (Q (O [fa 19 3 1,ld 20 19,ls 21 20,ac 22 .gtr 21 (i 60),m 23 22,g 24 23 (.fa 3 (t 1)),g 25 23 (.ld none (t 24)),g 26 23
 (.len .sl (t 25)),g 27 23 (.ar .leq (t 26) (i 128)),pf 28 23 27,m 29 28,h 30 29 (.fa 3 (t 1)),h 31 29 (.ld none (t 30)),h 32 29 (.len .sl (t 31)),h 33 29 (.ar .gtr (t 32) (i
 200)),pt 34 29 33,m 35 34,h 36 35 (.fa 1 (t 1)),h 37 35 (.ld none (t 36)),h 38 35 (.len .sl (t 37)),h 39 35 (.ar .gtr (t 38) (i 40)),pt 40 35 39,m 41 40,h 42 41 (.fa 2 (t
 1)),h 43 41 (.ld none (t 42)),h 44 41 (.len .sl (t 43)),h 45 41 (.ar .gtr (t 44) (i 40)),pt 46 41 45,m 47 46,h 48 47 (.fa 4 (t 1)),h 49 47 (.ld none (t 48)),h 50 47 (.len
 .sl (t 49)),h 51 47 (.ar .gtr (t 50) (i 40)),pt 52 47 51,m 53 52,h 54 53 (.fa 5 (t 1)),h 55 53 (.ld none (t 54)),h 56 53 (.len .sl (t 55)),h 57 53 (.ar .gtr (t 56) (i 40)),
 pt 58 53 57]) (Y [1,3,4,58])) (C 58 (rt 2 T) X)) (Q (Q (O [mc 5 (i 0)]) (Q (.block 0 (lo [1,3,4,5] gZ)) (Y [1,3,4]))) (Q (Q (O [mc 7 (i 0)]) (Q (.block
 4 (lc [1,3,4,7] hT)) (Y [1,3,4]))) (Q (Q (O [mc 10 (i 0)]) (Q (.block 8 (lc [1,3,4,10] ib)) (Y [1,3,4]))) (Q (Q (O [mc 13 (i 0)])
 (Q (.block 12 (lo [1,3,4,13] ie)) (Y [1,3,4]))) (Q (Q (O [mc 14 (i 0)]) (Q (.block 14 (lo [1,3,4,14] ig)) (Y [3]))) (Q (O [ld 314
 3,ac 315 .gtr 314 (i 6000),m 2 315]) R))))))))))
def aT:AFn:=⟨pH,316,[.t 2],.drop,[],none⟩
theorem bc:qf aT [.t 2] .drop:=⟨rfl,rfl,rfl⟩
def xP:AC:=
 (Q (O [o 1 (.bx ae (t 0)),mc 2 (u 0)]) (Q (Q (O [la 4 6 1,o 5 (.bd [(.str []),(.slice .nil 2 []),(.slice .nil 2 []),(.slice .nil 4 []),(.slice .nil 4 []),(.slice
 .nil 3 [])] [(0,6)] [(0,(t 4))]),o 3 (.nw [(.str []),(.slice .nil 2 []),(.slice .nil 2 []),(.slice .nil 4 []),(.slice .nil 4 []),(.slice .nil 3 [])] bw),n (.st
 6 (t 3) (t 5))]) (Y [1,3])) (Q (Q (O [la 6 6 3,o 7 (.mf (.func kK) [(t 6)] []),o 8 (.mf (.func sa) [] [(t 1),(t 3)]),o 9 (.mf (.func
 sb) [] [(t 1),(t 3)]),o 10 (.mf (.func sd) [] [(t 1),(t 3)]),o 11 (.mf (.func se) [] [(t 1),(t 3)]),o 12 (.mf (.func sf) []
 [(t 1),(t 3)]),o 13 (.bs 1 [.nilfn] 6 [(0,(t 7)),(1,(t 8)),(2,(t 9)),(3,(t 10)),(4,(t 11)),(5,(t 12))]),k1 14 xI 13,m 2 14]) (Y [2])) R)))
def uH:AFn:=⟨xP,15,[.t 2],.drop,[],none⟩
theorem JA:qf uH [.t 2] .drop:=⟨rfl,rfl,rfl⟩
def ij:AC:=
 (Q (Q (Q (O [m 16 3,fa 17 0 1,ld 18 17,lt 19 18,bl 20 16 19]) (Y [1,3,20])) (C 20 X (.exit 0))) (Q (.block 1 (Q (Q (D [Pf 23 0 1,Wl 24 23,Pm 25 3,P (ac 26 .sub 25 (i 1)),P
 (o 27 (.ixs (t 24) (t 26))),Pf 28 0 1,Wl 29 28,Pm 30 3,P (o 31 (.ixs (t 29) (t 30))),P (ar 32 .geq 27 31)]) (Y [1,3,32])) (C 32 (rt 2 (u 1)) X))) (ic 21 3 22)))
def ik:AC:=
 (Q (Q (Q (O [m 52 7,fa 53 4 1,ld 54 53,ls 55 54,bl 56 52 55]) (Y [1,7,56])) (C 56 X (.exit 2))) (Q (.block 3 (Q (Q (O [fa 59 4 1,ld 60 59,m 61 7,ia 62 4 60 61,la 63 4 62,
 o 8 (.nw [(.str []),(.str []),(.str []),(.str [])] b7),n (.st 4 (t 8) (t 63))]) (Y [1,7,8])) (Q (Q (Q (O [fa 64 0 8,ld 65 64,ac 66 .eql 65 (s []),m 67 66,h 68 67
 (.fa 0 (t 8)),h 69 67 (.ld none (t 68)),⟨(some 70),(some (67,false)),(.call (.c (.fn (.func cO) [] [])) [(.t 69),(.c (.str [43]))])⟩,h 71 67 (.un .not (t
 70)),pt 72 67 71,m 73 72,h 74 73 (.fa 1 (t 8)),h 75 73 (.ld none (t 74)),⟨(some 76),(some (73,false)),(.call (.c (.fn (.func cO) [] [])) [(.t 75),(.c (.str
 [43]))])⟩,h 77 73 (.un .not (t 76)),pt 78 73 77,m 79 78,h 80 79 (.fa 2 (t 8)),h 81 79 (.ld none (t 80)),⟨(some 82),(some (79,false)),(.call (.c (.fn (.func
 cO) [] [])) [(.t 81),(.c (.str [43,35,86,67]))])⟩,h 83 79 (.un .not (t 82)),pt 84 79 83,m 85 84,h 86 85 (.fa 3 (t 8)),h 87 85 (.ld none (t 86)),⟨(some 88),
 (some (85,false)),(.call (.c (.fn (.func cO) [] [])) [(.t 87),(.c (.str [43,35,86,67]))])⟩,h 89 85 (.un .not (t 88)),pt 90 85 89]) (Y [1,7,8,90])) (C 90
 (rt 2 (u 1)) X)) (Q (Q (O [fa 91 0 8,ld 92 91,lt 93 92,ac 94 .gtr 93 (i 6),m 95 94,h 96 95 (.fa 1 (t 8)),h 97 95 (.ld none (t 96)),h 98 95 (.len .str (t 97)),h 99 95 (.ar
 .gtr (t 98) (i 6)),pt 100 95 99,m 101 100,h 102 101 (.fa 2 (t 8)),h 103 101 (.ld none (t 102)),h 104 101 (.len .str (t 103)),h 105 101 (.ar .gtr (t 104) (i 6)),pt 106 101
 105,m 107 106,h 108 107 (.fa 3 (t 8)),h 109 107 (.ld none (t 108)),h 110 107 (.len .str (t 109)),h 111 107 (.ar .gtr (t 110) (i 6)),pt 112 107 111]) (Y [1,7,112])) (C 112
 (rt 2 (u 1)) X))))) (ic 57 7 58)))
def il:AC:=
 (Q (Q (Q (O [m 117 9,fa 118 5 1,ld 119 118,ls 120 119,bl 121 117 120]) (Y [1,9,121])) (C 121 X (.exit 4))) (Q (.block 5 (Q (Q (O [fa 124 5 1,ld 125 124,m 126 9,ia 127 3 125
 126,la 128 3 127,o 10 (.nw [(.str []),(.str []),(.slice .nil 2 [])] c6),n (.st 3 (t 10) (t 128))]) (Y [1,9,10])) (Q (Q (Q (O [la 129 6 1,fa 130 0 10,ld 131 130,k2
 132 eu 129 131,ac 133 .lss 132 (i 0)]) (Y [1,9,10,133])) (C 133 (rt 2 (u 5)) X)) (Q (Q (Q (O [fa 134 1 10,ld 135 134,k 136 (f cO) [(t 135),
 (s [])],no 137 136,m 138 137,h 139 138 (.fa 1 (t 10)),h 140 138 (.ld none (t 139)),h 141 138 (.len .str (t 140)),h 142 138 (.ar .gtr (t 141) (i 6)),pt 143 138 142]) (Y [1,9,
 10,143])) (C 143 (rt 2 (u 1)) X)) (Q (Q (O [la 144 6 1,fa 145 2 10,ld 146 145,k2 147 iP 144 146,m 11 147]) (Y [1,9,11])) (Q (O [m 148 11,ac 149 .neq 148
 (u 0)]) (C 149 (Q (O [m 150 11,m 2 150]) R) X))))))) (ic 122 9 123)))
def pI:AC:=
 (Q (O [o 1 (.bx ae (t 0)),mc 2 (u 0)]) (Q (Q (Q (O [fa 12 0 1,ld 13 12,k 14 (f cO) [(t 13),(s [])],no 15 14]) (Y [1,15])) (C 15 (rt 2 (u 1)) X)) (Q
 (Q (O [mc 3 (i 1)]) (Q (.block 0 (lo [1,3] ij)) (Y [1]))) (Q (Q (O [la 33 6 1,k1 34 nT 33,m 4 34]) (Q (O [m 35 4,ac 36 .neq 35 (u 0)])
 (C 36 (Q (O [m 37 4,m 2 37]) R) X))) (Q (Q (O [la 38 6 1,k1 39 nm 38,m 5 39]) (Q (O [m 40 5,ac 41 .neq 40 (u 0)]) (C 41 (Q (O [m 42 5,m 2 42]) R) X))) (Q
 (Q (O [la 43 6 1,k1 44 nn 43,m 6 44]) (Q (O [m 45 6,ac 46 .neq 45 (u 0)]) (C 46 (Q (O [m 47 6,m 2 47]) R) X))) (Q (Q (Q (O [fa 48 4 1,ld 49 48,ls 50 49,
 ac 51 .gtr 50 (i 16)]) (Y [1,51])) (C 51 (rt 2 (u 3)) X)) (Q (Q (O [mc 7 (i 0)]) (Q (.block 2 (lc [1,7] ik)) (Y [1]))) (Q (Q (Q (O [fa 113 5 1,ld 114 113,ls
 115 114,ac 116 .gtr 115 (i 8)]) (Y [1,116])) (C 116 (rt 2 (u 3)) X)) (Q (Q (O [mc 9 (i 0)]) (Q (.block 4 (lc [1,9] il)) (Y []))) (rt 2 (u 0))))))))))))
def c9:AFn:=⟨pI,151,[.t 2],.drop,[],none⟩
theorem dD:qf c9 [.t 2] .drop:=⟨rfl,rfl,rfl⟩
def pn:AC:=
 (Q (O [bl 41 40 39]) (Q (C 41 X (.exit 2)) (Q (.block 3 (Q (O [m 42 40,m 9 42]) (Q (Q (O [fa 43 2 7,ld 44 43,m 45 9,o 46 (.ixs (t 44) (t 45)),ac 47 .sub 46 (u 97),m 10 47]) (Y
 [5,7,8,10,27,28,29,39,40])) (Q (Q (Q (O [m 48 8,m 49 10,o 50 (.nc (t 48)),fa 51 0 50,o 52 (.iaa 26 1 (t 51) (t 49)),ld 53 52,o 54 (.eq false .ptr (t 53) (.c .nilp))])
 (Y [5,7,8,10,27,28,29,39,40,54])) (C 54 (Q (O [m 55 8,m 56 10,o 57 (.bd [.nilp,.nilp,.nilp,.nilp,.nilp,.nilp,.nilp,.nilp,.nilp,.nilp,.nilp,.nilp,.nilp,.nilp,
 .nilp,.nilp,.nilp,.nilp,.nilp,.nilp,.nilp,.nilp,.nilp,.nilp,.nilp,.nilp,(.int .i64 0)] [(0,26),(26,1)] []),o 58 (.bx bf (t 57)),o 59 (.nc (t 55)),fa 60 0
 59,o 61 (.iaa 26 1 (t 60) (t 56)),n (.st 1 (t 61) (t 58))]) (Y [5,7,8,10,27,28,29,39,40])) X)) (Q (O [m 62 8,m 63 10,o 64 (.nc (t 62)),fa 65 0 64,o 66 (.iaa 26 1 (t
 65) (t 63)),ld 67 66,m 8 67]) (Y [5,7,8,27,28,29,39,40])))))) (O [ad 68 40,m 40 68]))))
def rL:AC:=
 (Q (O [bl 30 29 28]) (Q (C 30 X (.exit 0)) (Q (Q (.block 1 (Q (Q (O [ia 31 3 27 29,la 32 3 31,o 7 (.nw [(.int .i64 0),(.int .i64 0),(.str [])] dx),n (.st 3 (t 7) (t
 32))]) (Y [5,7,27,28,29])) (Q (Q (O [m 33 5,o 34 (.nc (t 33)),fa 35 6 34,ld 36 35,m 8 36]) (Y [5,7,8,27,28,29])) (Q (Q (Q (O [fa 37 2 7,ld 38 37,lt 39 38,mc 40 (i
 0)]) (Y [5,7,8,27,28,29,39,40])) (Q (.block 2 (lo [5,7,8,27,28,29,39,40] pn)) (Y [5,8,27,28,29]))) (Q (O [m 69 8,o 70 (.nc (t 69)),fa 71 26 70,ld 72
 71,ad 73 72,o 74 (.nc (t 69)),fa 75 26 74,n (.st 1 (t 75) (t 73))]) (Y [5,27,28,29])))))) (Y [5,27,28,29])) (O [ad 76 29,m 29 76]))))
def Bu:AC:=
 (Q (O [o 1 (.bx ae (t 0)),mc 2 (.c .nilp),mc 3 (u 0)]) (Q (Q (O [la 11 6 1,k1 12 rK 11,m 4 12]) (Q (O [m 13 4,ac 14 .neq 13 (u 0)]) (C 14 (Q (O [m 15 4,
 mc 2 (.c .nilp),m 3 15]) R) X))) (Q (Q (O [la 16 6 1,k1 17 fp 16,o 18 (.bd [(.str []),(.slice .nil 2 []),(.slice .nil 2 []),(.slice .nil 4 []),(.slice .nil 4 []),
 (.slice .nil 3 [])] [(0,6)] [(0,(t 17))]),o 19 (.bd [.nilp,.nilp,.nilp,.nilp,.nilp,.nilp,.nilp,.nilp,.nilp,.nilp,.nilp,.nilp,.nilp,.nilp,.nilp,.nilp,.nilp,.nilp,
 .nilp,.nilp,.nilp,.nilp,.nilp,.nilp,.nilp,.nilp,(.int .i64 0)] [(0,26),(26,1)] []),o 20 (.bx bf (t 19)),o 21 (.bd [(.str []),(.slice .nil 2 []),(.slice .nil
 2 []),(.slice .nil 4 []),(.slice .nil 4 []),(.slice .nil 3 []),.nilp] [(0,6),(6,1)] [(0,(t 18)),(1,(t 20))]),o 22 (.bx gX (t 21)),m 5 22]) (Y [5])) (Q (Q
 (Q (O [m 23 5,o 24 (.nc (t 23)),fa 25 0 24,la 26 6 25,k1 27 np 26,ls 28 27,mc 29 (i 0)]) (Y [5,27,28,29])) (Q (.block 0 (lo [5,27,28,29]
 rL)) (Y [5]))) (Q (O [m 77 5,m 2 77,mc 3 (u 0)]) R)))))
def qK:AFn:=⟨Bu,78,[.t 2,.t 3],.keep,[],none⟩
theorem sP:qf qK [.t 2,.t 3] .keep:=⟨rfl,rfl,rfl⟩
def eQ:AC:=
 (Q (Q (Q (O [m 37 10,m 38 4,ls 39 38,bl 40 37 39,m 41 40,g 42 41 (.mv (t 4)),g 43 41 (.mv (t 10)),g 44 41 (.ias 1 (t 42) (t 43)),g 45 41 (.ld none (t 44)),g 46 41 (.mv (t
 9)),g 47 41 (.ar .lss (t 45) (t 46)),pf 48 41 47]) (Y [4,5,6,7,8,9,10,48])) (C 48 X (.exit 4))) (.block 5 (ic 49 10 50)))
def cN:AC:=
 (Q (Q (Q (O [m 19 8,m 20 6,m 21 7,ia 22 1 20 21,ld 23 22,ls 24 23,bl 25 19 24]) (Y [4,5,6,7,8,25])) (C 25 X (.exit 2))) (Q (Q (.block 3 (Q (Q (O [m 28 6,m 29 7,ia 30 1
 28 29,ld 31 30,m 32 8,ia 33 1 31 32,ld 34 33,m 9 34]) (Y [4,5,6,7,8,9])) (Q (Q (O [m 35 9,ac 36 .eql 35 (s [])]) (C 36 (.exit 3) X)) (Q (O [mc 10 (i 0)]) (Q (Q (.block 4
 (lo [4,5,6,7,8,9,10] eQ)) (Y [4,5,6,7,8,9,10])) (Q (Q (Q (O [m 51 10,m 52 4,ls 53 52,bl 54 51 53,m 55 54,g 56 55 (.mv (t 4)),g 57 55 (.mv (t
 10)),g 58 55 (.ias 1 (t 56) (t 57)),g 59 55 (.ld none (t 58)),g 60 55 (.mv (t 9)),g 61 55 (.ar .eql (t 59) (t 60)),pf 62 55 61]) (Y [4,5,6,7,8,9,10,62])) (C 62 (Q (Q (O
 [m 63 5,m 64 10,ia 65 1 63 64,ld 66 65,ad 67 66,ia 68 1 63 64,n (.st 1 (t 68) (t 67))]) (Y [4,5,6,7,8])) (.exit 3)) X)) (Q (Q (D [Pm 69 4,Pm 70 10,P (o 71 (.sll 1 (t 69)
 none (some (t 70)) none)),K (o 72 (.ap false aE 1 16 false (.c (.slice .nil 1 [])) (t 71))),Pm 73 9,P (o 74 (.bs 1 [(.str [])] 1 [(0,(t 73))])),E (o 75 (.ap false
 aE 1 16 false (t 72) (t 74))),Pm 76 4,Pm 77 10,P (o 78 (.sll 1 (t 76) (some (t 77)) none none)),E (o 79 (.ap false aE 1 16 false (t 75) (t 78))),Pm 4 79]) (Y [4,5,
 6,7,8,10])) (Q (D [Pm 80 5,Pm 81 10,P (o 82 (.sll 1 (t 80) none (some (t 81)) none)),E (o 83 (.ap true uR 1 8 false (.c (.slice .nil 1 [])) (t 82))),P (o 84 (.bs 1 [(.int
 .i64 0)] 1 [(0,(i 1))])),E (o 85 (.ap true uR 1 8 false (t 83) (t 84))),Pm 86 5,Pm 87 10,P (o 88 (.sll 1 (t 86) (some (t 87)) none none)),E (o 89 (.ap true uR 1 8 false
 (t 85) (t 88))),Pm 5 89]) (Y [4,5,6,7,8]))))))))) (Y [4,5,6,7,8])) (ic 26 8 27)))
def im:AC:=
 (Q (Q (Q (O [m 13 7,m 14 6,ls 15 14,bl 16 13 15]) (Y [4,5,6,7,16])) (C 16 X (.exit 0))) (Q (Q (.block 1 (Q (O [mc 8 (i 0)]) (Q (.block 2 (lo [4,5,6,7,8]
 cN)) (Y [4,5,6,7])))) (Y [4,5,6,7])) (ic 17 7 18)))
def pJ:AC:=
 (Q (O [o 1 (.bx ae (t 0)),mc 2 (.c (.slice .nil 1 [])),mc 3 (.c (.slice .nil 1 []))]) (Q (O [mc 4 (.c (.slice .nil 1 []))]) (Q (O [mc 5 (.c (.slice .nil 1 []))]) (Q (O
 [la 11 6 1,k1 12 rq 11,m 6 12]) (Q (Q (O [mc 7 (i 0)]) (Q (.block 0 (lo [4,5,6,7] im)) (Y [4,5]))) (Q (Q (O [m 90 4,m 91 5,m 2 90,m 3
 91]) (Y [2,3])) R))))))
def cg:AFn:=⟨pJ,92,[.t 2,.t 3],.frz,[18,16],none⟩
theorem cj:qf cg [.t 2,.t 3] .frz:=⟨rfl,rfl,rfl⟩
def jK:AC:=
 (.block 1 (Q (O [m 11 6,ld 12 3,ar 13 .gtr 11 12]) (C 13 (Q (O [m 14 6,n (.st 1 (t 4) (t 14)),n (.st 1 (t 5) T)]) R) X)))
def oc:AC:=
 (Q (O [o 3 (.bx aE (t 1)),o 4 (.nw [(.str [])] aE),o 5 (.nw [(.bool false)] LQ)]) (Q (Q (O [m 7 0,k1 8 iQ 7]) (Q (.block 0 (.rfn (.t 8) [9,
 10] [[m 6 9]] jK)) (Y [4,5]))) (Q (O [n (.st 1 (t 4) (s [])),n (.st 1 (t 5) F)]) R)))
def cC:AFn:=⟨oc,15,[.cell 4 none,.cell 5 none],.drop,[],none⟩
theorem kT:qf cC [.cell 4 none,.cell 5 none] .drop:=⟨rfl,rfl,rfl⟩
def dL:AC:=
 (Q (Q (Q (O [m 11 5,m 12 0,ls 13 12,bl 14 11 13]) (Y [0,1,5,14])) (C 14 X (.exit 0))) (Q (.block 1 (Q (Q (D [Pm 17 0,Pm 18 5,P (ia 19 1 17 18),Wl 20 19,Pm 21 1,Pm 22 5,P
 (ia 23 1 21 22),Wl 24 23,P (ar 25 .neq 20 24)]) (Y [0,1,5,25])) (C 25 (rt 4 F) X))) (ic 15 5 16)))
def kU:AC:=
 (Q (O [mc 4 F]) (Q (Q (Q (O [m 6 0,ls 7 6,m 8 1,ls 9 8,ar 10 .neq 7 9]) (Y [0,1,10])) (C 10 (rt 4 F) X)) (Q (Q (O [mc 5 (i 0)]) (Q (.block 0 (lo [0,1,5]
 dL)) (Y []))) (rt 4 T))))
def eH:AFn:=⟨kU,26,[.t 4],.drop,[],none⟩
theorem kV:qf eH [.t 4] .drop:=⟨rfl,rfl,rfl⟩
def jL:AC:=
 (.block 1 (Q (O [ld 9 3,m 10 4,o 11 (.bs 1 [(.str [])] 1 [(0,(t 10))]),o 12 (.ap false aE 1 16 false (t 9) (t 11)),n (.st 1 (t 3) (t 12))]) (Y [])))
def od:AC:=
 (Q (O [mc 2 (.c (.slice .nil 1 []))]) (Q (O [o 3 (.nw [(.slice .nil 1 [])] fb)]) (Q (Q (O [m 5 0,k1 6 iQ 5]) (Q (.block 0 (.rfn (.t 6) [7,8] [[m 4 7]]
 jL)) (Y [3]))) (Q (O [ld 13 3,m 2 13]) R))))
def cS:AFn:=⟨od,14,[.t 2],.drop,[],none⟩
theorem kX:qf cS [.t 2] .drop:=⟨rfl,rfl,rfl⟩
def ea:AC:=
 (.block 1 (Q (O [m 10 5,ac 11 .gtr 10 (i 1)]) (C 11 (Q (O [ld 12 3,m 13 4,o 14 (.bs 1 [(.str [])] 1 [(0,(t 13))]),o 15 (.ap false aE 1 16 false (t 12) (t 14)),n (.st 1
 (t 3) (t 15))]) (Y [])) X)))
def lD:AC:=
 (Q (O [mc 2 (.c (.slice .nil 1 []))]) (Q (O [o 3 (.nw [(.slice .nil 1 [])] fb)]) (Q (Q (O [m 6 0,k1 7 iQ 6]) (Q (.block 0 (.rfn (.t 7) [8,9] [[m 4 8],
 [m 5 9]] ea)) (Y [3]))) (Q (O [ld 16 3,m 2 16]) R))))
def bL:AFn:=⟨lD,17,[.t 2],.drop,[],none⟩
theorem fe:qf bL [.t 2] .drop:=⟨rfl,rfl,rfl⟩
def fH:AC:=
 (Q (Q (Q (O [m 4 3,m 5 0,ls 6 5,bl 7 4 6,m 8 7,g 9 8 (.mv (t 3)),g 10 8 (.ar .lss (t 9) (i 100)),pf 11 8 10]) (Y [0,1,3,11])) (C 11 X (.exit 0))) (Q (.block 1 (Q (D [Wl 14
 1,Pm 15 0,Pm 16 3,P (ia 17 2 15 16),Pf 18 0 17,Wl 19 18,W (lt 20 19),P (o 21 (.ar .add (i 1) (t 20))),Pm 22 0,Pm 23 3,P (ia 24 2 22 23),Pf 25 1 24,Wl 26 25,W (lt 27
 26),P (ar 28 .add 21 27),P (ar 29 .add 14 28),E (n (.st 1 (t 1) (t 29)))]) (Y [0,1,3]))) (ic 12 3 13)))
def nz:AC:=
 (Q (Q (O [mc 3 (i 0)]) (Q (.block 0 (lo [0,1,3] fH)) (Y [0,1]))) (Q (O [ld 30 1,m 31 0,ls 32 31,ar 33 .add 30 32,n (.st 1 (t 1) (t 33))]) (Y [])))
def eS:AFn:=⟨nz,34,[],.drop,[],none⟩
theorem nA:qf eS [] .drop:=⟨rfl,rfl,rfl⟩
def pK:AC:=
 (Q (O [mc 2 (i 0)]) (Q (Q (O [m 3 0,o 4 (.nc (t 3)),fa 5 1 4,ld 6 5,ls 7 6,m 2 7]) (Y [2])) R))
def lW:AFn:=⟨pK,8,[.t 2],.drop,[],none⟩
theorem AD:qf lW [.t 2] .drop:=⟨rfl,rfl,rfl⟩
def gm:AC:=
 (Q (O [mc 2 (s [])]) (Q (Q (D [Pm 3 0,P (o 4 (.nc (t 3))),Pf 5 1 4,Wl 6 5,P (o 7 (.usl (t 6))),Pm 8 0,P (o 9 (.nc (t 8))),Pf 10 1 9,Wl 11 10,W (ls 12 11),E (o 13 (.ust
 dj (t 7) (t 12))),Pm 2 13]) (Y [2])) R))
def jM:AFn:=⟨gm,14,[.t 2],.drop,[],none⟩
theorem mR:qf jM [.t 2] .drop:=⟨rfl,rfl,rfl⟩
def o5:AC:=
 (Q (O [bl 9 8 7]) (Q (C 9 X (.exit 0)) (Q (.block 1 (Q (O [ia 10 1 6 8,ld 11 10,m 4 11]) (Q (O [m 12 4,k 13 (t 12) [],m 5 13]) (Q (O [m 14 5,ac 15 .neq 14 (u 0)]) (C 15 (Q (O
 [m 16 5,m 2 16]) R) X))))) (O [ad 17 8,m 8 17]))))
def xQ:AC:=
 (Q (O [mc 2 (u 0)]) (Q (Q (O [m 6 0,ls 7 6,mc 8 (i 0)]) (Q (.block 0 (lo [6,7,8] o5)) (Y []))) (rt 2 (u 0))))
def po:AFn:=⟨xQ,18,[.t 2],.drop,[],none⟩
theorem xR:qf po [.t 2] .drop:=⟨rfl,rfl,rfl⟩
def en:AC:=
 (Q (O [bl 11 10 9]) (Q (C 11 X (.exit 0)) (Q (.block 1 (Q (O [m 12 10,m 4 12]) (Q (Q (D [Pm 13 3,Pm 14 4,P (o 15 (.ixs (t 13) (t 14))),E (k1 16 cD 15),P (no 17 16),
 Pm 18 17,P (h 19 18 (.mv (t 4))),P (h 20 18 (.ar .gtr (t 19) (i 0))),P (h 21 18 (.mv (t 20))),P (g 22 21 (.mv (t 3))),P (g 23 21 (.mv (t 4))),P (g 24 21 (.ar .sub (t 23) (i
 1))),P (g 25 21 (.ixs (t 22) (t 24))),P (g 26 21 (.mv (t 3))),P (g 27 21 (.mv (t 4))),P (g 28 21 (.ixs (t 26) (t 27))),P (g 29 21 (.ar .geq (t 25) (t 28))),P (h 30 18 (.pk (t
 21) (t 29) F)),P (pt 31 18 30)]) (Y [3,9,10,31])) (C 31 (rt 2 (u 1)) X)))) (O [ad 32 10,m 10 32]))))
def oe:AC:=
 (Q (O [o 1 (.bx bw (t 0)),mc 2 (u 0)]) (Q (Q (O [fa 5 0 1,fa 6 0 5,ld 7 6,m 3 7]) (Y [3])) (Q (Q (O [m 8 3,lt 9 8,mc 10 (i 0)]) (Q (.block 0 (lo [3,9,10]
 en)) (Y []))) (rt 2 (u 0)))))
def fy:AFn:=⟨oe,33,[.t 2],.drop,[],none⟩
theorem kY:qf fy [.t 2] .drop:=⟨rfl,rfl,rfl⟩
def vn:AC:=
 (Q (O [mc 2 (u 0)]) (Q (Q (O [fa 3 1 0,ld 4 3,la 5 6 1,o 6 (.mf (.func lM) [(t 5)] []),k 7 (f kL) [(t 4),(i 8),(t 6)],m 2 7]) (Y [2]))
 R))
def si:AFn:=⟨vn,8,[.t 2],.drop,[],none⟩
theorem Ga:qf si [.t 2] .drop:=⟨rfl,rfl,rfl⟩
def gn:AC:=
 (Q (O [bl 17 16 15]) (Q (C 17 X (.exit 0)) (Q (.block 1 (Q (Q (O [m 18 16,ia 19 2 14 16,la 20 2 19,o 8 (.nw [(.str []),(.slice .nil 1 [])] bO),m 7 18,n (.st 2 (t 8)
 (t 20))]) (Y [2,7,8,14,15,16])) (Q (Q (O [m 21 2,m 22 7,la 23 2 8,k 24 (t 21) [(t 22),(t 23)],m 9 24]) (Y [2,9,14,15,16])) (Q (O [m 25 9,ac 26 .neq 25 (u 0)]) (C 26
 (Q (O [m 27 9,m 6 27]) R) X))))) (O [ad 28 16,m 16 28]))))
def og:AC:=
 (Q (O [mc 6 (u 0)]) (Q (Q (Q (O [m 10 0,ls 11 10,m 12 1,ar 13 .gtr 11 12]) (Y [0,2,13])) (C 13 (rt 6 (u 3)) X)) (Q (Q (O [m 14 0,ls 15 14,mc 16 (i 0)]) (Q (.block 0 (lc [2,
 14,15,16] gn)) (Y []))) (rt 6 (u 0)))))
def dO:AFn:=⟨og,29,[.t 6],.drop,[],none⟩
theorem oh:qf dO [.t 6] .drop:=⟨rfl,rfl,rfl⟩
def iq:AC:=
 (Q (O [bl 36 35 34]) (Q (C 36 X (.exit 1)) (Q (.block 2 (Q (Q (O [m 37 35,ia 38 1 33 35,ld 39 38,m 7 37,m 8 39]) (Y [5,7,8,33,34,35])) (Q (Q (O [m 40 8,k1 41 tt
 40,no 42 41]) (C 42 (rt 6 (u 5)) X)) (Q (Q (O [fa 43 1 5,ld 44 43,m 45 7,o 46 (.sll 1 (t 44) none (some (t 45)) none),m 47 8,k2 48 eX 46 47]) (Y
 [5,33,34,35,48])) (C 48 (rt 6 (u 6)) X))))) (O [ad 49 35,m 35 49]))))
def pL:AC:=
 (Q (O [o 3 (.bx bw (t 0)),o 5 (.bx bO (t 2)),mc 6 (u 0)]) (Q (.block 0 (Q (Q (O [fa 10 0 5,ld 11 10,k1 12 tt 11,no 13 12,m 9 13]) (Y [1,3,5,
 9])) (C 9 (rt 6 (u 5)) (Q (Q (O [fa 15 0 3,fa 16 1 15,ld 17 16,m 18 1,o 19 (.sll 2 (t 17) none (some (t 18)) none),o 20 (.mf (.func jY) [] [(t 5)]),k2 21
 cV 19 20,m 14 21]) (Y [5,14])) (C 14 (rt 6 (u 6)) (Q (Q (O [fa 23 1 5,ld 24 23,ls 25 24,ac 26 .gtr 25 (i 8),m 22 26]) (Y [5,22])) (C 22
 (rt 6 (u 3)) (Q (Q (O [fa 28 1 5,ld 29 28,ls 30 29,ac 31 .eql 30 (i 0),m 27 31]) (Y [5,27])) (C 27 (rt 6 (u 1)) X))))))))) (Q (Q (Q (O [fa 32 1 5,ld 33 32,ls 34 33,mc 35 (i
 0)]) (Y [5,33,34,35])) (Q (.block 1 (lo [5,33,34,35] iq)) (Y []))) (rt 6 (u 0)))))
def gb:AFn:=⟨pL,50,[.t 6],.drop,[],none⟩
theorem pM:qf gb [.t 6] .drop:=⟨rfl,rfl,rfl⟩
def vo:AC:=
 (Q (O [mc 2 (u 0)]) (Q (Q (O [fa 3 2 0,ld 4 3,la 5 6 1,o 6 (.mf (.func lN) [(t 5)] []),k 7 (f kM) [(t 4),(i 16),(t 6)],m 2 7]) (Y [2]))
 R))
def sj:AFn:=⟨vo,8,[.t 2],.drop,[],none⟩
theorem Gb:qf sj [.t 2] .drop:=⟨rfl,rfl,rfl⟩
def gq:AC:=
 (Q (O [bl 17 16 15]) (Q (C 17 X (.exit 0)) (Q (.block 1 (Q (Q (O [m 18 16,ia 19 2 14 16,la 20 2 19,o 8 (.nw [(.str []),(.slice .nil 4 [])] aR),m 7 18,n (.st 2 (t 8)
 (t 20))]) (Y [2,7,8,14,15,16])) (Q (Q (O [m 21 2,m 22 7,la 23 2 8,k 24 (t 21) [(t 22),(t 23)],m 9 24]) (Y [2,9,14,15,16])) (Q (O [m 25 9,ac 26 .neq 25 (u 0)]) (C 26
 (Q (O [m 27 9,m 6 27]) R) X))))) (O [ad 28 16,m 16 28]))))
def om:AC:=
 (Q (O [mc 6 (u 0)]) (Q (Q (Q (O [m 10 0,ls 11 10,m 12 1,ar 13 .gtr 11 12]) (Y [0,2,13])) (C 13 (rt 6 (u 3)) X)) (Q (Q (O [m 14 0,ls 15 14,mc 16 (i 0)]) (Q (.block 0 (lc [2,
 14,15,16] gq)) (Y []))) (rt 6 (u 0)))))
def dP:AFn:=⟨om,29,[.t 6],.drop,[],none⟩
theorem oo:qf dP [.t 6] .drop:=⟨rfl,rfl,rfl⟩
def pN:AC:=
 (Q (O [o 3 (.bx bw (t 0)),o 5 (.bx aR (t 2)),mc 6 (u 0)]) (Q (.block 0 (Q (Q (O [fa 8 0 5,ld 9 8,k1 10 tt 9,no 11 10,m 7 11]) (Y [1,3,5,7]))
 (C 7 (rt 6 (u 5)) (Q (Q (O [fa 13 0 3,fa 14 2 13,ld 15 14,m 16 1,o 17 (.sll 2 (t 15) none (some (t 16)) none),o 18 (.mf (.func jZ) [] [(t 5)]),k2 19
 cW 17 18,m 12 19]) (Y [3,5,12])) (C 12 (rt 6 (u 6)) (Q (Q (O [fa 21 1 5,ld 22 21,ls 23 22,ac 24 .gtr 23 (i 24),m 20 24]) (Y [3,5,
 20])) (C 20 (rt 6 (u 3)) (Q (Q (O [fa 26 1 5,ld 27 26,ls 28 27,ac 29 .eql 28 (i 0),m 25 29]) (Y [3,5,25])) (C 25 (rt 6 (u 1)) X))))))))) (Q (Q (O [fa 30 1 5,ld 31 30,o 32
 (.mf (.func j0) [] [(t 3)]),k 33 (f lS) [(t 31),(i 24),(t 32)],m 6 33]) (Y [6])) R)))
def lX:AFn:=⟨pN,34,[.t 6],.drop,[],none⟩
theorem AE:qf lX [.t 6] .drop:=⟨rfl,rfl,rfl⟩
def vp:AC:=
 (Q (O [mc 2 (u 0)]) (Q (Q (O [fa 3 3 0,ld 4 3,la 5 6 1,o 6 (.mf (.func lO) [(t 5)] []),k 7 (f kN) [(t 4),(i 128),(t 6)],m 2 7]) (Y
 [2])) R))
def sk:AFn:=⟨vp,8,[.t 2],.drop,[],none⟩
theorem Gc:qf sk [.t 2] .drop:=⟨rfl,rfl,rfl⟩
def gr:AC:=
 (Q (O [bl 17 16 15]) (Q (C 17 X (.exit 0)) (Q (.block 1 (Q (Q (O [m 18 16,ia 19 4 14 16,la 20 4 19,o 8 (.nw [(.str []),(.str []),(.slice .nil 2 []),(.slice .nil 2 [])]
 aU),m 7 18,n (.st 4 (t 8) (t 20))]) (Y [2,7,8,14,15,16])) (Q (Q (O [m 21 2,m 22 7,la 23 4 8,k 24 (t 21) [(t 22),(t 23)],m 9 24]) (Y [2,9,14,15,16])) (Q (O
 [m 25 9,ac 26 .neq 25 (u 0)]) (C 26 (Q (O [m 27 9,m 6 27]) R) X))))) (O [ad 28 16,m 16 28]))))
def oq:AC:=
 (Q (O [mc 6 (u 0)]) (Q (Q (Q (O [m 10 0,ls 11 10,m 12 1,ar 13 .gtr 11 12]) (Y [0,2,13])) (C 13 (rt 6 (u 3)) X)) (Q (Q (O [m 14 0,ls 15 14,mc 16 (i 0)]) (Q (.block 0 (lc [2,
 14,15,16] gr)) (Y []))) (rt 6 (u 0)))))
def dQ:AFn:=⟨oq,29,[.t 6],.drop,[],none⟩
theorem ot:qf dQ [.t 6] .drop:=⟨rfl,rfl,rfl⟩
def ir:AC:=
 (Q (O [bl 51 50 49]) (Q (C 51 X (.exit 1)) (Q (.block 2 (Q (Q (O [m 52 50,ia 53 2 48 50,la 54 2 53,o 11 (.nw [(.int .i64 0),(.str [])] cB),m 10 52,n (.st 2 (t 11)
 (t 54))]) (Y [5,7,10,11,48,49,50])) (.block 3 (Q (Q (O [fa 56 0 11,ld 57 56,ac 58 .lss 57 (i 0),m 59 58,h 60 59 (.fa 0 (t 11)),h 61 59 (.ld none (t 60)),h 62 59 (.fa 1
 (t 7)),h 63 59 (.ld none (t 62)),h 64 59 (.len .sl (t 63)),h 65 59 (.ar .geq (t 61) (t 64)),pt 66 59 65,m 55 66]) (Y [5,7,10,11,48,49,50,55])) (C 55 (rt 6 (u 7)) (Q (Q
 (O [fa 68 3 5,ld 69 68,m 70 10,o 71 (.sll 2 (t 69) none (some (t 70)) none),o 72 (.mf (.func j8) [] [(t 11)]),k2 73
 b6 71 72,m 67 73]) (Y [5,7,11,48,49,50,67])) (C 67 (rt 6 (u 6)) (Q (Q (O [fa 75 1 11,ld 76 75,ac 77 .neq 76 (s []),m 78 77,
 g 79 78 (.fa 1 (t 11)),g 80 78 (.ld none (t 79)),⟨(some 81),(some (78,true)),(.call (.c (.fn (.func uG) [] [])) [(.t 80)])⟩,g 82 78 (.un .not (t 81)),pf 83 78 82,
 m 74 83]) (Y [5,7,48,49,50,74])) (C 74 (rt 6 (u 1)) X))))))))) (O [ad 84 50,m 50 84]))))
def pO:AC:=
 (Q (O [o 3 (.bx bw (t 0)),o 5 (.bx aU (t 2)),mc 6 (u 0)]) (Q (Q (O [fa 13 0 3,la 14 6 13,fa 15 1 5,ld 16 15,k2 17 fq 14 16,m 12 17,ex 18
 12 0,ex 19 12 1,o 7 (.nw [(.str []),(.slice .nil 4 [])] aR),n (.st 2 (t 7) (t 18)),m 8 19]) (Y [1,3,5,7,8])) (Q (.block 0 (Q (Q (O [fa 21 0 5,ld 22 21,k1 23
 uG 22,no 24 23,m 20 24]) (Y [1,3,5,7,8,20])) (C 20 (rt 6 (u 1)) (Q (O [m 26 8,no 27 26,m 25 27]) (C 25 (rt 6 (u 5)) (Q (Q (O [fa 29 0 3,fa 30 3 29,ld 31 30,m
 32 1,o 33 (.sll 4 (t 31) none (some (t 32)) none),o 34 (.mf (.func j6) [] [(t 5)]),k2 35 cX 33 34,m 28 35]) (Y [3,5,
 7,28])) (C 28 (rt 6 (u 6)) X))))))) (Q (Q (Q (O [la 36 6 3,fa 37 2 5,ld 38 37,k2 39 iR 36 38,m 9 39]) (Y [5,7,9])) (Q (O [m 40 9,ac 41 .neq 40 (u 0)]) (C
 41 (Q (O [m 42 9,m 6 42]) R) X))) (Q (Q (Q (O [fa 43 1 7,ld 44 43,o 45 (.mf (.func j7) [] [(t 5)]),k2 46 di 44 45]) (Y
 [5,7,46])) (C 46 (rt 6 (u 10)) X)) (Q (Q (Q (O [fa 47 3 5,ld 48 47,ls 49 48,mc 50 (i 0)]) (Y [5,7,48,49,50])) (Q (.block 1 (lc [5,7,48,49,50] ir))
 (Y []))) (rt 6 (u 0))))))))
def gd:AFn:=⟨pO,85,[.t 6],.drop,[],none⟩
theorem lY:qf gd [.t 6] .drop:=⟨rfl,rfl,rfl⟩
def vq:AC:=
 (Q (O [mc 2 (u 0)]) (Q (Q (O [fa 3 4 0,ld 4 3,la 5 6 1,o 6 (.mf (.func lP) [(t 5)] []),k 7 (f kO) [(t 4),(i 16),(t 6)],m 2 7]) (Y [2]))
 R))
def sm:AFn:=⟨vq,8,[.t 2],.drop,[],none⟩
theorem Gd:qf sm [.t 2] .drop:=⟨rfl,rfl,rfl⟩
def gu:AC:=
 (Q (O [bl 17 16 15]) (Q (C 17 X (.exit 0)) (Q (.block 1 (Q (Q (O [m 18 16,ia 19 4 14 16,la 20 4 19,o 8 (.nw [(.str []),(.str []),(.str []),(.str [])] b7),m 7 18,n
 (.st 4 (t 8) (t 20))]) (Y [2,7,8,14,15,16])) (Q (Q (O [m 21 2,m 22 7,la 23 4 8,k 24 (t 21) [(t 22),(t 23)],m 9 24]) (Y [2,9,14,15,16])) (Q (O [m 25 9,ac 26 .neq 25 (u
 0)]) (C 26 (Q (O [m 27 9,m 6 27]) R) X))))) (O [ad 28 16,m 16 28]))))
def ou:AC:=
 (Q (O [mc 6 (u 0)]) (Q (Q (Q (O [m 10 0,ls 11 10,m 12 1,ar 13 .gtr 11 12]) (Y [0,2,13])) (C 13 (rt 6 (u 3)) X)) (Q (Q (O [m 14 0,ls 15 14,mc 16 (i 0)]) (Q (.block 0 (lc [2,
 14,15,16] gu)) (Y []))) (rt 6 (u 0)))))
def dR:AFn:=⟨ou,29,[.t 6],.drop,[],none⟩
theorem ov:qf dR [.t 6] .drop:=⟨rfl,rfl,rfl⟩
def pP:AC:=
 (Q (O [o 3 (.bx bw (t 0)),o 5 (.bx b7 (t 2)),mc 6 (u 0)]) (Q (Q (Q (O [fa 7 0 5,ld 8 7,ac 9 .eql 8 (s []),m 10 9,h 11 10 (.fa 0 (t 5)),h 12 10 (.ld none
 (t 11)),⟨(some 13),(some (10,false)),(.call (.c (.fn (.func jI) [] [])) [(.t 12),(.c (.fn (.func nq) [] []))])⟩,h 14 10 (.un .not (t 13)),pt 15 10 14,
 m 16 15,h 17 16 (.fa 1 (t 5)),h 18 16 (.ld none (t 17)),⟨(some 19),(some (16,false)),(.call (.c (.fn (.func jI) [] [])) [(.t 18),(.c (.fn (.func nq) []
 []))])⟩,h 20 16 (.un .not (t 19)),pt 21 16 20,m 22 21,h 23 22 (.fa 2 (t 5)),h 24 22 (.ld none (t 23)),⟨(some 25),(some (22,false)),(.call (.c (.fn (.func jI) []
 [])) [(.t 24),(.c (.fn (.func qF) [] []))])⟩,h 26 22 (.un .not (t 25)),pt 27 22 26,m 28 27,h 29 28 (.fa 3 (t 5)),h 30 28 (.ld none (t 29)),⟨(some 31),(some (28,
 false)),(.call (.c (.fn (.func jI) [] [])) [(.t 30),(.c (.fn (.func qF) [] []))])⟩,h 32 28 (.un .not (t 31)),pt 33 28 32]) (Y [33])) (C 33 (rt 6 (u 1))
 X)) (rt 6 (u 0))))
def lZ:AFn:=⟨pP,34,[.t 6],.drop,[],none⟩
theorem AF:qf lZ [.t 6] .drop:=⟨rfl,rfl,rfl⟩
def vr:AC:=
 (Q (O [mc 2 (u 0)]) (Q (Q (O [fa 3 5 0,ld 4 3,la 5 6 1,o 6 (.mf (.func mw) [(t 5)] []),k 7 (f lQ) [(t 4),(i 8),(t 6)],m 2 7]) (Y [2]))
 R))
def sn:AFn:=⟨vr,8,[.t 2],.drop,[],none⟩
theorem Ge:qf sn [.t 2] .drop:=⟨rfl,rfl,rfl⟩
def iu:AC:=
 (Q (O [bl 17 16 15]) (Q (C 17 X (.exit 0)) (Q (.block 1 (Q (Q (O [m 18 16,ia 19 3 14 16,la 20 3 19,o 8 (.nw [(.str []),(.str []),(.slice .nil 2 [])] c6),m 7 18,n (.st
 3 (t 8) (t 20))]) (Y [2,7,8,14,15,16])) (Q (Q (O [m 21 2,m 22 7,la 23 3 8,k 24 (t 21) [(t 22),(t 23)],m 9 24]) (Y [2,9,14,15,16])) (Q (O [m 25 9,ac 26 .neq 25 (u 0)])
 (C 26 (Q (O [m 27 9,m 6 27]) R) X))))) (O [ad 28 16,m 16 28]))))
def pQ:AC:=
 (Q (O [mc 6 (u 0)]) (Q (Q (Q (O [m 10 0,ls 11 10,m 12 1,ar 13 .gtr 11 12]) (Y [0,2,13])) (C 13 (rt 6 (u 3)) X)) (Q (Q (O [m 14 0,ls 15 14,mc 16 (i 0)]) (Q (.block 0 (lc [2,
 14,15,16] iu)) (Y []))) (rt 6 (u 0)))))
def ew:AFn:=⟨pQ,29,[.t 6],.drop,[],none⟩
theorem pR:qf ew [.t 6] .drop:=⟨rfl,rfl,rfl⟩
def qL:AC:=
 (Q (O [o 3 (.bx bw (t 0)),o 5 (.bx c6 (t 2)),mc 6 (u 0)]) (Q (Q (Q (O [fa 10 0 3,la 11 6 10,fa 12 0 5,ld 13 12,k2 14 fq 11 13,m 9 14,ex 15
 9 0,ex 16 9 1,o 7 (.nw [(.str []),(.slice .nil 4 [])] aR),n (.st 2 (t 7) (t 15)),m 8 16]) (Y [3,5,8])) (Q (O [m 17 8,no 18 17]) (C 18 (rt 6 (u 5)) X))) (Q (Q (Q (O
 [fa 19 1 5,ld 20 19,k 21 (f jI) [(t 20),(f cD)],no 22 21]) (Y [3,5,22])) (C 22 (rt 6 (u 1)) X)) (Q (Q (O [la 23 6 3,fa 24 2 5,ld 25 24,k2 26
 iR 23 25,m 6 26]) (Y [6])) R))))
def mE:AFn:=⟨qL,27,[.t 6],.drop,[],none⟩
theorem uS:qf mE [.t 6] .drop:=⟨rfl,rfl,rfl⟩
def jR:AC:=
 (Q (Q (Q (O [m 18 7,m 19 1,lt 20 19,bl 21 18 20]) (Y [0,1,5,6,7,21])) (C 21 X (.exit 2))) (Q (.block 3 (Q (D [Pm 24 6,Pm 25 24,P (h 26 25 (.mv (t 0))),P (h 27 25 (.mv (t
 5))),P (h 28 25 (.ixs (t 26) (t 27))),P (h 29 25 (.mv (t 1))),P (h 30 25 (.mv (t 7))),P (h 31 25 (.ixs (t 29) (t 30))),P (h 32 25 (.ar .eql (t 28) (t 31))),P (pt 33 25 32),Pm
 6 33]) (Y [0,1,5,6,7]))) (ic 22 7 23)))
def jS:AC:=
 (Q (Q (Q (O [m 8 5,m 9 0,lt 10 9,bl 11 8 10]) (Y [0,1,5,11])) (C 11 X (.exit 0))) (Q (Q (.block 1 (Q (Q (O [m 14 0,m 15 5,o 16 (.ixs (t 14) (t 15)),k1 17
 fx 16,m 6 17]) (Y [0,1,5,6])) (Q (Q (O [mc 7 (i 0)]) (Q (.block 2 (lo [0,1,5,6,7] jR)) (Y [0,1,5,6]))) (Q (O [m 34 6,no 35 34]) (C
 35 (rt 4 F) X))))) (Y [0,1,5])) (ic 12 5 13)))
def sy:AC:=
 (Q (O [mc 4 F]) (Q (Q (O [mc 5 (i 0)]) (Q (.block 0 (lo [0,1,5] jS)) (Y []))) (rt 4 T)))
def aY:AFn:=⟨sy,36,[.t 4],.drop,[],none⟩
def gv:AC:=
 (Q (Q (Q (O [m 44 5,fa 45 1 4,ld 46 45,ls 47 46,bl 48 44 47]) (Y [1,3,4,5,48])) (C 48 X (.exit 3))) (Q (.block 4 (Q (Q (Q (O [fa 51 1 4,ld 52 51,m 53 5,ia 54 1 52 53,ld
 55 54,k1 56 jQ 55,no 57 56]) (Y [1,3,4,5,57])) (C 57 (rt 2 (u 5)) X)) (Q (Q (D [Pf 58 1 4,Wl 59 58,Pm 60 5,P (o 61 (.sll 1 (t 59) none (some (t 60))
 none)),Pf 62 1 4,Wl 63 62,Pm 64 5,P (ia 65 1 63 64),Wl 66 65,E (k2 67 nU 61 66)]) (Y [1,3,4,5,67])) (C 67 (rt 2 (u 6)) X)))) (ic 49 5 50)))
def gy:AC:=
 (Q (Q (Q (O [m 10 3,fa 11 1 1,ld 12 11,ls 13 12,bl 14 10 13]) (Y [1,3,14])) (C 14 X (.exit 0))) (Q (Q (.block 1 (Q (Q (O [fa 17 1 1,ld 18 17,m 19 3,ia 20 2 18 19,la 21 2
 20,o 4 (.nw [(.str []),(.slice .nil 1 [])] bO),n (.st 2 (t 4) (t 21))]) (Y [1,3,4])) (Q (.block 2 (Q (Q (O [fa 23 0 4,ld 24 23,k1 25 jQ 24,no 26
 25,m 22 26]) (Y [1,3,4,22])) (C 22 (rt 2 (u 5)) (Q (Q (O [la 28 6 1,fa 29 0 4,ld 30 29,k2 31 lT 28 30,m 32 3,bl 33 31 32,m 27 33]) (Y [1,3,4,27])) (C
 27 (rt 2 (u 6)) (Q (Q (O [fa 35 1 4,ld 36 35,ls 37 36,ac 38 .gtr 37 (i 8),m 34 38]) (Y [1,3,4,34])) (C 34 (rt 2 (u 3)) (Q (Q (O [fa 40 1 4,ld 41 40,ls 42 41,ac 43 .eql 42
 (i 0),m 39 43]) (Y [1,3,4,39])) (C 39 (rt 2 (u 1)) X))))))))) (Q (O [mc 5 (i 0)]) (Q (.block 3 (lo [1,3,4,5] gv)) (Y [1,3])))))) (Y [1,3])) (ic 15 3
 16)))
def ow:AC:=
 (Q (O [o 1 (.bx ae (t 0)),mc 2 (u 0)]) (Q (Q (Q (O [fa 6 1 1,ld 7 6,ls 8 7,ac 9 .gtr 8 (i 8)]) (Y [1,9])) (C 9 (rt 2 (u 3)) X)) (Q (Q (O [mc 3 (i 0)]) (Q (.block 0
 (lc [1,3] gy)) (Y []))) (rt 2 (u 0)))))
def dS:AFn:=⟨ow,68,[.t 2],.drop,[],none⟩
theorem iV:qf dS [.t 2] .drop:=⟨rfl,rfl,rfl⟩
def fI:AC:=
 (Q (Q (Q (O [m 46 5,fa 47 1 4,ld 48 47,ls 49 48,bl 50 46 49]) (Y [1,3,4,5,50])) (C 50 X (.exit 3))) (Q (.block 4 (Q (Q (O [fa 53 1 4,ld 54 53,m 55 5,ia 56 4 54 55,la 57
 4 56,o 6 (.nw [(.int .i64 0),(.str []),(.str []),(.slice .nil 2 [])] aS),n (.st 4 (t 6) (t 57))]) (Y [1,3,4,5,6])) (Q (Q (Q (O [fa 58 0 6,ld 59 58,ac 60 .lss 59
 (i 0),m 61 60,h 62 61 (.fa 0 (t 6)),h 63 61 (.ld none (t 62)),h 64 61 (.ar .gtr (t 63) (i 24)),pt 65 61 64,m 66 65,h 67 66 (.fa 1 (t 6)),h 68 66 (.ld none (t 67)),⟨(some
 69),(some (66,false)),(.call (.c (.fn (.func cO) [] [])) [(.t 68),(.c (.str []))])⟩,h 70 66 (.un .not (t 69)),pt 71 66 70,m 72 71,h 73 72 (.fa 1 (t 6)),h 74
 72 (.ld none (t 73)),h 75 72 (.len .str (t 74)),h 76 72 (.ar .gtr (t 75) (i 6)),pt 77 72 76,m 78 77,h 79 78 (.fa 2 (t 6)),h 80 78 (.ld none (t 79)),⟨(some 81),(some (78,
 false)),(.call (.c (.fn (.func cO) [] [])) [(.t 80),(.c (.str []))])⟩,h 82 78 (.un .not (t 81)),pt 83 78 82,m 84 83,h 85 84 (.fa 2 (t 6)),h 86 84 (.ld none (t
 85)),h 87 84 (.len .str (t 86)),h 88 84 (.ar .gtr (t 87) (i 6)),pt 89 84 88]) (Y [1,3,4,5,6,89])) (C 89 (rt 2 (u 1)) X)) (Q (Q (O [la 90 6 1,fa 91 3 6,ld 92 91,k2 93
 iP 90 92,m 7 93]) (Y [1,3,4,5,7])) (Q (O [m 94 7,ac 95 .neq 94 (u 0)]) (C 95 (Q (O [m 96 7,m 2 96]) R) X)))))) (ic 51 5 52)))
def fJ:AC:=
 (Q (Q (Q (O [m 12 3,fa 13 2 1,ld 14 13,ls 15 14,bl 16 12 15]) (Y [1,3,16])) (C 16 X (.exit 0))) (Q (Q (.block 1 (Q (Q (O [fa 19 2 1,ld 20 19,m 21 3,ia 22 2 20 21,la 23 2
 22,o 4 (.nw [(.str []),(.slice .nil 4 [])] aR),n (.st 2 (t 4) (t 23))]) (Y [1,3,4])) (Q (.block 2 (Q (Q (O [fa 25 0 4,ld 26 25,k1 27 jQ 26,no 28
 27,m 24 28]) (Y [1,3,4,24])) (C 24 (rt 2 (u 5)) (Q (Q (O [la 30 6 1,fa 31 0 4,ld 32 31,k2 33 eu 30 32,m 34 3,bl 35 33 34,m 29 35]) (Y [1,3,4,29])) (C
 29 (rt 2 (u 6)) (Q (Q (O [fa 37 1 4,ld 38 37,ls 39 38,ac 40 .gtr 39 (i 24),m 36 40]) (Y [1,3,4,36])) (C 36 (rt 2 (u 3)) (Q (Q (O [fa 42 1 4,ld 43 42,ls 44 43,ac 45 .eql 44
 (i 0),m 41 45]) (Y [1,3,4,41])) (C 41 (rt 2 (u 1)) X))))))))) (Q (O [mc 5 (i 0)]) (Q (.block 3 (lc [1,3,4,5] fI)) (Y [1,3])))))) (Y [1,3])) (ic 17 3
 18)))
def nB:AC:=
 (Q (O [o 1 (.bx ae (t 0)),mc 2 (u 0)]) (Q (Q (Q (O [fa 8 2 1,ld 9 8,ls 10 9,ac 11 .gtr 10 (i 16)]) (Y [1,11])) (C 11 (rt 2 (u 3)) X)) (Q (Q (O [mc 3 (i 0)]) (Q
 (.block 0 (lc [1,3] fJ)) (Y []))) (rt 2 (u 0)))))
def dF:AFn:=⟨nB,97,[.t 2],.drop,[],none⟩
theorem iv:qf dF [.t 2] .drop:=⟨rfl,rfl,rfl⟩
def fK:AC:=
 (Q (Q (O [m 41 6,m 42 3,bl 43 41 42]) (C 43 X (.exit 2))) (Q (.block 3 (Q (Q (D [Pf 46 3 1,Wl 47 46,Pm 48 6,P (ia 49 4 47 48),Pf 50 0 49,Wl 51 50,Pf 52 0 4,Wl 53 52,P (ar
 54 .eql 51 53),Pm 55 54,P (g 56 55 (.fa 3 (t 1))),W (g 57 55 (.ld none (t 56))),P (g 58 55 (.mv (t 6))),P (g 59 55 (.ias 4 (t 57) (t 58))),P (g 60 55 (.fa 1 (t 59))),W (g 61
 55 (.ld none (t 60))),P (g 62 55 (.fa 1 (t 4))),W (g 63 55 (.ld none (t 62))),P (g 64 55 (.ar .eql (t 61) (t 63))),P (pf 65 55 64)]) (Y [1,3,4,5,6,65])) (C 65 (rt 2 (u 6))
 X))) (ic 44 6 45)))
def fL:AC:=
 (Q (Q (Q (O [m 79 9,m 80 8,ls 81 80,bl 82 79 81]) (Y [1,3,4,8,9,82])) (C 82 X (.exit 4))) (Q (.block 5 (Q (Q (D [Pf 86 2 4,Wl 87 86,Pm 88 8,Pm 89 9,P (ia 90 4 88 89),Pf
 91 3 90,Wl 92 91,E (k2 93 pC 87 92),Pm 85 93,P (ex 94 85 0),P (ex 95 85 1),Pm 10 94,Pm 11 95]) (Y [1,3,4,8,9,11])) (Q (O [m 96 11,no 97 96]) (C 97
 (rt 2 (u 10)) X)))) (ic 83 9 84)))
def fM:AC:=
 (Q (Q (O [m 120 14,m 121 12,bl 122 120 121]) (C 122 X (.exit 8))) (Q (.block 9 (Q (Q (D [Pf 125 3 4,Wl 126 125,Pm 127 14,P (ia 128 2 126 127),Pf 129 0 128,Wl 130 129,Pf 131
 0 13,Wl 132 131,P (ar 133 .eql 130 132)]) (Y [1,3,4,8,12,13,14,133])) (C 133 (rt 2 (u 6)) X))) (ic 123 14 124)))
def fN:AC:=
 (Q (Q (Q (O [m 98 12,fa 99 3 4,ld 100 99,ls 101 100,bl 102 98 101]) (Y [1,3,4,8,12,102])) (C 102 X (.exit 6))) (Q (Q (.block 7 (Q (Q (O [fa 105 3 4,ld 106 105,m 107 12,
 ia 108 2 106 107,la 109 2 108,o 13 (.nw [(.int .i64 0),(.str [])] cB),n (.st 2 (t 13) (t 109))]) (Y [1,3,4,8,12,13])) (Q (Q (Q (O [fa 110 0 13,ld 111 110,ac
 112 .lss 111 (i 0),m 113 112,h 114 113 (.fa 0 (t 13)),h 115 113 (.ld none (t 114)),h 116 113 (.mv (t 8)),h 117 113 (.len .sl (t 116)),h 118 113 (.ar .geq (t 115) (t 117)),pt
 119 113 118]) (Y [1,3,4,8,12,13,119])) (C 119 (rt 2 (u 7)) X)) (Q (Q (O [mc 14 (i 0)]) (Q (.block 8 (lo [1,3,4,8,12,13,14] fM)) (Y [1,3,4,8,
 12,13]))) (Q (Q (O [fa 134 1 13,ld 135 134,ac 136 .neq 135 (s []),m 137 136,g 138 137 (.fa 1 (t 13)),g 139 137 (.ld none (t 138)),⟨(some 140),(some (137,true)),(.call (.c
 (.fn (.func jA) [] [])) [(.t 139)])⟩,g 141 137 (.un .not (t 140)),pf 142 137 141]) (Y [1,3,4,8,12,142])) (C 142 (rt 2 (u 1)) X)))))) (Y [1,3,4,8,12]))
 (ic 103 12 104)))
def dk:AC:=
 (Q (Q (Q (O [m 19 3,fa 20 3 1,ld 21 20,ls 22 21,bl 23 19 22]) (Y [1,3,23])) (C 23 X (.exit 0))) (Q (Q (.block 1 (Q (Q (O [fa 26 3 1,ld 27 26,m 28 3,ia 29 4 27 28,la 30 4
 29,o 4 (.nw [(.str []),(.str []),(.slice .nil 2 []),(.slice .nil 2 [])] aU),n (.st 4 (t 4) (t 30))]) (Y [1,3,4])) (Q (Q (Q (O [fa 31 0 4,ld 32 31,k1 33
 jA 32,no 34 33]) (Y [1,3,4,34])) (C 34 (rt 2 (u 1)) X)) (Q (Q (O [la 35 6 1,fa 36 1 4,ld 37 36,k2 38 eu 35 37,m 5 38]) (Y [1,3,4,
 5])) (Q (Q (O [m 39 5,ac 40 .lss 39 (i 0)]) (C 40 (rt 2 (u 5)) X)) (Q (Q (O [mc 6 (i 0)]) (Q (.block 2 (lo [1,3,4,5,6] fK)) (Y [1,3,4,5]))) (Q (Q (Q
 (O [la 66 6 1,fa 67 2 4,ld 68 67,k2 69 iP 66 68,m 7 69]) (Y [1,3,4,5,7])) (Q (O [m 70 7,ac 71 .neq 70 (u 0)]) (C 71 (Q (O [m 72 7,m 2 72]) R) X))) (Q
 (Q (O [fa 73 2 1,ld 74 73,m 75 5,ia 76 2 74 75,fa 77 1 76,ld 78 77,m 8 78]) (Y [1,3,4,8])) (Q (Q (O [mc 9 (i 0)]) (Q (.block 4 (lo [1,3,4,8,9]
 fL)) (Y [1,3,4,8]))) (Q (O [mc 12 (i 0)]) (Q (.block 6 (lc [1,3,4,8,12] fN)) (Y [1,3])))))))))))) (Y [1,3])) (ic 24 3 25)))
def nC:AC:=
 (Q (O [o 1 (.bx ae (t 0)),mc 2 (u 0)]) (Q (Q (Q (O [fa 15 3 1,ld 16 15,ls 17 16,ac 18 .gtr 17 (i 128)]) (Y [1,18])) (C 18 (rt 2 (u 3)) X)) (Q (Q (O [mc 3 (i 0)]) (Q
 (.block 0 (lc [1,3] dk)) (Y []))) (rt 2 (u 0)))))
def bz:AFn:=⟨nC,143,[.t 2],.drop,[],none⟩
theorem bA:qf bz [.t 2] .drop:=⟨rfl,rfl,rfl⟩
def iw:AC:=
 (Q (Q (Q (O [m 6 5,fa 7 2 2,ld 8 7,ls 9 8,bl 10 6 9]) (Y [1,2,5,10])) (C 10 X (.exit 0))) (Q (.block 1 (Q (Q (O [fa 13 2 2,ld 14 13,m 15 5,ia 16 2 14 15,fa 17 0 16,ld 18
 17,m 19 1,ar 20 .eql 18 19]) (Y [1,2,5,20])) (C 20 (Q (O [m 21 5,m 4 21]) R) X))) (ic 11 5 12)))
def pS:AC:=
 (Q (O [o 2 (.bx ae (t 0)),mc 4 (i 0)]) (Q (Q (O [mc 5 (i 0)]) (Q (.block 0 (lo [1,2,5] iw)) (Y []))) (rt 4 (i (-1)))))
def jB:AFn:=⟨pS,22,[.t 4],.drop,[],none⟩
theorem pT:qf jB [.t 4] .drop:=⟨rfl,rfl,rfl⟩
def dy:AC:=
 (Q (Q (Q (O [m 10 5,m 11 1,ls 12 11,bl 13 10 12]) (Y [1,2,5,13])) (C 13 X (.exit 0))) (Q (.block 1 (Q (Q (D [W (la 16 6 2),Pm 17 1,Pm 18 5,P (ia 19 2 17 18),Pf 20 0 19,Wl
 21 20,E (k2 22 lT 16 21),Pm 6 22]) (Y [1,2,5,6])) (.block 2 (Q (O [m 24 6,ac 25 .lss 24 (i 0),m 23 25]) (C 23 (rt 4 (u 5)) (Q (Q (D [Pf 27 1 2,Wl 28 27,
 Pm 29 6,P (ia 30 2 28 29),Pf 31 1 30,Wl 32 31,Pm 33 1,Pm 34 5,P (ia 35 2 33 34),Pf 36 1 35,Wl 37 36,E (k2 38 nU 32 37),P (no 39 38),Pm 26 39]) (Y [1,2,
 5,26])) (C 26 (rt 4 (u 1)) (Q (Q (D [Pm 41 5,P (ac 42 .gtr 41 (i 0)),Pm 43 42,P (g 44 43 (.mv (t 1))),P (g 45 43 (.mv (t 5))),P (g 46 43 (.ar .sub (t 45) (i 1))),P (g 47 43
 (.ias 2 (t 44) (t 46))),P (g 48 43 (.fa 0 (t 47))),W (g 49 43 (.ld none (t 48))),P (g 50 43 (.mv (t 1))),P (g 51 43 (.mv (t 5))),P (g 52 43 (.ias 2 (t 50) (t 51))),P (g 53 43
 (.fa 0 (t 52))),W (g 54 43 (.ld none (t 53))),P (g 55 43 (.ar .eql (t 49) (t 54))),P (pf 56 43 55),Pm 40 56]) (Y [1,2,5,40])) (C 40 (rt 4 (u 6)) (Q (Q (D [Pm 58 5,P (ac 59
 .gtr 58 (i 0)),Pm 60 59,P (g 61 60 (.mv (t 1))),P (g 62 60 (.mv (t 5))),P (g 63 60 (.ar .sub (t 62) (i 1))),P (g 64 60 (.ias 2 (t 61) (t 63))),P (g 65 60 (.fa 0 (t 64))),W (g
 66 60 (.ld none (t 65))),P (g 67 60 (.mv (t 1))),P (g 68 60 (.mv (t 5))),P (g 69 60 (.ias 2 (t 67) (t 68))),P (g 70 60 (.fa 0 (t 69))),W (g 71 60 (.ld none (t 70))),P (g 72 60
 (.ar .gtr (t 66) (t 71))),P (pf 73 60 72),Pm 57 73]) (Y [1,2,5,57])) (C 57 (rt 4 (u 1)) X))))))))))) (ic 14 5 15)))
def oz:AC:=
 (Q (O [o 2 (.bx ae (t 0)),mc 4 (u 0)]) (Q (Q (O [m 7 1,ls 8 7,ac 9 .gtr 8 (i 8)]) (C 9 (rt 4 (u 3)) X)) (Q (Q (O [mc 5 (i 0)]) (Q (.block 0 (lo [1,2,5]
 dy)) (Y []))) (rt 4 (u 0)))))
def iW:AFn:=⟨oz,74,[.t 4],.drop,[],none⟩
theorem iX:qf iW [.t 4] .drop:=⟨rfl,rfl,rfl⟩
def js:AC:=
 (Q (O [bl 33 32 31]) (Q (C 33 X (.exit 0)) (Q (.block 1 (Q (O [m 34 32,m 3 34]) (Q (D [Pf 35 1 1,Wl 36 35,Pm 37 3,Pf 38 1 1,Wl 39 38,Pm 40 3,P (ia 41 2 39 40),Pf 42 1 41,Wl
 43 42,K (k1 44 km 43),P (ia 45 2 36 37),Pf 46 1 45,E (n (.st 1 (t 46) (t 44)))]) (Y [1,2,31,32])))) (O [ad 47 32,m 32 47]))))
def jt:AC:=
 (Q (O [bl 64 63 62]) (Q (C 64 X (.exit 4)) (Q (.block 5 (Q (O [m 65 63,m 6 65]) (Q (O [m 66 5,m 67 6,m 68 5,m 69 6,ia 70 4 68 69,fa 71 3 70,ld 72 71,k1 73
 cL 72,ia 74 4 66 67,fa 75 3 74,n (.st 1 (t 75) (t 73))]) (Y [1,2,4,5,50,51,62,63])))) (O [ad 76 63,m 63 76]))))
def ju:AC:=
 (Q (O [bl 52 51 50]) (Q (C 52 X (.exit 2)) (Q (Q (.block 3 (Q (O [m 53 51,m 4 53]) (Q (Q (O [fa 54 2 1,ld 55 54,m 56 4,ia 57 2 55 56,fa 58 1 57,ld 59 58,k1 60
 iT 59,m 5 60]) (Y [1,2,4,5,50,51])) (Q (Q (O [m 61 5,ls 62 61,mc 63 (i 0)]) (Q (.block 4 (lo [1,2,4,5,50,51,62,63] jt)) (Y
 [1,2,4,5,50,51]))) (Q (O [fa 77 2 1,ld 78 77,m 79 4,m 80 5,ia 81 2 78 79,fa 82 1 81,n (.st 1 (t 82) (t 80))]) (Y [1,2,50,51])))))) (Y [1,2,50,51])) (O [ad 83 51,m
 51 83]))))
def jv:AC:=
 (Q (O [bl 88 87 86]) (Q (C 88 X (.exit 6)) (Q (.block 7 (Q (O [m 89 87,m 7 89]) (Q (.dops true [] [] [Pf 90 3 1,(ld 91 90,.quiet),Pm 92 7,Pf 93 3 1,Wl 94 93,Pm 95 7,Pf 96 3
 1,(ld 97 96,.quiet),Pm 98 7,P (ia 99 4 97 98),Pf 100 2 99,(ld 101 100,.quiet),W (k1 102 cL 101),Pf 103 3 1,(ld 104 103,.quiet),Pm 105 7,P
 (ia 106 4 104 105),Pf 107 3 106,(ld 108 107,.quiet),W (k1 109 cR 108),P (ia 110 4 91 92),Pf 111 2 110,K (n (.st 1 (t 111) (t 102))),P
 (ia 112 4 94 95),Pf 113 3 112,K (n (.st 1 (t 113) (t 109)))]) (Y [1,2,86,87])))) (O [ad 114 87,m 87 114]))))
def jw:AC:=
 (Q (O [bl 119 118 117]) (Q (C 119 X (.exit 8)) (Q (.block 9 (Q (O [m 120 118,m 8 120]) (Q (D [Pf 121 5 1,Wl 122 121,Pm 123 8,Pf 124 5 1,Wl 125 124,Pm 126 8,P (ia 127 3 125
 126),Pf 128 2 127,Wl 129 128,K (k1 130 cL 129),P (ia 131 3 122 123),Pf 132 2 131,E (n (.st 1 (t 132) (t 130)))]) (Y [1,2,117,118])))) (O [ad
 133 118,m 118 133]))))
def xS:AC:=
 (Q (O [o 1 (.bx ae (t 0)),o 2 (.nw [(.str []),(.slice .nil 2 []),(.slice .nil 2 []),(.slice .nil 4 []),(.slice .nil 4 []),(.slice .nil 3 [])] ae)]) (Q (Q
 (D [Pf 9 1 1,Wl 10 9,Pf 12 2 1,Wl 13 12,Pf 15 3 1,Wl 16 15,K (k1 11 gF 10),Pf 18 1 1,K (k1 14 gG 13),K (k1
 17 gH 16),E (n (.st 1 (t 18) (t 11))),Pf 19 2 1,E (n (.st 1 (t 19) (t 14))),Pf 20 3 1,E (n (.st 1 (t 20) (t 17)))]) (Y [1,2])) (Q (Q (D [Pf 21
 4 1,Wl 22 21,Pf 24 5 1,Wl 25 24,K (k1 23 gI 22),Pf 27 4 1,K (k1 26 iS 25),E (n (.st 1 (t 27) (t 23))),Pf 28 5
 1,E (n (.st 1 (t 28) (t 26)))]) (Y [1,2])) (Q (Q (Q (O [fa 29 1 1,ld 30 29,ls 31 30,mc 32 (i 0)]) (Y [1,2,31,32])) (Q (.block 0 (lo [1,2,31,32] js)) (Y [1,
 2]))) (Q (Q (Q (O [fa 48 2 1,ld 49 48,ls 50 49,mc 51 (i 0)]) (Y [1,2,50,51])) (Q (.block 2 (lo [1,2,50,51] ju)) (Y [1,2]))) (Q (Q (Q (O [fa 84 3 1,ld 85 84,
 ls 86 85,mc 87 (i 0)]) (Y [1,2,86,87])) (Q (.block 6 (lo [1,2,86,87] jv)) (Y [1,2]))) (Q (Q (Q (O [fa 115 5 1,ld 116 115,ls 117 116,mc 118 (i 0)]) (Y [1,2,
 117,118])) (Q (.block 8 (lo [1,2,117,118] jw)) (Y [1,2]))) (Q (O [la 134 6 1,n (.st 6 (t 2) (t 134))]) R))))))))
def bM:AFn:=⟨xS,135,[.cell 2 (some 6)],.keep,[22],none⟩
theorem cU:qf bM [.cell 2 (some 6)] .keep:=⟨rfl,rfl,rfl⟩
def dN:AC:=
 (Q (O [bl 18 17 16]) (Q (C 18 X (.exit 2)) (Q (.block 3 (Q (O [m 19 17,m 5 19]) (Q (Q (O [la 20 6 1,m 21 4,m 22 5,k 23 (f lR) [(t 20),(t 21),(t 22)],m 6
 23]) (Y [1,3,4,5,6,10,11,16,17])) (Q (O [m 24 6,ac 25 .neq 24 (s [])]) (C 25 (Q (O [m 26 3,m 27 4,m 28 5,m 29 6,o 30 (.bd [(.int .i64 0),(.int .i64 0),(.str [])] [(0,
 1),(1,1),(2,1)] [(0,(t 27)),(1,(t 28)),(2,(t 29))]),o 31 (.bs 3 [(.int .i64 0),(.int .i64 0),(.str [])] 1 [(0,(t 30))]),o 32 (.ap false dx 3 32 false (t 26)
 (t 31)),m 3 32]) (Y [1,3,4,10,11,16,17])) X))))) (O [ad 33 17,m 17 33]))))
def fO:AC:=
 (Q (O [bl 12 11 10]) (Q (C 12 X (.exit 0)) (Q (Q (.block 1 (Q (O [m 13 11,m 4 13]) (Q (Q (O [la 14 6 1,m 15 4,k2 16 nV 14 15,mc 17 (i 0)]) (Y [1,3,4,10,
 11,16,17])) (Q (.block 2 (.loop ⟨(some [1,3,4,10,11,16,17]),[(3,3,dx)],false⟩ dN)) (Y [1,3,10,11]))))) (Y [1,3,10,11])) (O [ad 34
 11,m 11 34]))))
def nD:AC:=
 (Q (O [o 1 (.bx aP (t 0)),mc 2 (.c (.slice .nil 3 []))]) (Q (O [mc 3 (.c (.slice .nil 3 []))]) (Q (Q (Q (O [fa 7 0 1,fa 8 3 7,ld 9 8,ls 10 9,mc 11 (i 0)]) (Y [1,
 3,10,11])) (Q (.block 0 (.loop ⟨(some [1,3,10,11]),[(3,3,dx)],false⟩ fO)) (Y [3]))) (Q (O [m 35 3,m 2 35]) R))))
def dG:AFn:=⟨nD,36,[.t 2],.drop,[],none⟩
theorem eU:qf dG [.t 2] .drop:=⟨rfl,rfl,rfl⟩
def jC:AC:=
 (Q (Q (Q (O [m 14 6,la 15 6 1,m 16 4,k2 17 pD 15 16,bl 18 14 17]) (Y [1,3,4,5,6,18])) (C 18 X (.exit 2))) (Q (.block 3 (Q (O [m 21 5,la 22 6 1,m 23 4,
 m 24 6,k 25 (f qG) [(t 22),(t 23),(t 24)],o 26 (.bs 1 [(.str [])] 1 [(0,(t 25))]),o 27 (.ap false aE 1 16 false (t 21) (t 26)),m 5 27]) (Y [1,3,4,
 5,6]))) (ic 19 6 20)))
def jD:AC:=
 (Q (Q (Q (O [m 7 4,fa 8 3 1,ld 9 8,ls 10 9,bl 11 7 10]) (Y [1,3,4,11])) (C 11 X (.exit 0))) (Q (Q (.block 1 (Q (O [mc 5 (.c (.slice .nil 1 []))]) (Q (Q (O [mc 6 (i 0)]) (Q
 (.block 2 (.loop ⟨(some [1,3,4,5,6]),[(5,1,aE)],false⟩ jC)) (Y [1,3,4,5]))) (Q (O [m 28 3,m 29 5,o 30 (.bs 1 [(.slice .nil 0 [])] 1 [(0,(t
 29))]),o 31 (.ap false fb 1 24 false (t 28) (t 30)),m 3 31]) (Y [1,3,4]))))) (Y [1,3,4])) (ic 12 4 13)))
def ry:AC:=
 (Q (O [o 1 (.bx ae (t 0)),mc 2 (.c (.slice .nil 1 []))]) (Q (O [mc 3 (.c (.slice .nil 1 []))]) (Q (Q (O [mc 4 (i 0)]) (Q (.block 0 (.loop ⟨(some [1,3,4]),[(3,1,
 fb)],false⟩ jD)) (Y [3]))) (Q (O [m 32 3,m 2 32]) R))))
def fU:AFn:=⟨ry,33,[.t 2],.drop,[],none⟩
theorem kC:qf fU [.t 2] .drop:=⟨rfl,rfl,rfl⟩
def oA:AC:=
 (Q (O [o 1 (.bx eZ (t 0)),mc 2 (.c .nilfn)]) (Q (O [o 3 (.mf (.func dw) [] [(t 1)]),m 2 3]) R))
def oB:AFn:=⟨oA,4,[.t 2],.keep,[],none⟩
theorem zH:qf oB [.t 2] .keep:=⟨rfl,rfl,rfl⟩
def zI:AC:=
 (Q (O [mc 2 F]) (Q (Q (O [m 3 0,lt 4 3,ac 5 .geq 4 (i 1),m 6 5,g 7 6 (.mv (t 0)),g 8 6 (.len .str (t 7)),g 9 6 (.ar .leq (t 8) (i 24)),pf 10 6 9,m 11 10,g 12 11 (.mv (t
 0)),⟨(some 13),(some (11,true)),(.call (.c (.fn (.func qH) [] [])) [(.t 12),(.c (.fn (.func qI) [] []))])⟩,pf 14 11 13,m 2 14]) (Y [2])) R))
def rj:AFn:=⟨zI,15,[.t 2],.drop,[],none⟩
def iY:AC:=
 (Q (Q (Q (O [m 12 3,m 13 0,lt 14 13,bl 15 12 14]) (Y [0,3,15])) (C 15 X (.exit 0))) (Q (.block 1 (Q (Q (O [m 18 0,m 19 3,o 20 (.ixs (t 18) (t 19)),ac 21 .lss 20 (u 33),m 22
 21,h 23 22 (.mv (t 0)),h 24 22 (.mv (t 3)),h 25 22 (.ixs (t 23) (t 24)),h 26 22 (.ar .gtr (t 25) (u 126)),pt 27 22 26]) (Y [0,3,27])) (C 27 (rt 2 F) X))) (ic 16 3 17)))
def qM:AC:=
 (Q (O [mc 2 F]) (Q (Q (Q (O [m 4 0,lt 5 4,ac 6 .lss 5 (i 1),m 7 6,h 8 7 (.mv (t 0)),h 9 7 (.len .str (t 8)),h 10 7 (.ar .gtr (t 9) (i 24)),pt 11 7 10]) (Y [0,11])) (C 11 (rt
 2 F) X)) (Q (Q (O [mc 3 (i 0)]) (Q (.block 0 (lo [0,3] iY)) (Y []))) (rt 2 T))))
def bV:AFn:=⟨qM,28,[.t 2],.drop,[],none⟩
def iy:AC:=
 (Q (O [bl 23 22 21]) (Q (C 23 X (.exit 0)) (Q (.block 1 (Q (Q (O [ia 24 2 20 22,la 25 2 24,o 8 (.nw [(.int .i64 0),(.str [])] cB),n (.st 2 (t 8) (t 25))]) (Y [1,2,
 3,8,20,21,22])) (Q (Q (O [fa 26 0 8,ld 27 26,m 28 2,ar 29 .eql 27 28]) (Y [1,2,3,8,20,21,22,29])) (C 29 (Q (O [fa 30 1 8,ld 31 30,m 6 31]) R) X)))) (O [ad 32 22,m
 22 32]))))
def pU:AC:=
 (Q (O [o 3 (.bx aP (t 0)),mc 6 (s [])]) (Q (Q (Q (O [fa 14 0 3,fa 15 3 14,ld 16 15,m 17 1,ia 18 4 16 17,fa 19 3 18,ld 20 19,ls 21 20,mc 22 (i 0)]) (Y [1,2,
 3,20,21,22])) (Q (.block 0 (lc [1,2,3,20,21,22] iy)) (Y [1,2,3]))) (Q (Q (O [la 34 6 3,m 35 1,m 36 2,k 37 (f lU) [(t 34),(t
 35),(t 36)],m 33 37,ex 38 33 0,ex 39 33 1,o 9 (.nw [(.int .i64 0),(.str []),(.str []),(.slice .nil 2 [])] aS),n (.st 4 (t 9) (t 38)),m 10 39]) (Y [1,3,9])) (Q (Q
 (O [la 41 6 3,m 42 1,la 43 4 9,k 44 (f nW) [(t 41),(t 42),(t 43)],m 40 44,ex 45 40 0,ex 46 40 1,m 11 45,m 12 46]) (Y [11,12])) (Q (Q (O [m 47 12,no
 48 47]) (C 48 (rt 6 (s [])) X)) (Q (Q (O [m 49 11,m 50 11,ls 51 50,ac 52 .sub 51 (i 1),ia 53 1 49 52,ld 54 53,k 55 (f qJ) [(t 54),(s [43]),(s [])],m 13
 55]) (Y [13])) (Q (Q (O [m 56 13,lt 57 56,ac 58 .gtr 57 (i 24)]) (C 58 (rt 6 (s [])) X)) (Q (O [m 59 13,m 6 59]) R))))))))
def gg:AFn:=⟨pU,60,[.t 6],.drop,[],none⟩
theorem gh:qf gg [.t 6] .drop:=⟨rfl,rfl,rfl⟩
def cF:AC:=
 (Q (O [mc 4 (i 0),mc 5 (.c .nilif)]) (Q (O [m 6 0,k1 7 cu 6]) (Q (Q (O [m 8 0,m 9 0,o 10 (.nc (t 9)),fa 11 1 10,ld 12 11,m 13 1,o 14 (.ap false
 dj 1 1 true (t 12) (t 13)),o 15 (.nc (t 8)),fa 16 1 15,n (.st 1 (t 16) (t 14))]) (Y [1])) (Q (Q (O [m 17 1,lt 18 17,m 4 18,mc 5 (.c .nilif)]) (Y [4,5])) R))))
def fZ:AFn:=⟨cF,19,[.t 4,.t 5],.drop,[],none⟩
theorem dM:qf fZ [.t 4,.t 5] .drop:=⟨rfl,rfl,rfl⟩
def eI:AC:=
 (Q (O [mc 4 (.c .nilif)]) (Q (O [m 5 0,k1 6 cu 5]) (Q (Q (O [m 7 0,m 8 0,o 9 (.nc (t 8)),fa 10 1 9,ld 11 10,m 12 1,o 13 (.bs 1 [(.int .u8 0)] 1 [(0,
 (t 12))]),o 14 (.ap false dj 1 1 false (t 11) (t 13)),o 15 (.nc (t 7)),fa 16 1 15,n (.st 1 (t 16) (t 14))]) (Y [])) (Q (O [mc 4 (.c .nilif)]) R))))
def iJ:AFn:=⟨eI,17,[.t 4],.drop,[],none⟩
theorem qo:qf iJ [.t 4] .drop:=⟨rfl,rfl,rfl⟩
def wO:AC:=
 (Q (O [mc 2 F]) (Q (Q (O [m 3 0,ac 4 .geq 3 (u 97),m 5 4,g 6 5 (.mv (t 0)),g 7 5 (.ar .leq (t 6) (u 122)),pf 8 5 7,m 2 8]) (Y [2])) R))
def iZ:AFn:=⟨wO,9,[.t 2],.drop,[],none⟩
def zJ:AC:=
 (Q (O [mc 2 F]) (Q (O [o 3 (.nw [.nilfn] DQ),n (.st 1 (t 3) (f gk))]) (Q (Q (D [Pm 4 0,W (lt 5 4),P (ac 6 .geq 5 (i 1)),Pm 7 6,P (g 8 7 (.mv (t 0))),
 W (g 9 7 (.len .str (t 8))),P (g 10 7 (.ar .leq (t 9) (i 12))),P (pf 11 7 10),Pm 12 11,W (g 13 12 (.ld none (t 3))),P (g 14 12 (.mv (t 0))),P (g 15 12 (.ixs (t 14) (i 0))),E
 (⟨(some 16),(some (12,true)),(.call (.t 13) [(.t 15)])⟩),P (pf 17 12 16),Pm 18 17,P (g 19 18 (.mv (t 0))),P (g 20 18 (.mf (.func nr) [] [(t 3)])),E (⟨(some 21),
 (some (18,true)),(.call (.c (.fn (.func qH) [] [])) [(.t 19),(.t 20)])⟩),P (pf 22 18 21),Pm 2 22]) (Y [2])) R)))
def kZ:AFn:=⟨zJ,23,[.t 2],.drop,[],none⟩
def eb:AC:=
 (Q (O [mc 4 F]) (Q (Q (O [m 5 0,m 6 1,k2 7 bT 5 6,ac 8 .geq 7 (i 0),m 4 8]) (Y [4])) R))
def b8:AFn:=⟨eb,9,[.t 4],.drop,[],none⟩
theorem o6:qf b8 [.t 4] .drop:=⟨rfl,rfl,rfl⟩
def nE:AC:=
 (Q (O [o 2 (.bx bO (t 0)),mc 3 F]) (Q (Q (O [fa 4 0 2,ld 5 4,fa 6 0 1,ld 7 6,ar 8 .eql 5 7,m 3 8]) (Y [3])) R))
def ka:AFn:=⟨nE,9,[.t 3],.drop,[],none⟩
theorem yB:qf ka [.t 3] .drop:=⟨rfl,rfl,rfl⟩
def jx:AC:=
 (Q (O [mc 4 F]) (Q (Q (O [m 5 0,m 6 1,k2 7 ko 5 6,ac 8 .geq 7 (i 0),m 4 8]) (Y [4])) R))
def eY:AFn:=⟨jx,9,[.t 4],.drop,[],none⟩
theorem uf:qf eY [.t 4] .drop:=⟨rfl,rfl,rfl⟩
def ed:AC:=
 (Q (O [mc 4 F]) (Q (Q (O [m 5 0,m 6 1,k2 7 bU 5 6,ac 8 .geq 7 (i 0),m 4 8]) (Y [4])) R))
def b9:AFn:=⟨ed,9,[.t 4],.drop,[],none⟩
theorem o7:qf b9 [.t 4] .drop:=⟨rfl,rfl,rfl⟩
def nF:AC:=
 (Q (O [o 2 (.bx aR (t 0)),mc 3 F]) (Q (Q (O [fa 4 0 2,ld 5 4,fa 6 0 1,ld 7 6,ar 8 .eql 5 7,m 3 8]) (Y [3])) R))
def kb:AFn:=⟨nF,9,[.t 3],.drop,[],none⟩
theorem yC:qf kb [.t 3] .drop:=⟨rfl,rfl,rfl⟩
def iz:AC:=
 (Q (O [bl 17 16 15]) (Q (C 17 X (.exit 0)) (Q (.block 1 (Q (Q (O [m 18 16,ia 19 4 14 16,la 20 4 19,o 8 (.nw [(.int .i64 0),(.str []),(.str []),(.slice .nil 2 [])] aS),
 m 7 18,n (.st 4 (t 8) (t 20))]) (Y [2,7,8,14,15,16])) (Q (Q (O [m 21 2,m 22 7,la 23 4 8,k 24 (t 21) [(t 22),(t 23)],m 9 24]) (Y [2,9,14,15,16])) (Q (O [m 25 9,ac 26
 .neq 25 (u 0)]) (C 26 (Q (O [m 27 9,m 6 27]) R) X))))) (O [ad 28 16,m 16 28]))))
def pW:AC:=
 (Q (O [mc 6 (u 0)]) (Q (Q (Q (O [m 10 0,ls 11 10,m 12 1,ar 13 .gtr 11 12]) (Y [0,2,13])) (C 13 (rt 6 (u 3)) X)) (Q (Q (O [m 14 0,ls 15 14,mc 16 (i 0)]) (Q (.block 0 (lc [2,
 14,15,16] iz)) (Y []))) (rt 6 (u 0)))))
def ey:AFn:=⟨pW,29,[.t 6],.drop,[],none⟩
theorem pX:qf ey [.t 6] .drop:=⟨rfl,rfl,rfl⟩
def nG:AC:=
 (Q (O [o 4 (.bx aS (t 1)),mc 5 (u 0)]) (Q (Q (Q (O [fa 6 0 4,ld 7 6,ac 8 .lss 7 (i 0),m 9 8,h 10 9 (.fa 0 (t 4)),h 11 9 (.ld none (t 10)),h 12 9 (.ar .gtr (t 11) (i
 24)),pt 13 9 12,m 14 13,h 15 14 (.fa 1 (t 4)),h 16 14 (.ld none (t 15)),⟨(some 17),(some (14,false)),(.call (.c (.fn (.func jI) [] [])) [(.t 16),(.c (.fn (.func
 cD) [] []))])⟩,h 18 14 (.un .not (t 17)),pt 19 14 18,m 20 19,h 21 20 (.fa 2 (t 4)),h 22 20 (.ld none (t 21)),⟨(some 23),(some (20,false)),(.call (.c (.fn (.func
 jI) [] [])) [(.t 22),(.c (.fn (.func cD) [] []))])⟩,h 24 20 (.un .not (t 23)),pt 25 20 24]) (Y [2,4,25])) (C 25 (rt 5 (u 1)) X)) (Q (Q (O [la 26 6 2,fa
 27 3 4,ld 28 27,k2 29 iR 26 28,m 5 29]) (Y [5])) R)))
def kd:AFn:=⟨nG,30,[.t 5],.drop,[],none⟩
theorem yD:qf kd [.t 5] .drop:=⟨rfl,rfl,rfl⟩
def xU:AC:=
 (Q (O [mc 4 F]) (Q (Q (O [m 5 0,lt 6 5,ac 7 .leq 6 (i 6),m 8 7,g 9 8 (.mv (t 0)),g 10 8 (.mv (t 1)),⟨(some 11),(some (8,true)),(.call (.c (.fn (.func qH) [] []))
 [(.t 9),(.t 10)])⟩,pf 12 8 11,m 4 12]) (Y [4])) R))
def uI:AFn:=⟨xU,13,[.t 4],.drop,[],none⟩
theorem JB:qf uI [.t 4] .drop:=⟨rfl,rfl,rfl⟩
def oD:AC:=
 (Q (O [o 2 (.bx bw (t 0)),o 3 (.bx eh (t 1)),mc 4 (u 0)]) (Q (Q (O [ld 5 3,o 6 (.mf (.func jJ) [] [(t 2),(t 3)]),k 7 (f
 lV) [(t 5),(i 8),(t 6)],m 4 7]) (Y [4])) R))
def k6:AFn:=⟨oD,8,[.t 4],.drop,[],none⟩
theorem zK:qf k6 [.t 4] .drop:=⟨rfl,rfl,rfl⟩
def o8:AC:=
 (Q (Q (O [o 2 (.bx ae (t 0)),o 3 (.bx aE (t 1)),o 4 (.nw [(.str []),(.slice .nil 4 [])] aR),mc 5 F]) (Y [2,3,4])) (Q (Q (O [fa 7 2 2,ld 8 7,o 9
 (.mf (.func my) [] [(t 3)]),k2 10 bU 8 9,m 6 10]) (Y [2,4,6])) (Q (Q (O [m 11 6,ac 12 .lss 11 (i 0)]) (C 12 (Q (O [o 13 (.bd
 [(.str []),(.slice .nil 4 [])] [(0,1),(1,1)] []),n (.st 2 (t 4) (t 13)),mc 5 F]) R) X)) (Q (Q (O [fa 14 2 2,ld 15 14,m 16 6,ia 17 2 15 16,la 18 2 17,n (.st 2 (t 4) (t
 18)),mc 5 T]) (Y [4,5])) R))))
def so:AFn:=⟨o8,19,[.cell 4 (some 2),.t 5],.drop,[],none⟩
theorem Av:qf so [.cell 4 (some 2),.t 5] .drop:=⟨rfl,rfl,rfl⟩
def xV:AC:=
 (Q (O [mc 2 F]) (Q (Q (O [m 3 0,k1 4 zD 3,m 5 4,g 6 5 (.mv (t 0)),⟨(some 7),(some (5,true)),(.call (.c (.fn (.func qH) [] [])) [(.t 6),(.c (.fn (.func
 cD) [] []))])⟩,pf 8 5 7,m 2 8]) (Y [2])) R))
def pq:AFn:=⟨xV,9,[.t 2],.drop,[],none⟩
def ee:AC:=
 (Q (O [mc 4 F]) (Q (Q (O [m 5 0,m 6 1,k2 7 cE 5 6,ac 8 .geq 7 (i 0),m 4 8]) (Y [4])) R))
def ca:AFn:=⟨ee,9,[.t 4],.drop,[],none⟩
theorem o9:qf ca [.t 4] .drop:=⟨rfl,rfl,rfl⟩
def nH:AC:=
 (Q (O [o 2 (.bx aU (t 0)),mc 3 F]) (Q (Q (O [fa 4 0 2,ld 5 4,fa 6 0 1,ld 7 6,ar 8 .eql 5 7,m 9 8,g 10 9 (.fa 1 (t 2)),g 11 9 (.ld none (t 10)),g 12 9 (.fa 1 (t
 1)),g 13 9 (.ld none (t 12)),g 14 9 (.ar .eql (t 11) (t 13)),pf 15 9 14,m 3 15]) (Y [3])) R))
def kf:AFn:=⟨nH,16,[.t 3],.drop,[],none⟩
theorem yE:qf kf [.t 3] .drop:=⟨rfl,rfl,rfl⟩
def eN:AC:=
 (Q (O [mc 4 F]) (Q (Q (O [m 5 0,m 6 1,k2 7 cP 5 6,ac 8 .geq 7 (i 0),m 4 8]) (Y [4])) R))
def cw:AFn:=⟨eN,9,[.t 4],.drop,[],none⟩
theorem qu:qf cw [.t 4] .drop:=⟨rfl,rfl,rfl⟩
def nI:AC:=
 (Q (O [o 2 (.bx aS (t 0)),mc 3 F]) (Q (Q (O [fa 4 2 1,ld 5 4,fa 6 3 2,ld 7 6,k2 8 xJ 5 7,m 3 8]) (Y [3])) R))
def kg:AFn:=⟨nI,9,[.t 3],.drop,[],none⟩
theorem yF:qf kg [.t 3] .drop:=⟨rfl,rfl,rfl⟩
def xW:AC:=
 (Q (O [o 3 (.bx eh (t 1)),mc 4 F]) (Q (Q (O [m 5 0,o 6 (.mf (.func sg) [] [(t 3)]),k2 7 bP 5 6,m 4 7]) (Y [4])) R))
def uJ:AFn:=⟨xW,8,[.t 4],.drop,[],none⟩
theorem JC:qf uJ [.t 4] .drop:=⟨rfl,rfl,rfl⟩
def dh:AC:=
 (Q (O [mc 4 F]) (Q (Q (O [m 5 0,m 6 1,k2 7 bK 5 6,ac 8 .geq 7 (i 0),m 4 8]) (Y [4])) R))
def bD:AFn:=⟨dh,9,[.t 4],.drop,[],none⟩
theorem l8:qf bD [.t 4] .drop:=⟨rfl,rfl,rfl⟩
def nJ:AC:=
 (Q (O [o 2 (.bx cB (t 0)),mc 3 F]) (Q (Q (O [fa 4 0 2,ld 5 4,fa 6 0 1,ld 7 6,ar 8 .eql 5 7,m 3 8]) (Y [3])) R))
def kh:AFn:=⟨nJ,9,[.t 3],.drop,[],none⟩
theorem yG:qf kh [.t 3] .drop:=⟨rfl,rfl,rfl⟩
def wP:AC:=
 (Q (O [mc 2 F]) (Q (Q (O [m 3 0,k1 4 cD 3,m 5 4,h 6 5 (.mv (t 0)),h 7 5 (.ar .eql (t 6) (u 43)),pt 8 5 7,m 2 8]) (Y [2])) R))
def tz:AFn:=⟨wP,9,[.t 2],.drop,[],none⟩
theorem H6:qf tz [.t 2] .drop:=⟨rfl,rfl,rfl⟩
def wQ:AC:=
 (Q (O [mc 2 F]) (Q (Q (O [m 3 0,k1 4 nq 3,m 5 4,h 6 5 (.mv (t 0)),h 7 5 (.ar .eql (t 6) (u 35)),pt 8 5 7,m 9 8,h 10 9 (.mv (t 0)),h 11 9 (.ar .eql (t 10) (u
 86)),pt 12 9 11,m 13 12,h 14 13 (.mv (t 0)),h 15 13 (.ar .eql (t 14) (u 67)),pt 16 13 15,m 2 16]) (Y [2])) R))
def tA:AFn:=⟨wQ,17,[.t 2],.drop,[],none⟩
theorem H7:qf tA [.t 2] .drop:=⟨rfl,rfl,rfl⟩
def oF:AC:=
 (Q (O [mc 2 F]) (Q (Q (O [m 3 0,ac 4 .geq 3 (u 97),m 5 4,g 6 5 (.mv (t 0)),g 7 5 (.ar .leq (t 6) (u 122)),pf 8 5 7,m 2 8]) (Y [2])) R))
def fA:AFn:=⟨oF,9,[.t 2],.drop,[],none⟩
def ja:AC:=
 (Q (Q (Q (O [m 14 3,m 15 0,lt 16 15,bl 17 14 16]) (Y [0,3,17])) (C 17 X (.exit 0))) (Q (.block 1 (Q (Q (O [m 20 0,m 21 3,o 22 (.ixs (t 20) (t 21)),ac 23 .geq 22 (u 65),m 24
 23,g 25 24 (.mv (t 0)),g 26 24 (.mv (t 3)),g 27 24 (.ixs (t 25) (t 26)),g 28 24 (.ar .leq (t 27) (u 90)),pf 29 24 28,m 4 29]) (Y [0,3,4])) (Q (Q (O [m 30 0,m 31 3,o 32
 (.ixs (t 30) (t 31)),ac 33 .geq 32 (u 48),m 34 33,g 35 34 (.mv (t 0)),g 36 34 (.mv (t 3)),g 37 34 (.ixs (t 35) (t 36)),g 38 34 (.ar .leq (t 37) (u 57)),pf 39 34 38,m 5 39])
 (Y [0,3,4,5])) (Q (Q (O [m 40 0,m 41 3,o 42 (.ixs (t 40) (t 41)),k1 43 fx 42,no 44 43,m 45 44,g 46 45 (.mv (t 4)),g 47 45 (.un .not (t 46)),pf 48 45
 47,m 49 48,g 50 49 (.mv (t 3)),g 51 49 (.ar .eql (t 50) (i 0)),g 52 49 (.mv (t 51)),h 53 52 (.mv (t 5)),h 54 52 (.un .not (t 53)),h 55 52 (.mv (t 54)),g 56 55 (.mv (t 0)),g
 57 55 (.mv (t 3)),g 58 55 (.ixs (t 56) (t 57)),g 59 55 (.ar .neq (t 58) (u 95)),h 60 52 (.pk (t 55) (t 59) F),g 61 49 (.pk (t 52) T (t 60)),pf 62 49 61]) (Y [0,3,62])) (C 62
 (rt 2 F) X))))) (ic 18 3 19)))
def qN:AC:=
 (Q (O [mc 2 F]) (Q (Q (Q (O [m 6 0,lt 7 6,ac 8 .lss 7 (i 1),m 9 8,h 10 9 (.mv (t 0)),h 11 9 (.len .str (t 10)),h 12 9 (.ar .gtr (t 11) (i 12)),pt 13 9 12]) (Y [0,13])) (C 13
 (rt 2 F) X)) (Q (Q (O [mc 3 (i 0)]) (Q (.block 0 (lo [0,3] ja)) (Y []))) (rt 2 T))))
def bW:AFn:=⟨qN,63,[.t 2],.drop,[],none⟩
def iA:AC:=
 (Q (Q (Q (O [m 6 5,fa 7 1 2,ld 8 7,ls 9 8,bl 10 6 9]) (Y [1,2,5,10])) (C 10 X (.exit 0))) (Q (.block 1 (Q (Q (O [fa 13 1 2,ld 14 13,m 15 5,ia 16 2 14 15,fa 17 0 16,ld 18
 17,m 19 1,ar 20 .eql 18 19]) (Y [1,2,5,20])) (C 20 (Q (O [m 21 5,m 4 21]) R) X))) (ic 11 5 12)))
def pY:AC:=
 (Q (O [o 2 (.bx ae (t 0)),mc 4 (i 0)]) (Q (Q (O [mc 5 (i 0)]) (Q (.block 0 (lo [1,2,5] iA)) (Y []))) (rt 4 (i (-1)))))
def jE:AFn:=⟨pY,22,[.t 4],.drop,[],none⟩
theorem pZ:qf jE [.t 4] .drop:=⟨rfl,rfl,rfl⟩
def jT:AC:=
 (Q (Q (Q (O [m 6 5,m 7 0,ls 8 7,bl 9 6 8]) (Y [0,1,5,9])) (C 9 X (.exit 0))) (Q (.block 1 (Q (Q (O [m 12 0,m 13 5,ia 14 1 12 13,ld 15 14,m 16 1,ar 17 .eql 15 16]) (Y [0,
 1,5,17])) (C 17 (rt 4 T) X))) (ic 10 5 11)))
def sA:AC:=
 (Q (O [mc 4 F]) (Q (Q (O [mc 5 (i 0)]) (Q (.block 0 (lo [0,1,5] jT)) (Y []))) (rt 4 F)))
def lE:AFn:=⟨sA,18,[.t 4],.drop,[],none⟩
theorem sB:qf lE [.t 4] .drop:=⟨rfl,rfl,rfl⟩
def p6:AC:=
 (Q (O [mc 2 F]) (Q (Q (O [m 3 0,k1 4 qD 3,m 5 4,g 6 5 (.mv (t 0)),⟨(some 7),(some (5,true)),(.call (.c (.fn (.func cO) [] [])) [(.t 6),(.c
 (.str []))])⟩,pf 8 5 7,m 2 8]) (Y [2])) R))
def jF:AFn:=⟨p6,9,[.t 2],.drop,[],none⟩
def iB:AC:=
 (Q (Q (Q (O [m 11 6,m 12 0,ls 13 12,bl 14 11 13]) (Y [0,1,6,14])) (C 14 X (.exit 0))) (Q (.block 1 (Q (Q (D [Pm 17 0,Pm 18 6,P (ac 19 .sub 18 (i 1)),P (ia 20 2 17 19),Pf
 21 0 20,Wl 22 21,Pm 23 0,Pm 24 6,P (ia 25 2 23 24),Pf 26 0 25,Wl 27 26,P (ar 28 .geq 22 27)]) (Y [0,1,6,28])) (C 28 (Q (O [mc 4 (.c (.slice .nil 2 [])),mc 5 F]) R) X)))
 (ic 15 6 16)))
def iC:AC:=
 (Q (Q (Q (O [m 29 7,m 30 1,ls 31 30,bl 32 29 31]) (Y [0,1,7,32])) (C 32 X (.exit 2))) (Q (.block 3 (Q (Q (D [Pm 35 1,Pm 36 7,P (ac 37 .sub 36 (i 1)),P (ia 38 2 35 37),Pf
 39 0 38,Wl 40 39,Pm 41 1,Pm 42 7,P (ia 43 2 41 42),Pf 44 0 43,Wl 45 44,P (ar 46 .geq 40 45)]) (Y [0,1,7,46])) (C 46 (Q (O [mc 4 (.c (.slice .nil 2 [])),mc 5 F]) R) X)))
 (ic 33 7 34)))
def cf:AC:=
 (Q (Q (Q (O [m 47 9,m 48 0,ls 49 48,bl 50 47 49,m 51 50,h 52 51 (.mv (t 10)),h 53 51 (.mv (t 1)),h 54 51 (.len .sl (t 53)),h 55 51 (.ar .lss (t 52) (t 54)),pt 56 51 55]) (Y
 [0,1,8,9,10,56])) (C 56 X (.exit 4))) (.block 5 (.block 6 (Q (Q (D [Pm 69 10,Pm 70 1,W (ls 71 70),P (ar 72 .eql 69 71),Pm 73 72,P (h 74 73 (.mv (t 9))),P (h 75 73 (.mv (t
 0))),W (h 76 73 (.len .sl (t 75))),P (h 77 73 (.ar .lss (t 74) (t 76))),P (h 78 73 (.mv (t 77))),P (g 79 78 (.mv (t 0))),P (g 80 78 (.mv (t 9))),P (g 81 78 (.ias 2 (t 79) (t
 80))),P (g 82 78 (.fa 0 (t 81))),W (g 83 78 (.ld none (t 82))),P (g 84 78 (.mv (t 1))),P (g 85 78 (.mv (t 10))),P (g 86 78 (.ias 2 (t 84) (t 85))),P (g 87 78 (.fa 0 (t 86))),
 W (g 88 78 (.ld none (t 87))),P (g 89 78 (.ar .lss (t 83) (t 88))),P (h 90 73 (.pk (t 78) (t 89) F)),P (pt 91 73 90),Pm 68 91]) (Y [0,1,8,9,10,68])) (C 68 (Q (Q (O [m 92 8,
 m 93 0,m 94 9,ia 95 2 93 94,la 96 2 95,o 97 (.bs 2 [(.str []),(.str [])] 1 [(0,(t 96))]),o 98 (.ap false bQ 2 32 false (t 92) (t 97)),m 8 98]) (Y [0,1,8,9,10]))
 (ic 99 9 100)) (Q (Q (D [Pm 102 9,Pm 103 0,W (ls 104 103),P (ar 105 .eql 102 104),Pm 106 105,P (h 107 106 (.mv (t 1))),P (h 108 106 (.mv (t 10))),P (h 109 106 (.ias 2 (t 107)
 (t 108))),P (h 110 106 (.fa 0 (t 109))),W (h 111 106 (.ld none (t 110))),P (h 112 106 (.mv (t 0))),P (h 113 106 (.mv (t 9))),P (h 114 106 (.ias 2 (t 112) (t 113))),P (h 115
 106 (.fa 0 (t 114))),W (h 116 106 (.ld none (t 115))),P (h 117 106 (.ar .lss (t 111) (t 116))),P (pt 118 106 117),Pm 101 118]) (Y [0,1,8,9,10,101])) (C 101 (Q (Q (O [m 119
 8,m 120 1,m 121 10,ia 122 2 120 121,la 123 2 122,o 124 (.bs 2 [(.str []),(.str [])] 1 [(0,(t 123))]),o 125 (.ap false bQ 2 32 false (t 119) (t 124)),m 8 125]) (Y
 [0,1,8,9,10])) (ic 126 10 127)) (Q (Q (D [Pm 129 0,Pm 130 9,P (ia 131 2 129 130),W (la 132 2 131),Pm 133 1,Pm 134 10,P (ia 135 2 133 134),W (la 136 2 135),P (o 137 (.eq
 true (.st [(0,.str),(1,.str)]) (t 132) (t 136))),Pm 128 137]) (Y [0,1,8,9,10,128])) (C 128 (Q (O [mc 4 (.c (.slice .nil 2 [])),mc 5 F]) R) (Q (Q (O [m 57 8,m 58 0,m 59
 9,ia 60 2 58 59,la 61 2 60,o 62 (.bs 2 [(.str []),(.str [])] 1 [(0,(t 61))]),o 63 (.ap false bQ 2 32 false (t 57) (t 62)),m 8 63]) (Y [0,1,8,9,10])) (Q (ic 64 9
 65) (ic 66 10 67))))))))))))
def p7:AC:=
 (Q (O [mc 4 (.c (.slice .nil 2 [])),mc 5 F]) (Q (Q (O [mc 6 (i 1)]) (Q (.block 0 (lo [0,1,6] iB)) (Y [0,1]))) (Q (Q (O [mc 7 (i 1)]) (Q (.block 2 (lo [0,1,
 7] iC)) (Y [0,1]))) (Q (O [mc 8 (.c (.slice .nil 2 []))]) (Q (O [mc 9 (i 0),mc 10 (i 0)]) (Q (Q (.block 4 (.loop ⟨(some [0,1,8,9,10]),[(8,2,
 bQ)],false⟩ cf)) (Y [8])) (Q (O [m 138 8,m 4 138,mc 5 T]) R)))))))
def da:AFn:=⟨p7,139,[.t 4,.t 5],.drop,[],none⟩
theorem bI:qf da [.t 4,.t 5] .drop:=⟨rfl,rfl,rfl⟩
def gJ:AC:=
 (Q (O [mc 2 (.c (.slice .nil 2 []))]) (Q (Q (O [m 3 0,o 4 (.eq false .sl (t 3) (.c (.slice .nil 0 [])))]) (C 4 (Q (O [mc 2 (.c (.slice .nil 2 []))]) R) X)) (Q (Q (O [o 5 (.bs 2
 [(.str []),(.slice .nil 0 [])] 0 []),m 6 0,o 7 (.ap true bO 2 40 false (t 5) (t 6)),m 2 7]) (Y [2])) R)))
def gK:AFn:=⟨gJ,8,[.t 2],.keep,[3],none⟩
theorem gL:qf gK [.t 2] .keep:=⟨rfl,rfl,rfl⟩
def gM:AC:=
 (Q (O [mc 2 (.c (.slice .nil 2 []))]) (Q (Q (O [m 3 0,o 4 (.eq false .sl (t 3) (.c (.slice .nil 0 [])))]) (C 4 (Q (O [mc 2 (.c (.slice .nil 2 []))]) R) X)) (Q (Q (O [o 5 (.bs 2
 [(.str []),(.slice .nil 0 [])] 0 []),m 6 0,o 7 (.ap true aR 2 40 false (t 5) (t 6)),m 2 7]) (Y [2])) R)))
def gN:AFn:=⟨gM,8,[.t 2],.keep,[3],none⟩
theorem gO:qf gN [.t 2] .keep:=⟨rfl,rfl,rfl⟩
def gP:AC:=
 (Q (O [mc 2 (.c (.slice .nil 4 []))]) (Q (Q (O [m 3 0,o 4 (.eq false .sl (t 3) (.c (.slice .nil 0 [])))]) (C 4 (Q (O [mc 2 (.c (.slice .nil 4 []))]) R) X)) (Q (Q (O [o 5 (.bs 4
 [(.str []),(.str []),(.slice .nil 0 []),(.slice .nil 0 [])] 0 []),m 6 0,o 7 (.ap true aU 4 80 false (t 5) (t 6)),m 2 7]) (Y [2])) R)))
def gQ:AFn:=⟨gP,8,[.t 2],.keep,[3],none⟩
theorem gR:qf gQ [.t 2] .keep:=⟨rfl,rfl,rfl⟩
def gS:AC:=
 (Q (O [mc 2 (.c (.slice .nil 4 []))]) (Q (Q (O [m 3 0,o 4 (.eq false .sl (t 3) (.c (.slice .nil 0 [])))]) (C 4 (Q (O [mc 2 (.c (.slice .nil 4 []))]) R) X)) (Q (Q (O [o 5 (.bs 4
 [(.str []),(.str []),(.str []),(.str [])] 0 []),m 6 0,o 7 (.ap false b7 4 64 false (t 5) (t 6)),m 2 7]) (Y [2])) R)))
def gT:AFn:=⟨gS,8,[.t 2],.drop,[],none⟩
theorem gU:qf gT [.t 2] .drop:=⟨rfl,rfl,rfl⟩
def jb:AC:=
 (Q (O [mc 2 (.c (.slice .nil 3 []))]) (Q (Q (O [m 3 0,o 4 (.eq false .sl (t 3) (.c (.slice .nil 0 [])))]) (C 4 (Q (O [mc 2 (.c (.slice .nil 3 []))]) R) X)) (Q (Q (O [o 5 (.bs 3
 [(.str []),(.str []),(.slice .nil 0 [])] 0 []),m 6 0,o 7 (.ap true c6 3 56 false (t 5) (t 6)),m 2 7]) (Y [2])) R)))
def jd:AFn:=⟨jb,8,[.t 2],.keep,[3],none⟩
theorem je:qf jd [.t 2] .keep:=⟨rfl,rfl,rfl⟩
def kp:AC:=
 (Q (O [mc 2 (.c (.slice .nil 1 []))]) (Q (Q (O [m 3 0,o 4 (.eq false .sl (t 3) (.c (.slice .nil 0 [])))]) (C 4 (Q (O [mc 2 (.c (.slice .nil 1 []))]) R) X)) (Q (Q (O [o 5 (.bs 1
 [(.str [])] 0 []),m 6 0,o 7 (.ap false aE 1 16 false (t 5) (t 6)),m 2 7]) (Y [2])) R)))
def kq:AFn:=⟨kp,8,[.t 2],.drop,[],none⟩
theorem kr:qf kq [.t 2] .drop:=⟨rfl,rfl,rfl⟩
def jf:AC:=
 (Q (O [mc 2 (.c (.slice .nil 4 []))]) (Q (Q (O [m 3 0,o 4 (.eq false .sl (t 3) (.c (.slice .nil 0 [])))]) (C 4 (Q (O [mc 2 (.c (.slice .nil 4 []))]) R) X)) (Q (Q (O [o 5 (.bs 4
 [(.int .i64 0),(.str []),(.str []),(.slice .nil 0 [])] 0 []),m 6 0,o 7 (.ap true aS 4 64 false (t 5) (t 6)),m 2 7]) (Y [2])) R)))
def jg:AFn:=⟨jf,8,[.t 2],.keep,[3],none⟩
theorem jh:qf jg [.t 2] .keep:=⟨rfl,rfl,rfl⟩
def ji:AC:=
 (Q (O [mc 2 (.c (.slice .nil 2 []))]) (Q (Q (O [m 3 0,o 4 (.eq false .sl (t 3) (.c (.slice .nil 0 [])))]) (C 4 (Q (O [mc 2 (.c (.slice .nil 2 []))]) R) X)) (Q (Q (O [o 5 (.bs 2
 [(.str []),(.str [])] 0 []),m 6 0,o 7 (.ap false bQ 2 32 false (t 5) (t 6)),m 2 7]) (Y [2])) R)))
def jj:AFn:=⟨ji,8,[.t 2],.drop,[],none⟩
theorem jk:qf jj [.t 2] .drop:=⟨rfl,rfl,rfl⟩
def dU:AC:=
 (Q (O [mc 2 (.c (.slice .nil 2 []))]) (Q (Q (O [m 3 0,o 4 (.eq false .sl (t 3) (.c (.slice .nil 0 [])))]) (C 4 (Q (O [mc 2 (.c (.slice .nil 2 []))]) R) X)) (Q (Q (O [o 5 (.bs 2
 [(.int .i64 0),(.str [])] 0 []),m 6 0,o 7 (.ap false cB 2 24 false (t 5) (t 6)),m 2 7]) (Y [2])) R)))
def dV:AFn:=⟨dU,8,[.t 2],.drop,[],none⟩
theorem dW:qf dV [.t 2] .drop:=⟨rfl,rfl,rfl⟩
def oG:AC:=
 (Q (O [o 2 (.bx aP (t 0)),mc 4 (i 0)]) (Q (Q (D [Pf 8 0 2,W (la 9 6 8),Pf 10 0 2,Pf 11 3 10,Wl 12 11,Pm 13 1,P (ia 14 4 12 13),Pf 15 1 14,Wl 16 15,W (k2 17
 fq 9 16),Pm 7 17,P (ex 18 7 0),P (ex 19 7 1),K (o 5 (.nw [(.str []),(.slice .nil 4 [])] aR)),E (n (.st 2 (t 5) (t 18))),Pm 6 19]) (Y [5])) (Q (Q (O [fa
 20 1 5,ld 21 20,ls 22 21,m 4 22]) (Y [4])) R)))
def oH:AFn:=⟨oG,23,[.t 4],.drop,[],none⟩
theorem zL:qf oH [.t 4] .drop:=⟨rfl,rfl,rfl⟩
def p8:AC:=
 (Q (O [o 2 (.bx ae (t 0)),mc 4 (i 0)]) (Q (Q (D [Pf 5 2 2,Wl 6 5,W (la 7 6 2),Pf 8 3 2,Wl 9 8,Pm 10 1,P (ia 11 4 9 10),Pf 12 1 11,Wl 13 12,K (k2 14
 eu 7 13),P (ia 15 2 6 14),Pf 16 1 15,Wl 17 16,W (ls 18 17),Pm 4 18]) (Y [4])) R))
def p9:AFn:=⟨p8,19,[.t 4],.drop,[],none⟩
theorem AG:qf p9 [.t 4] .drop:=⟨rfl,rfl,rfl⟩
def jl:AC:=
 (Q (Q (Q (O [m 31 10,m 32 9,ls 33 32,bl 34 31 33]) (Y [1,2,3,9,10,34])) (C 34 X (.exit 0))) (Q (.block 1 (Q (Q (O [m 37 9,m 38 10,ia 39 2 37 38,fa 40 0 39,ld 41 40,m 42
 2,ar 43 .eql 41 42]) (Y [1,2,3,9,10,43])) (C 43 (Q (Q (O [m 44 9,m 45 10,ia 46 2 44 45,fa 47 1 46,ld 48 47,m 6 48]) (Y [6])) R) X))) (ic 35 10 36)))
def fB:AC:=
 (Q (Q (Q (O [m 64 15,m 65 13,lt 66 65,bl 67 64 66]) (Y [13,14,15,67])) (C 67 X (.exit 2))) (Q (.block 3 (Q (Q (O [m 70 13,m 71 15,o 72 (.ixs (t 70) (t 71)),ac 73 .neq 72 (u
 43)]) (Y [13,14,15,73])) (C 73 (Q (O [m 74 14,m 75 13,m 76 15,m 77 15,ad 78 77,o 79 (.sls (t 75) (some (t 76)) (some (t 78))),ar 80 .add 74 79,m 14 80]) (Y [13,14,15]))
 X))) (ic 68 15 69)))
def qO:AC:=
 (Q (O [o 3 (.bx ae (t 0)),mc 6 (s [])]) (Q (Q (Q (O [la 17 6 3,m 18 1,m 19 2,k 20 (f mz) [(t 17),(t 18),(t 19)],m 16 20,ex 21 16 0,ex 22 16 1,
 o 7 (.nw [(.int .i64 0),(.str []),(.str []),(.slice .nil 2 [])] aS),n (.st 4 (t 7) (t 21)),m 8 22]) (Y [1,2,3,8])) (Q (O [m 23 8,no 24 23]) (C 24 (rt 6 (s [])) X)))
 (Q (Q (O [fa 25 3 3,ld 26 25,m 27 1,ia 28 4 26 27,fa 29 3 28,ld 30 29,m 9 30]) (Y [1,2,3,9])) (Q (Q (O [mc 10 (i 0)]) (Q (.block 0 (lo [1,2,3,9,10]
 jl)) (Y [1,2,3]))) (Q (Q (O [la 50 6 3,m 51 1,m 52 2,k 53 (f pE) [(t 50),(t 51),(t 52)],m 49 53,ex 54 49 0,ex 55 49 1,m 11 54,m 12
 55]) (Y [11,12])) (Q (Q (O [m 56 12,no 57 56]) (C 57 (rt 6 (s [])) X)) (Q (Q (O [m 58 11,m 59 11,ls 60 59,ac 61 .sub 60 (i 1),ia 62 1 58 61,ld 63 62,m 13 63]) (Y [13])) (Q
 (O [mc 14 (s [])]) (Q (Q (O [mc 15 (i 0)]) (Q (.block 2 (lo [13,14,15] fB)) (Y [14]))) (Q (Q (O [m 81 14,lt 82 81,ac 83 .gtr 82 (i 24)]) (C 83 (rt 6 (s []))
 X)) (Q (O [m 84 14,m 6 84]) R)))))))))))
def ff:AFn:=⟨qO,85,[.t 6],.drop,[],none⟩
theorem du:qf ff [.t 6] .drop:=⟨rfl,rfl,rfl⟩
def rN:AC:=
 (Q (O [bl 9 8 7]) (Q (C 9 X (.exit 0)) (Q (.block 1 (Q (O [m 10 8,m 5 10]) (Q (Q (O [m 11 1,m 12 0,m 13 5,o 14 (.ixs (t 12) (t 13)),k 15 (t 11) [(t 14)],no 16 15]) (Y [0,1,
 7,8,16])) (C 16 (rt 4 F) X)))) (O [ad 17 8,m 8 17]))))
def Bv:AC:=
 (Q (O [mc 4 F]) (Q (Q (O [m 6 0,lt 7 6,mc 8 (i 0)]) (Q (.block 0 (lo [0,1,7,8] rN)) (Y []))) (rt 4 T)))
def fg:AFn:=⟨Bv,18,[.t 4],.drop,[],none⟩
def wR:AC:=
 (Q (O [mc 2 F]) (Q (Q (O [m 3 0,ac 4 .geq 3 (u 33),m 5 4,g 6 5 (.mv (t 0)),g 7 5 (.ar .leq (t 6) (u 126)),pf 8 5 7,m 2 8]) (Y [2])) R))
def lF:AFn:=⟨wR,9,[.t 2],.drop,[],none⟩
def qa:AC:=
 (Q (O [o 3 (.bx aP (t 0)),o 6 (.nw [(.int .i64 0),(.str []),(.str []),(.slice .nil 2 [])] aS),mc 7 F]) (Q (Q (Q (O [m 10 1,ac 11 .lss 10 (i 0),m 12 11,
 h 13 12 (.mv (t 1)),h 14 12 (.fa 0 (t 3)),h 15 12 (.fa 3 (t 14)),h 16 12 (.ld none (t 15)),h 17 12 (.len .sl (t 16)),h 18 12 (.ar .geq (t 13) (t 17)),pt 19 12 18]) (Y [1,2,
 3,6,19])) (C 19 (Q (O [o 20 (.bd [(.int .i64 0),(.str []),(.str []),(.slice .nil 2 [])] [(0,1),(1,1),(2,1),(3,1)] []),n (.st 4 (t 6) (t 20)),mc 7 F]) R) X)) (Q (Q (D
 [Pf 22 0 3,W (la 23 6 22),Pf 24 0 3,Pf 25 3 24,Wl 26 25,Pm 27 1,P (ia 28 4 26 27),Pf 29 1 28,Wl 30 29,W (k2 31 fq 23 30),Pm 21 31,P (ex 32 21 0),P (ex 33 21
 1),K (o 8 (.nw [(.str []),(.slice .nil 4 [])] aR)),E (n (.st 2 (t 8) (t 32))),Pm 9 33]) (Y [2,6,8])) (Q (Q (Q (O [m 34 2,ac 35 .lss 34 (i 0),m 36 35,h 37 36 (.mv
 (t 2)),h 38 36 (.fa 1 (t 8)),h 39 36 (.ld none (t 38)),h 40 36 (.len .sl (t 39)),h 41 36 (.ar .geq (t 37) (t 40)),pt 42 36 41]) (Y [2,6,8,42])) (C 42 (Q (O [o 43 (.bd [(.int
 .i64 0),(.str []),(.str []),(.slice .nil 2 [])] [(0,1),(1,1),(2,1),(3,1)] []),n (.st 4 (t 6) (t 43)),mc 7 F]) R) X)) (Q (Q (O [fa 44 1 8,ld 45 44,m 46 2,ia 47 4 45
 46,la 48 4 47,n (.st 4 (t 6) (t 48)),mc 7 T]) (Y [6,7])) R)))))
def l5:AFn:=⟨qa,49,[.cell 6 (some 4),.t 7],.drop,[],none⟩
theorem ez:qf l5 [.cell 6 (some 4),.t 7] .drop:=⟨rfl,rfl,rfl⟩
def eo:AC:=
 (Q (O [bl 29 28 27]) (Q (C 29 X (.exit 0)) (Q (.block 1 (Q (Q (O [ia 30 4 26 28,la 31 4 30,o 12 (.nw [(.str []),(.str []),(.str []),(.str [])] b7),n (.st 4 (t 12) (t
 31))]) (Y [3,8,10,12,26,27,28])) (Q (Q (Q (O [la 33 6 3,la 34 4 12,m 35 8,k 36 (f nX) [(t 33),(t 34),(t 35)],m 32 36,ex 37 32 0,ex 38 32 1,m 8 37,
 m 9 38]) (Y [3,8,9,10,26,27,28])) (Q (O [m 39 9,no 40 39]) (C 40 (Q (O [mc 6 (.c (.slice .nil 1 [])),mc 7 F]) R) X))) (Q (O [m 41 10,m 42 8,o 43 (.bs 1 [(.str [])] 1 [(0,
 (t 42))]),o 44 (.ap false aE 1 16 false (t 41) (t 43)),m 10 44]) (Y [3,8,10,26,27,28]))))) (O [ad 45 28,m 28 45]))))
def oI:AC:=
 (Q (Q (O [o 3 (.bx aP (t 0)),o 5 (.bx aS (t 2)),mc 6 (.c (.slice .nil 1 [])),mc 7 F]) (Y [1,3,5])) (Q (Q (O [la 14 6 3,m 15 1,la 16 4 5,k 17 (f
 kR) [(t 14),(t 15),(t 16)],m 13 17,ex 18 13 0,ex 19 13 1,m 8 18,m 9 19]) (Y [3,8,9])) (Q (Q (O [m 20 9,no 21 20]) (C 21 (Q (O [mc 6 (.c (.slice
 .nil 1 [])),mc 7 F]) R) X)) (Q (O [m 22 8,o 23 (.bs 1 [(.str [])] 1 [(0,(t 22))]),m 10 23]) (Q (Q (Q (O [fa 24 0 3,fa 25 4 24,ld 26 25,ls 27 26,mc 28 (i 0)]) (Y [3,8,10,
 26,27,28])) (Q (.block 0 (.loop ⟨(some [3,8,10,26,27,28]),[(10,1,aE)],true⟩ eo)) (Y [10]))) (Q (O [m 46 10,m 6 46,mc 7 T]) R))))))
def fC:AFn:=⟨oI,47,[.t 6,.t 7],.drop,[],none⟩
theorem fD:qf fC [.t 6,.t 7] .drop:=⟨rfl,rfl,rfl⟩
def qP:AC:=
 (Q (O [mc 6 (s [])]) (Q (Q (O [m 7 0,m 8 1,m 9 2,k 10 (f tu) [(t 7),(t 8),(t 9),(i (-1))],m 6 10]) (Y [6])) R))
def mF:AFn:=⟨qP,11,[.t 6],.drop,[],none⟩
theorem Bw:qf mF [.t 6] .drop:=⟨rfl,rfl,rfl⟩
def DS:AC:=
 (.block 1 (Q (Q (O [m 20 0,m 21 1,k2 22 o4 20 21,m 6 22]) (Y [0,1,5,6])) (Q (Q (O [m 23 6,ac 24 .eql 23 (i (-1))]) (C 24 (Q (O [m 25 5,m 4 25]) R) X)) (Q (ic 26
 5 27) (Q (O [m 28 0,m 29 6,m 30 1,lt 31 30,ar 32 .add 29 31,o 33 (.sls (t 28) (some (t 32)) none),m 0 33]) (Y [0,1,5]))))))
def vt:AC:=
 (Q (O [mc 4 (i 0)]) (Q (Q (O [m 7 1,lt 8 7,ac 9 .eql 8 (i 0)]) (C 9 (Q (Q (O [m 10 0,k1 11 mA 10,ad 12 11,m 4 12]) (Y [4])) R) X)) (Q (Q (O [m 13
 1,lt 14 13,ac 15 .eql 14 (i 1)]) (C 15 (Q (Q (O [m 16 0,m 17 1,o 18 (.ixs (t 17) (i 0)),k2 19 dE 16 18,m 4 19]) (Y [4])) R) X)) (Q (O [mc 5 (i 0)])
 (Q (.block 0 (lo [0,1,5] DS)) (Y []))))))
def sq:AFn:=⟨vt,34,[.t 4],.drop,[],none⟩
theorem Gf:qf sq [.t 4] .drop:=⟨rfl,rfl,rfl⟩
def vu:AC:=
 (Q (O [mc 4 (i 0)]) (Q (Q (O [m 5 0,m 6 1,k2 7 gC 5 6,m 4 7]) (Y [4])) R))
def sr:AFn:=⟨vu,8,[.t 4],.drop,[],none⟩
theorem Gg:qf sr [.t 4] .drop:=⟨rfl,rfl,rfl⟩
def bX:AC:=
 (Q (Q (O [m 2 0,o 3 (.nc (t 2)),fa 4 0 3,ld 5 4,o 6 (.eq false .ptr (t 5) (.c .nilp))]) (Y [0,6])) (C 6 (Q (O [m 7 0,m 8 0,o 9 (.cvu (t 8)),k1 10 gW 9,
 o 11 (.cvf bt 2 (t 10)),o 12 (.nc (t 7)),fa 13 0 12,n (.st 1 (t 13) (t 11))]) (Y [])) (Q (Q (O [m 14 0,o 15 (.nc (t 14)),fa 16 0 15,ld 17 16,m 18 0,o 19 (.eq
 true .ptr (t 17) (t 18))]) (Y [19])) (C 19 .bad X))))
def iK:AFn:=⟨bX,20,[],.drop,[],none⟩
theorem iL:qf iK [] .drop:=⟨rfl,rfl,rfl⟩
def jm:AC:=
 (Q (O [m 4 0,k1 5 cu 4]) (Q (Q (O [m 6 1,ac 7 .lss 6 (i 0)]) (C 7 (O [o 8 (.mi aE (s [115,116,114,105,110,103,115,46,66,117,105,108,100,
 101,114,46,71,114,111,119,58,32,110,101,103,97,116,105,118,101,32,99,111,117,110,116])),⟨none,none,(.panic (.t 8))⟩]) X)) (Q (Q (D [Pm 9 0,P (o 10 (.nc (t
 9))),Pf 11 1 10,Wl 12 11,P (o 13 (.cap (t 12))),Pm 14 0,P (o 15 (.nc (t 14))),Pf 16 1 15,Wl 17 16,W (ls 18 17),P (ar 19 .sub 13 18),Pm 20 1,P (bl 21 19 20)]) (Y [0,1,
 21])) (C 21 (O [m 22 0,m 23 1,k2 24 nY 22 23]) X))))
def k7:AFn:=⟨jm,25,[],.keep,[],none⟩
theorem tB:qf k7 [] .keep:=⟨rfl,rfl,rfl⟩
def wS:AC:=
 (Q (O [mc 2 F]) (Q (Q (O [m 3 0,k1 4 cD 3,m 5 4,h 6 5 (.mv (t 0)),h 7 5 (.ar .geq (t 6) (u 65)),h 8 5 (.mv (t 7)),g 9 8 (.mv (t 0)),g 10 8 (.ar .leq (t 9) (u
 90)),h 11 5 (.pk (t 8) (t 10) F),pt 12 5 11,m 2 12]) (Y [2])) R))
def jU:AFn:=⟨wS,13,[.t 2],.drop,[],none⟩
def wT:AC:=
 (Q (O [mc 3 F]) (Q (Q (O [ld 4 1,m 5 0,k 6 (t 4) [(t 5)],m 7 6,h 8 7 (.mv (t 0)),h 9 7 (.ar .geq (t 8) (u 48)),h 10 7 (.mv (t 9)),g 11 10 (.mv (t 0)),g 12 10 (.ar .leq (t
 11) (u 57)),h 13 7 (.pk (t 10) (t 12) F),pt 14 7 13,m 15 14,h 16 15 (.mv (t 0)),h 17 15 (.ar .eql (t 16) (u 95)),pt 18 15 17,m 3 18]) (Y [3])) R))
def lG:AFn:=⟨wT,19,[.t 3],.drop,[],none⟩
def cq:AC:=
 (Q (O [bl 9 8 7]) (Q (C 9 X (.exit 0)) (Q (.block 1 (Q (O [m 10 8,m 5 10]) (Q (Q (O [m 11 1,m 12 0,m 13 5,ia 14 2 12 13,la 15 2 14,k 16 (t 11) [(t 15)]]) (Y [0,1,5,7,8,
 16])) (C 16 (Q (O [m 17 5,m 4 17]) R) X)))) (O [ad 18 8,m 8 18]))))
def fh:AC:=
 (Q (O [mc 4 (i 0)]) (Q (Q (O [m 6 0,ls 7 6,mc 8 (i 0)]) (Q (.block 0 (lo [0,1,7,8] cq)) (Y []))) (rt 4 (i (-1)))))
def bh:AFn:=⟨fh,19,[.t 4],.drop,[],none⟩
theorem fi:qf bh [.t 4] .drop:=⟨rfl,rfl,rfl⟩
def dH:AC:=
 (Q (O [bl 9 8 7]) (Q (C 9 X (.exit 0)) (Q (.block 1 (Q (O [m 10 8,m 5 10]) (Q (Q (O [m 11 1,m 12 0,m 13 5,ia 14 1 12 13,ld 15 14,ar 16 .eql 11 15]) (Y [0,1,5,7,8,16])) (C
 16 (Q (O [m 17 5,m 4 17]) R) X)))) (O [ad 18 8,m 8 18]))))
def ku:AC:=
 (Q (O [mc 4 (i 0)]) (Q (Q (O [m 6 0,ls 7 6,mc 8 (i 0)]) (Q (.block 0 (lo [0,1,7,8] dH)) (Y []))) (rt 4 (i (-1)))))
def dn:AFn:=⟨ku,19,[.t 4],.drop,[],none⟩
theorem kx:qf dn [.t 4] .drop:=⟨rfl,rfl,rfl⟩
def cr:AC:=
 (Q (O [bl 9 8 7]) (Q (C 9 X (.exit 0)) (Q (.block 1 (Q (O [m 10 8,m 5 10]) (Q (Q (O [m 11 1,m 12 0,m 13 5,ia 14 2 12 13,la 15 2 14,k 16 (t 11) [(t 15)]]) (Y [0,1,5,7,8,
 16])) (C 16 (Q (O [m 17 5,m 4 17]) R) X)))) (O [ad 18 8,m 8 18]))))
def fj:AC:=
 (Q (O [mc 4 (i 0)]) (Q (Q (O [m 6 0,ls 7 6,mc 8 (i 0)]) (Q (.block 0 (lo [0,1,7,8] cr)) (Y []))) (rt 4 (i (-1)))))
def bk:AFn:=⟨fj,19,[.t 4],.drop,[],none⟩
theorem fk:qf bk [.t 4] .drop:=⟨rfl,rfl,rfl⟩
def iD:AC:=
 (Q (O [bl 17 16 15]) (Q (C 17 X (.exit 0)) (Q (.block 1 (Q (Q (O [m 18 16,ia 19 2 14 16,la 20 2 19,o 8 (.nw [(.str []),(.str [])] bQ),m 7 18,n (.st 2 (t 8) (t 20))])
 (Y [2,7,8,14,15,16])) (Q (Q (O [m 21 2,m 22 7,la 23 2 8,k 24 (t 21) [(t 22),(t 23)],m 9 24]) (Y [2,9,14,15,16])) (Q (O [m 25 9,ac 26 .neq 25 (u 0)]) (C 26 (Q (O [m 27
 9,m 6 27]) R) X))))) (O [ad 28 16,m 16 28]))))
def qb:AC:=
 (Q (O [mc 6 (u 0)]) (Q (Q (Q (O [m 10 0,ls 11 10,m 12 1,ar 13 .gtr 11 12]) (Y [0,2,13])) (C 13 (rt 6 (u 3)) X)) (Q (Q (O [m 14 0,ls 15 14,mc 16 (i 0)]) (Q (.block 0 (lc [2,
 14,15,16] iD)) (Y []))) (rt 6 (u 0)))))
def eA:AFn:=⟨qb,29,[.t 6],.drop,[],none⟩
theorem qc:qf eA [.t 6] .drop:=⟨rfl,rfl,rfl⟩
def mS:AC:=
 (Q (O [o 5 (.bx bQ (t 1)),mc 6 (u 0)]) (Q (Q (O [fa 8 0 2,fa 9 1 8,ld 10 9,o 11 (.mf (.func iU) [] [(t 5)]),k2 12
 bT 10 11,m 7 12]) (Y [0,2,3,5,7])) (Q (.block 0 (Q (O [m 14 7,ac 15 .lss 14 (i 0),m 13 15]) (C 13 (rt 6 (u 5)) (Q (Q (D [Pf 17 0 2,Pf 18
 1 17,Wl 19 18,Pm 20 7,P (ia 21 2 19 20),Pf 22 1 21,Wl 23 22,Pf 24 1 5,Wl 25 24,E (k2 26 eX 23 25),P (no 27 26),Pm 16 27]) (Y [0,3,5,16]))
 (C 16 (rt 6 (u 1)) (Q (Q (D [Pm 29 0,P (ac 30 .gtr 29 (i 0)),Pm 31 30,W (g 32 31 (.ld none (t 3))),P (g 33 31 (.mv (t 0))),P (g 34 31 (.ar .sub (t 33) (i 1))),P (g 35 31 (.ias
 2 (t 32) (t 34))),P (g 36 31 (.fa 0 (t 35))),W (g 37 31 (.ld none (t 36))),P (g 38 31 (.fa 0 (t 5))),W (g 39 31 (.ld none (t 38))),P (g 40 31 (.ar .eql (t 37) (t 39))),P (pf
 41 31 40),Pm 28 41]) (Y [0,3,5,28])) (C 28 (rt 6 (u 6)) (Q (Q (D [Pm 43 0,P (ac 44 .gtr 43 (i 0)),Pm 45 44,W (g 46 45 (.ld none (t 3))),P (g 47 45 (.mv (t 0))),P (g 48 45
 (.ar .sub (t 47) (i 1))),P (g 49 45 (.ias 2 (t 46) (t 48))),P (g 50 45 (.fa 0 (t 49))),W (g 51 45 (.ld none (t 50))),P (g 52 45 (.fa 0 (t 5))),W (g 53 45 (.ld none (t 52))),P
 (g 54 45 (.ar .gtr (t 51) (t 53))),P (pf 55 45 54),Pm 42 55]) (Y [42])) (C 42 (rt 6 (u 1)) X))))))))) (rt 6 (u 0)))))
def jN:AFn:=⟨mS,56,[.t 6],.drop,[],none⟩
theorem mT:qf jN [.t 6] .drop:=⟨rfl,rfl,rfl⟩
def lH:AC:=
 (Q (O [o 2 (.bx bO (t 0)),mc 3 F]) (Q (Q (O [fa 4 0 2,ld 5 4,fa 6 0 1,ld 7 6,ar 8 .eql 5 7,m 3 8]) (Y [3])) R))
def jn:AFn:=⟨lH,9,[.t 3],.drop,[],none⟩
theorem wU:qf jn [.t 3] .drop:=⟨rfl,rfl,rfl⟩
def tC:AC:=
 (Q (O [o 2 (.bx aR (t 0)),mc 3 F]) (Q (Q (O [fa 4 0 2,ld 5 4,ld 6 1,ar 7 .eql 5 6,m 3 7]) (Y [3])) R))
def qp:AFn:=⟨tC,8,[.t 3],.drop,[],none⟩
theorem DT:qf qp [.t 3] .drop:=⟨rfl,rfl,rfl⟩
def ct:AC:=
 (Q (O [bl 9 8 7]) (Q (C 9 X (.exit 0)) (Q (.block 1 (Q (O [m 10 8,m 5 10]) (Q (Q (O [m 11 1,m 12 0,m 13 5,ia 14 4 12 13,la 15 4 14,k 16 (t 11) [(t 15)]]) (Y [0,1,5,7,8,
 16])) (C 16 (Q (O [m 17 5,m 4 17]) R) X)))) (O [ad 18 8,m 8 18]))))
def fm:AC:=
 (Q (O [mc 4 (i 0)]) (Q (Q (O [m 6 0,ls 7 6,mc 8 (i 0)]) (Q (.block 0 (lo [0,1,7,8] ct)) (Y []))) (rt 4 (i (-1)))))
def bn:AFn:=⟨fm,19,[.t 4],.drop,[],none⟩
theorem fo:qf bn [.t 4] .drop:=⟨rfl,rfl,rfl⟩
def cG:AC:=
 (Q (O [bl 9 8 7]) (Q (C 9 X (.exit 0)) (Q (.block 1 (Q (O [m 10 8,m 5 10]) (Q (Q (O [m 11 1,m 12 0,m 13 5,ia 14 4 12 13,la 15 4 14,k 16 (t 11) [(t 15)]]) (Y [0,1,5,7,8,
 16])) (C 16 (Q (O [m 17 5,m 4 17]) R) X)))) (O [ad 18 8,m 8 18]))))
def fV:AC:=
 (Q (O [mc 4 (i 0)]) (Q (Q (O [m 6 0,ls 7 6,mc 8 (i 0)]) (Q (.block 0 (lo [0,1,7,8] cG)) (Y []))) (rt 4 (i (-1)))))
def bp:AFn:=⟨fV,19,[.t 4],.drop,[],none⟩
theorem fW:qf bp [.t 4] .drop:=⟨rfl,rfl,rfl⟩
def eP:AC:=
 (Q (O [mc 4 F]) (Q (Q (O [m 5 0,m 6 1,k2 7 cQ 5 6,ac 8 .geq 7 (i 0),m 4 8]) (Y [4])) R))
def cA:AFn:=⟨eP,9,[.t 4],.drop,[],none⟩
theorem qv:qf cA [.t 4] .drop:=⟨rfl,rfl,rfl⟩
def vv:AC:=
 (Q (O [o 2 (.bx bQ (t 0)),mc 3 F]) (Q (Q (O [ld 4 1,o 5 (.mf (.func qn) [] [(t 2)]),k2 6 bP 4 5,m 3 6]) (Y [3])) R))
def ss:AFn:=⟨vv,7,[.t 3],.drop,[],none⟩
theorem Gh:qf ss [.t 3] .drop:=⟨rfl,rfl,rfl⟩
def tD:AC:=
 (Q (O [o 2 (.bx bQ (t 0)),mc 3 F]) (Q (Q (O [fa 4 0 1,ld 5 4,fa 6 0 2,ld 7 6,ar 8 .eql 5 7,m 9 8,g 10 9 (.fa 1 (t 1)),g 11 9 (.ld none (t 10)),g 12 9 (.fa 1 (t 2)),
 g 13 9 (.ld none (t 12)),g 14 9 (.ar .neq (t 11) (t 13)),pf 15 9 14,m 3 15]) (Y [3])) R))
def qq:AFn:=⟨tD,16,[.t 3],.drop,[],none⟩
theorem DU:qf qq [.t 3] .drop:=⟨rfl,rfl,rfl⟩
def bE:AC:=
 (Q (O [bl 9 8 7]) (Q (C 9 X (.exit 0)) (Q (.block 1 (Q (O [m 10 8,m 5 10]) (Q (Q (O [m 11 1,m 12 0,m 13 5,ia 14 2 12 13,la 15 2 14,k 16 (t 11) [(t 15)]]) (Y [0,1,5,7,8,
 16])) (C 16 (Q (O [m 17 5,m 4 17]) R) X)))) (O [ad 18 8,m 8 18]))))
def dz:AC:=
 (Q (O [mc 4 (i 0)]) (Q (Q (O [m 6 0,ls 7 6,mc 8 (i 0)]) (Q (.block 0 (lo [0,1,7,8] bE)) (Y []))) (rt 4 (i (-1)))))
def aO:AFn:=⟨dz,19,[.t 4],.drop,[],none⟩
theorem dA:qf aO [.t 4] .drop:=⟨rfl,rfl,rfl⟩
def qQ:AC:=
 (Q (O [o 3 (.bx ae (t 0)),o 6 (.nw [(.int .i64 0),(.str []),(.str []),(.slice .nil 2 [])] aS),mc 7 F]) (Q (Q (Q (O [m 9 1,ac 10 .lss 9 (i 0),m 11 10,h 12
 11 (.mv (t 1)),h 13 11 (.fa 3 (t 3)),h 14 11 (.ld none (t 13)),h 15 11 (.len .sl (t 14)),h 16 11 (.ar .geq (t 12) (t 15)),pt 17 11 16]) (Y [1,2,3,6,17])) (C 17 (Q (O [o 18
 (.bd [(.int .i64 0),(.str []),(.str []),(.slice .nil 2 [])] [(0,1),(1,1),(2,1),(3,1)] []),n (.st 4 (t 6) (t 18)),mc 7 F]) R) X)) (Q (Q (D [Pf 19 2 3,Wl 20 19,W (la 21
 6 3),Pf 22 3 3,Wl 23 22,Pm 24 1,P (ia 25 4 23 24),Pf 26 1 25,Wl 27 26,K (k2 28 eu 21 27),P (ia 29 2 20 28),Pf 30 1 29,Wl 31 30,Pm 8 31]) (Y [2,6,8]))
 (Q (Q (Q (O [m 32 2,ac 33 .lss 32 (i 0),m 34 33,h 35 34 (.mv (t 2)),h 36 34 (.mv (t 8)),h 37 34 (.len .sl (t 36)),h 38 34 (.ar .geq (t 35) (t 37)),pt 39 34 38]) (Y [2,6,8,
 39])) (C 39 (Q (O [o 40 (.bd [(.int .i64 0),(.str []),(.str []),(.slice .nil 2 [])] [(0,1),(1,1),(2,1),(3,1)] []),n (.st 4 (t 6) (t 40)),mc 7 F]) R) X)) (Q (Q (O [m 41
 8,m 42 2,ia 43 4 41 42,la 44 4 43,n (.st 4 (t 6) (t 44)),mc 7 T]) (Y [6,7])) R)))))
def qR:AFn:=⟨qQ,45,[.cell 6 (some 4),.t 7],.drop,[],none⟩
theorem jV:qf qR [.cell 6 (some 4),.t 7] .drop:=⟨rfl,rfl,rfl⟩
def de:AC:=
 (Q (Q (Q (O [m 62 13,fa 63 4 3,ld 64 63,ls 65 64,bl 66 62 65]) (Y [3,11,12,13,66])) (C 66 X (.exit 0))) (Q (.block 1 (Q (Q (D [W (la 70 6 3),Pf 71 4 3,Wl 72 71,Pm 73 13,
 P (ia 74 4 72 73),W (la 75 4 74),Pm 76 11,E (k 77 (f nu) [(t 70),(t 75),(t 76)]),Pm 69 77,P (ex 78 69 0),P (ex 79 69 1),Pm 11 78,Pm 9 79]) (Y [3,9,
 11,12,13])) (Q (Q (O [m 80 9,no 81 80]) (C 81 (Q (O [mc 6 (.c (.slice .nil 1 [])),mc 7 F]) R) X)) (Q (O [m 82 12,m 83 11,o 84 (.bs 1 [(.str [])] 1 [(0,(t 83))]),o 85 (.ap
 false aE 1 16 false (t 82) (t 84)),m 12 85]) (Y [3,11,12,13]))))) (ic 67 13 68)))
def qd:AC:=
 (Q (O [o 3 (.bx ae (t 0)),mc 6 (.c (.slice .nil 1 [])),mc 7 F]) (Q (Q (O [la 15 6 3,m 16 1,m 17 2,k 18 (f mz) [(t 15),(t 16),(t 17)],m 14 18,ex
 19 14 0,ex 20 14 1,o 8 (.nw [(.int .i64 0),(.str []),(.str []),(.slice .nil 2 [])] aS),n (.st 4 (t 8) (t 19)),m 9 20]) (Y [1,3,8,9])) (Q (O [mc 10 (s [])]) (Q (Q
 (O [m 21 9]) (C 21 (Q (O [fa 22 3 3,ld 23 22,m 24 1,ia 25 4 23 24,fa 26 0 25,ld 27 26,m 10 27]) (Y [3,8,9,10])) X)) (Q (Q (Q (O [m 28 9,no 29 28,m 30 29,h 31 30 (.mv (t
 10)),h 32 30 (.len .str (t 31)),h 33 30 (.fa 0 (t 8)),h 34 30 (.ld none (t 33)),h 35 30 (.ar .lss (t 32) (t 34)),pt 36 30 35]) (Y [3,8,10,36])) (C 36 (Q (O [mc 6 (.c (.slice
 .nil 1 [])),mc 7 F]) R) X)) (Q (Q (O [m 37 10,m 38 10,lt 39 38,fa 40 0 8,ld 41 40,ar 42 .sub 39 41,o 43 (.sls (t 37) none (some (t 42))),m 11 43]) (Y [3,8,11])) (Q (Q (O
 [fa 44 1 8,ld 45 44,ac 46 .neq 45 (s [])]) (C 46 (Q (O [fa 47 1 8,ld 48 47,ac 49 .add 48 (s [43]),m 50 11,ar 51 .add 49 50,m 11 51]) (Y [3,8,11])) X)) (Q (Q (O [fa 52 2 8,
 ld 53 52,ac 54 .neq 53 (s [])]) (C 54 (Q (O [m 55 11,ac 56 .add 55 (s [43]),fa 57 2 8,ld 58 57,ar 59 .add 56 58,m 11 59]) (Y [3,11])) X)) (Q (O [m 60 11,o 61 (.bs 1 [(.str
 [])] 1 [(0,(t 60))]),m 12 61]) (Q (Q (O [mc 13 (i 0)]) (Q (.block 0 (.loop ⟨(some [3,11,12,13]),[(12,1,aE)],false⟩ de)) (Y [12]))) (Q (O [m 86
 12,m 6 86,mc 7 T]) R)))))))))))
def gi:AFn:=⟨qd,87,[.t 6,.t 7],.drop,[],none⟩
theorem db:qf gi [.t 6,.t 7] .drop:=⟨rfl,rfl,rfl⟩
def Cd:AC:=
 (Q (O [mc 4 (s []),mc 5 F]) (Q (Q (O [m 6 0,m 7 1,k2 8 mB 6 7,ex 9 8 0,ex 10 8 1,m 4 9,m 5 10]) (Y [4,5])) R))
def vN:AFn:=⟨Cd,11,[.t 4,.t 5],.drop,[],none⟩
def k8:AC:=
 (Q (Q (O [o 3 (.bx aP (t 0)),o 5 (.bx aS (t 2)),mc 6 (s []),mc 7 F]) (Y [1,3,5])) (Q (Q (O [fa 10 0 3,fa 11 3 10,ld 12 11,m 13 1,ia 14 4 12 13,fa 15
 0 14,ld 16 15,m 8 16]) (Y [5,8])) (Q (Q (Q (O [m 17 8,lt 18 17,fa 19 0 5,ld 20 19,bl 21 18 20]) (Y [5,8,21])) (C 21 (Q (O [mc 6 (s []),mc 7 F]) R) X)) (Q (Q (O [m 22 8,m
 23 8,lt 24 23,fa 25 0 5,ld 26 25,ar 27 .sub 24 26,o 28 (.sls (t 22) none (some (t 27))),m 9 28]) (Y [5,9])) (Q (Q (O [fa 29 1 5,ld 30 29,ac 31 .neq 30 (s [])]) (C 31 (Q (O
 [fa 32 1 5,ld 33 32,ac 34 .add 33 (s [43]),m 35 9,ar 36 .add 34 35,m 9 36]) (Y [5,9])) X)) (Q (Q (O [fa 37 2 5,ld 38 37,ac 39 .neq 38 (s [])]) (C 39 (Q (O [m 40 9,fa 41 2
 5,ld 42 41,o 43 (.ar .add (s [43]) (t 42)),ar 44 .add 40 43,m 9 44]) (Y [9])) X)) (Q (O [m 45 9,m 6 45,mc 7 T]) R)))))))
def iM:AFn:=⟨k8,46,[.t 6,.t 7],.drop,[],none⟩
theorem eJ:qf iM [.t 6,.t 7] .drop:=⟨rfl,rfl,rfl⟩
def dB:AC:=
 (Q (Q (Q (O [m 10 9,m 11 2,lt 12 11,bl 13 10 12]) (Y [2,3,4,8,9,13])) (C 13 X (.exit 0))) (.block 1 (Q (Q (D [Pm 14 2,Pm 15 9,P (o 16 (.sls (t 14) (some (t 15)) none)),Pf
 17 0 4,Wl 18 17,E (k2 19 rr 16 18),Pm 20 19,W (g 21 20 (.ld (some 6) (t 3))),P (g 22 20 (.fa 2 (t 4))),W (g 23 20 (.ld none (t 22))),P (g 24 20 (.mv (t 2))),
 P (g 25 20 (.mv (t 9))),E (⟨(some 26),(some (20,true)),(.call (.c (.fn (.func pF) [] [])) [(.t 21),(.t 23),(.t 24),(.t 25)])⟩),P (pf 27 20 26),Pm 28 27,
 W (g 29 28 (.ld (some 6) (t 3))),P (g 30 28 (.fa 3 (t 4))),W (g 31 28 (.ld none (t 30))),P (g 32 28 (.mv (t 2))),P (g 33 28 (.mv (t 9))),P (g 34 28 (.fa 0 (t 4))),W (g 35 28
 (.ld none (t 34))),W (g 36 28 (.len .str (t 35))),P (g 37 28 (.ar .add (t 33) (t 36))),E (⟨(some 38),(some (28,true)),(.call (.c (.fn (.func nZ) [] []))
 [(.t 29),(.t 31),(.t 32),(.t 37)])⟩),P (pf 39 28 38)]) (Y [2,3,4,8,9,39])) (C 39 (Q (O [fa 40 1 4,ld 41 40,k2 42 aM 8 41]) (Q (O [m 43 9,fa 44
 0 4,ld 45 44,lt 46 45,ar 47 .add 43 46,m 9 47]) (Y [2,3,4,8,9]))) (Q (Q (O [m 48 2,m 49 9,o 50 (.ixs (t 48) (t 49)),k2 51 eD 8 50]) (Y [2,3,4,
 8,9])) (ic 52 9 53))))))
def oJ:AC:=
 (Q (Q (O [o 3 (.bx aP (t 0)),o 4 (.bx b7 (t 1)),mc 6 (s []),mc 7 F]) (Y [2,3,4])) (Q (O [o 8 (.nwb [.nilp,(.slice .nil 1 [])] bt 1
 dj)]) (Q (Q (O [mc 9 (i 0)]) (Q (.block 0 (lo [2,3,4,8,9] dB)) (Y [8]))) (Q (Q (O [k1 54 cT 8,k1 55 pB 8,ac
 56 .leq 55 (i 512),m 6 54,m 7 56]) (Y [6,7])) R))))
def fE:AFn:=⟨oJ,57,[.t 6,.t 7],.drop,[],none⟩
theorem dX:qf fE [.t 6,.t 7] .drop:=⟨rfl,rfl,rfl⟩
def kD:AC:=
 (Q (O [bl 54 53 52]) (Q (C 54 X (.exit 0)) (Q (.block 1 (Q (Q (O [m 55 11,m 56 0,m 57 11,o 58 (.sls (t 56) (some (t 57)) none),m 59 1,k2 60 o4 58 59,ar 61 .add 55
 60,m 12 61]) (Y [0,1,2,10,11,12,52,53])) (Q (Q (O [m 62 0,m 63 11,m 64 12,o 65 (.sls (t 62) (some (t 63)) (some (t 64))),k2 66 aM 10 65]) (Y
 [0,1,2,10,12,52,53])) (Q (O [m 67 2,k2 68 aM 10 67]) (Q (O [m 69 12,m 70 1,lt 71 70,ar 72 .add 69 71,m 11 72]) (Y [0,1,2,10,11,52,
 53])))))) (O [ad 73 53,m 53 73]))))
def Ce:AC:=
 (Q (O [bl 79 78 77]) (Q (C 79 X (.exit 2)) (Q (.block 3 (Q (Q (O [m 81 0,m 82 11,o 83 (.sls (t 81) (some (t 82)) none),k1 84 ma 83,m 80 84,ex 85
 80 0,ex 86 80 1,m 13 85,m 14 86]) (Y [0,2,10,11,14,77,78])) (Q (Q (O [m 87 11,m 88 14,ar 89 .add 87 88,m 15 89]) (Y [0,2,10,11,15,77,78])) (Q (Q (O [m 90 0,m 91
 11,m 92 15,o 93 (.sls (t 90) (some (t 91)) (some (t 92))),k2 94 aM 10 93]) (Y [0,2,10,15,77,78])) (Q (O [m 95 2,k2 96
 aM 10 95]) (O [m 97 15,m 11 97])))))) (O [ad 98 78,m 78 98]))))
def tE:AC:=
 (Q (O [mc 8 (s [])]) (Q (Q (Q (O [m 16 1,m 17 2,ar 18 .eql 16 17,m 19 18,h 20 19 (.mv (t 3)),h 21 19 (.ar .eql (t 20) (i 0)),pt 22 19 21]) (Y [0,1,2,3,22])) (C 22 (Q (O [m
 23 0,m 8 23]) R) X)) (Q (Q (Q (O [m 24 0,m 25 1,k2 26 o3 24 25,m 9 26]) (Y [0,1,2,3,9])) (Q (O [m 27 9,ac 28 .eql 27 (i 0)]) (C 28 (Q (O [m 29 0,m 8 29]) R)
 (Q (Q (O [m 30 3,ac 31 .lss 30 (i 0),m 32 31,h 33 32 (.mv (t 9)),h 34 32 (.mv (t 3)),h 35 32 (.ar .lss (t 33) (t 34)),pt 36 32 35]) (Y [0,1,2,3,9,36])) (C 36 (O [m 37 9,
 m 3 37]) X))))) (Q (O [o 10 (.nw [.nilp,(.slice .nil 1 [])] bt)]) (Q (Q (O [m 38 0,lt 39 38,m 40 3,m 41 2,lt 42 41,m 43 1,lt 44 43,ar 45 .sub 42 44,ar 46
 .mul 40 45,ar 47 .add 39 46,k2 48 kQ 10 47]) (Y [0,1,2,3,10])) (Q (O [mc 11 (i 0)]) (Q (Q (O [m 49 1,lt 50 49,ac 51 .gtr 50 (i 0)]) (C 51 (Q (O [m 52 3,
 mc 53 (i 0)]) (Q (.block 0 (lo [0,1,2,10,11,52,53] kD)) (Y [0,10,11]))) (Q (O [m 74 2,k2 75 aM 10 74]) (Q (O [m 76 3,ac 77 .sub
 76 (i 1),mc 78 (i 0)]) (Q (.block 2 (lo [0,2,10,11,77,78] Ce)) (Y [0,10,11])))))) (Q (Q (O [m 99 0,m 100 11,o 101 (.sls (t 99) (some (t 100)) none),k2
 102 aM 10 101]) (Y [10])) (Q (O [k1 103 cT 10,m 8 103]) R)))))))))
def jo:AFn:=⟨tE,104,[.t 8],.drop,[8],none⟩
theorem ki:qf jo [.t 8] .drop:=⟨rfl,rfl,rfl⟩
def sC:AC:=
 (Q (O [o 5 (.nx (t 4)),ex 6 5 0]) (Q (C 6 X (.exit 0)) (.block 1 (ic 7 2 8))))
def tF:AC:=
 (Q (O [mc 2 (i 0)]) (Q (Q (O [m 3 0,o 4 (.rg (t 3))]) (Q (.block 0 (lo [2,4] sC)) (Y [2]))) (Q (O [m 9 2,m 2 9]) R)))
def mG:AFn:=⟨tF,10,[.t 2],.drop,[],none⟩
def sU:AC:=
 (Q (O [mc 2 (.c (.int .i32 0)),mc 3 (i 0)]) (Q (Q (Q (O [m 4 0,ac 5 .neq 4 (s []),m 6 5,g 7 6 (.mv (t 0)),g 8 6 (.ixs (t 7) (i 0)),g 9 6 (.ar .lss (t 8) (u 128)),pf 10 6 9])
 (Y [0,10])) (C 10 (Q (Q (O [m 11 0,o 12 (.ixs (t 11) (i 0)),o 13 (.cvi .i32 (t 12)),m 2 13,mc 3 (i 1)]) (Y [2,3])) R) (Q (O [m 15 0,k1 16
 ri 15,m 14 16,ex 17 14 0,ex 18 14 1,m 2 17,m 3 18]) (Y [2,3])))) R))
def mg:AFn:=⟨sU,19,[.t 2,.t 3],.drop,[],none⟩
def uv:AC:=
 (Q (Q (O [m 57 8,m 58 9,bl 59 57 58]) (C 59 X (.exit 1))) (.block 2 (Q (Q (Q (O [m 60 0,m 61 8,o 62 (.ixs (t 60) (t 61)),m 63 6,ar 64 .neq 62 63]) (Y [0,1,5,6,7,8,9,10,
 64])) (C 64 (Q (Q (O [m 65 0,m 66 8,ad 67 66,m 68 9,o 69 (.sls (t 65) (some (t 67)) (some (t 68))),m 70 6,k2 71 cM 69 70,m 11 71]) (Y [0,1,5,
 6,7,8,9,10,11])) (Q (Q (O [m 72 11,ac 73 .lss 72 (i 0)]) (C 73 (rt 4 (i (-1))) X)) (Q (O [m 74 8,m 75 11,ad 76 75,ar 77 .add 74 76,m 8 77]) (Y [0,1,5,6,7,8,9,
 10])))) X)) (Q (Q (Q (O [m 78 0,m 79 8,ad 80 79,o 81 (.ixs (t 78) (t 80)),m 82 7,ar 83 .eql 81 82,m 84 83,g 85 84 (.mv (t 0)),g 86 84 (.mv (t 8)),g 87 84 (.mv (t 8)),g 88
 84 (.mv (t 5)),g 89 84 (.ar .add (t 87) (t 88)),g 90 84 (.sls (t 85) (some (t 86)) (some (t 89))),g 91 84 (.mv (t 1)),g 92 84 (.ar .eql (t 90) (t 91)),pf 93 84 92]) (Y [0,1,
 5,6,7,8,9,10,93])) (C 93 (Q (O [m 94 8,m 4 94]) R) X)) (Q (ic 95 8 96) (Q (ic 97 10 98) (Q (Q (O [m 99 5,o 100 (.ld none (.c .unk)),ar 101 .leq 99 100,m 102 101,g 103 102
 (.mv (t 10)),g 104 102 (.mv (t 8)),⟨(some 105),(some (102,true)),(.call (.c (.fn (.func wI) [] [])) [(.t 104)])⟩,g 106 102 (.ar .gtr (t 103) (t 105)),
 pf 107 102 106]) (Y [0,1,5,6,7,8,9,10,107])) (C 107 (Q (Q (O [m 108 0,m 109 8,o 110 (.sls (t 108) (some (t 109)) none),m 111 1,k2 112 nv 110
 111,m 12 112]) (Y [8,12])) (Q (Q (O [m 113 12,ac 114 .geq 113 (i 0)]) (C 114 (Q (Q (O [m 115 12,m 116 8,ar 117 .add 115 116,m 4 117]) (Y [4])) R) X)) (rt 4 (i (-1))))) (Q (Q
 (O [m 118 5,o 119 (.ld none (.c .unk)),ar 120 .gtr 118 119,m 121 120,g 122 121 (.mv (t 10)),g 123 121 (.mv (t 8)),g 124 121 (.sh .shr (t 123) (.c (.int .u64 4))),g 125 121
 (.ar .add (i 4) (t 124)),g 126 121 (.ar .geq (t 122) (t 125)),pf 127 121 126,m 128 127,g 129 128 (.mv (t 8)),g 130 128 (.mv (t 9)),g 131 128 (.ar .lss (t 129) (t 130)),pf 132
 128 131]) (Y [0,1,5,6,7,8,9,10,132])) (C 132 (Q (Q (O [m 133 0,m 134 8,o 135 (.sls (t 133) (some (t 134)) none),m 136 1,k2 137 pG
 135 136,m 13 137]) (Y [8,13])) (Q (Q (O [m 138 13,ac 139 .lss 138 (i 0)]) (C 139 (rt 4 (i (-1))) X)) (Q (Q (O [m 140 8,m 141 13,ar 142 .add 140 141,m 4 142]) (Y [4])) R)))
 X))))))))))
def ky:AC:=
 (Q (O [mc 4 (i 0)]) (Q (O [m 14 1,lt 15 14,m 5 15]) (Q (.block 0 (Q (Q (O [m 17 5,ac 18 .eql 17 (i 0),m 19 18,h 20 19 (.mv (t 1)),h 21 19 (.mv (t 0)),h 22 19 (.ar .eql (t 20)
 (t 21)),pt 23 19 22,m 16 23]) (Y [0,1,5,16])) (C 16 (rt 4 (i 0)) (Q (O [m 25 5,ac 26 .eql 25 (i 1),m 24 26]) (C 24 (Q (Q (O [m 27 0,m 28 1,o 29 (.ixs (t 28) (i 0)),k2 30
 cM 27 29,m 4 30]) (Y [4])) R) (Q (Q (O [m 32 5,m 33 0,lt 34 33,ar 35 .geq 32 34,m 31 35]) (Y [0,1,5,31])) (C 31 (rt 4 (i (-1))) (Q (Q (O [m 37
 5,o 38 (.ld none (.c .unk)),ar 39 .leq 37 38,m 40 39,g 41 40 (.mv (t 0)),g 42 40 (.len .str (t 41)),g 43 40 (.ar .leq (t 42) (i 64)),pf 44 40 43,m 36 44]) (Y [0,1,5,36]))
 (C 36 (Q (Q (O [m 45 0,m 46 1,k2 47 nv 45 46,m 4 47]) (Y [4])) R) X))))))))) (Q (O [m 48 1,o 49 (.ixs (t 48) (i 0)),m 6 49]) (Q (O [m 50 1,o 51
 (.ixs (t 50) (i 1)),m 7 51]) (Q (O [mc 8 (i 0)]) (Q (Q (O [m 52 0,lt 53 52,m 54 5,ar 55 .sub 53 54,ad 56 55,m 9 56]) (Y [0,1,5,6,7,8,9])) (Q (O [mc 10 (i 0)]) (Q (Q
 (.block 1 (lo [0,1,5,6,7,8,9,10] uv)) (Y [])) (rt 4 (i (-1))))))))))))
def gE:AFn:=⟨ky,143,[.t 4],.drop,[],none⟩
theorem pa:qf gE [.t 4] .drop:=⟨rfl,rfl,rfl⟩
def oK:AC:=
 (Q (Q (D [Pm 5 0,P (o 6 (.nc (t 5))),Pf 7 1 6,Wl 8 7,P (o 9 (.cap (t 8))),P (o 10 (.ar .mul (i 2) (t 9))),Pm 11 1,P (ar 12 .add 10 11),Pm 14 0,P (o 15 (.nc (t 14))),Pf 16
 1 15,Wl 17 16,W (ls 18 17),K (k1 13 dc 12),P (o 19 (.sll 1 (t 13) none (some (t 18)) none)),Pm 4 19]) (Y [0,4])) (Q (Q (O [m 20 4,m 21 0,o 22 (.nc
 (t 21)),fa 23 1 22,ld 24 23,o 25 (.cp 1 false (t 20) (t 24))]) (Y [0,4])) (Q (O [m 26 0,m 27 4,o 28 (.nc (t 26)),fa 29 1 28,n (.st 1 (t 29) (t 27))]) (Y []))))
def k9:AFn:=⟨oK,30,[],.keep,[],none⟩
theorem zM:qf k9 [] .keep:=⟨rfl,rfl,rfl⟩
def cH:AC:=
 (Q (O [bl 9 8 7]) (Q (C 9 X (.exit 0)) (Q (.block 1 (Q (O [m 10 8,m 5 10]) (Q (Q (O [m 11 1,m 12 0,m 13 5,ia 14 2 12 13,la 15 2 14,k 16 (t 11) [(t 15)]]) (Y [0,1,5,7,8,
 16])) (C 16 (Q (O [m 17 5,m 4 17]) R) X)))) (O [ad 18 8,m 8 18]))))
def fX:AC:=
 (Q (O [mc 4 (i 0)]) (Q (Q (O [m 6 0,ls 7 6,mc 8 (i 0)]) (Q (.block 0 (lo [0,1,7,8] cH)) (Y []))) (rt 4 (i (-1)))))
def bq:AFn:=⟨fX,19,[.t 4],.drop,[],none⟩
theorem fY:qf bq [.t 4] .drop:=⟨rfl,rfl,rfl⟩
def dm:AC:=
 (Q (Q (Q (O [m 10 9,m 11 2,lt 12 11,bl 13 10 12]) (Y [2,3,4,8,9,13])) (C 13 X (.exit 0))) (.block 1 (Q (Q (O [la 14 6 3,la 15 4 4,m 16 2,m 17 9,k 18 (f
 ny) [(t 14),(t 15),(t 16),(t 17)]]) (Y [2,3,4,8,9,18])) (C 18 (Q (Q (O [m 19 8,fa 20 1 4,ld 21 20,ar 22 .add 19 21,m 8 22]) (Y [2,3,4,8,9])) (Q
 (O [m 23 9,fa 24 0 4,ld 25 24,lt 26 25,ar 27 .add 23 26,m 9 27]) (Y [2,3,4,8,9]))) (Q (Q (O [m 28 8,m 29 2,m 30 9,m 31 9,ad 32 31,o 33 (.sls (t 29) (some (t 30)) (some
 (t 32))),ar 34 .add 28 33,m 8 34]) (Y [2,3,4,8,9])) (ic 35 9 36))))))
def nK:AC:=
 (Q (Q (O [o 3 (.bx ae (t 0)),o 4 (.bx b7 (t 1)),mc 6 (s []),mc 7 F]) (Y [2,3,4])) (Q (O [mc 8 (s [])]) (Q (Q (O [mc 9 (i 0)]) (Q (.block 0 (lo [2,3,4,8,
 9] dm)) (Y [8]))) (Q (Q (O [m 37 8,m 38 8,lt 39 38,ac 40 .leq 39 (i 512),m 6 37,m 7 40]) (Y [6,7])) R))))
def iE:AFn:=⟨nK,41,[.t 6,.t 7],.drop,[],none⟩
theorem iF:qf iE [.t 6,.t 7] .drop:=⟨rfl,rfl,rfl⟩
def EF:AC:=
 (Q (O [o 3 (.bx eh (t 1)),mc 4 F]) (Q (Q (O [m 5 0,o 6 (.mf (.func wK) [] [(t 3)]),k2 7 bP 5 6,no 8 7,m 4 8]) (Y
 [4])) R))
def yH:AFn:=⟨EF,9,[.t 4],.drop,[],none⟩
def zN:AC:=
 (Q (O [o 3 (.bx aP (t 0)),o 5 (.bx aS (t 2)),mc 6 (.c (.slice .nil 2 []))]) (Q (Q (D [Pf 7 0 3,Pf 8 3 7,Wl 9 8,Pm 10 1,P (ia 11 4 9 10),Pf 12 2 11,Wl
 13 12,Pf 14 3 5,Wl 15 14,E (k2 16 CA 13 15),Pm 6 16]) (Y [6])) R))
def tG:AFn:=⟨zN,17,[.t 6],.drop,[],none⟩
def tH:AC:=
 (Q (O [mc 4 (s []),mc 5 F]) (Q (Q (Q (O [m 6 0,m 7 1,k2 8 eG 6 7,no 9 8]) (Y [0,1,9])) (C 9 (Q (O [m 10 0,m 4 10,mc 5 F]) R) X)) (Q (Q (O [m 11
 0,m 12 1,lt 13 12,o 14 (.sls (t 11) (some (t 13)) none),m 4 14,mc 5 T]) (Y [4,5])) R)))
def mH:AFn:=⟨tH,15,[.t 4,.t 5],.drop,[],none⟩
def rz:AC:=
 (Q (O [mc 4 F]) (Q (Q (O [m 5 0,m 6 1,k2 7 eG 5 6,m 4 7]) (Y [4])) R))
def nh:AFn:=⟨rz,8,[.t 4],.drop,[],none⟩
theorem Cf:qf nh [.t 4] .drop:=⟨rfl,rfl,rfl⟩
def iG:AC:=
 (Q (O [bl 13 12 11]) (Q (C 13 X (.exit 0)) (Q (.block 1 (Q (O [m 14 12,m 9 14]) (Q (Q (D [W (la 15 6 4),Pm 16 1,Pm 17 1,W (lt 18 17),P (ac 19 .sub 18 (i 1)),Pm 20 9,P (ar 21
 .sub 19 20),P (o 22 (.ixs (t 16) (t 21))),Pm 23 2,Pm 24 3,P (ac 25 .sub 24 (i 1)),Pm 26 9,P (ar 27 .sub 25 26),E (k 28 (f kS) [(t 15),(t 22),(t 23),(t
 27)]),P (no 29 28)]) (Y [1,2,3,4,11,12,29])) (C 29 (rt 8 F) X)))) (O [ad 30 12,m 12 30]))))
def qe:AC:=
 (Q (O [o 4 (.bx aP (t 0)),mc 8 F]) (Q (Q (O [m 10 1,lt 11 10,mc 12 (i 0)]) (Q (.block 0 (lo [1,2,3,4,11,12] iG)) (Y []))) (rt 8 T)))
def gj:AFn:=⟨qe,31,[.t 8],.drop,[],none⟩
theorem qg:qf gj [.t 8] .drop:=⟨rfl,rfl,rfl⟩
def gz:AC:=
 (Q (O [bl 13 12 11]) (Q (C 13 X (.exit 0)) (Q (.block 1 (Q (O [m 14 12,m 9 14]) (Q (Q (D [W (la 15 6 4),Pm 16 1,Pm 17 9,P (o 18 (.ixs (t 16) (t 17))),Pm 19 2,Pm 20 3,Pm 21 9,
 P (ar 22 .add 20 21),E (k 23 (f kS) [(t 15),(t 18),(t 19),(t 22)]),P (no 24 23)]) (Y [1,2,3,4,11,12,24])) (C 24 (rt 8 F) X)))) (O [ad 25 12,m 12
 25]))))
def oM:AC:=
 (Q (O [o 4 (.bx aP (t 0)),mc 8 F]) (Q (Q (O [m 10 1,lt 11 10,mc 12 (i 0)]) (Q (.block 0 (lo [1,2,3,4,11,12] gz)) (Y []))) (rt 8 T)))
def fF:AFn:=⟨oM,26,[.t 8],.drop,[],none⟩
theorem oN:qf fF [.t 8] .drop:=⟨rfl,rfl,rfl⟩
def rk:AC:=
 (Q (O [mc 2 (.c (.int .i32 0)),mc 3 (i 0)]) (Q (O [m 13 0,lt 14 13,m 4 14]) (Q (Q (O [m 15 4,ac 16 .lss 15 (i 1)]) (C 16 (Q (O [mc 2 (.c (.int .i32 65533)),mc 3 (i 0)]) R) X))
 (Q (O [m 17 0,o 18 (.ixs (t 17) (i 0)),m 5 18]) (Q (Q (O [m 19 5,o 20 (.iaa 256 1 (.c .unk) (t 19)),ld 21 20,m 6 21]) (Y [0,4,5,6])) (Q (Q (O [m 22 6,ac 23 .geq 22 (u
 240)]) (C 23 (Q (Q (O [m 24 6,o 25 (.cvi .i32 (t 24)),o 26 (.sh .shl (t 25) (.c (.int .u64 31))),o 27 (.sh .shr (t 26) (.c (.int .u64 31))),m 7 27]) (Y [0,7])) (Q (Q (O [m 28
 0,o 29 (.ixs (t 28) (i 0)),o 30 (.cvi .i32 (t 29)),m 31 7,o 32 (.an (t 30) (t 31)),m 33 7,o 34 (.ar .and (.c (.int .i32 65533)) (t 33)),ar 35 .or 32 34,m 2 35,mc 3 (i 1)])
 (Y [2,3])) R)) X)) (Q (Q (O [m 36 6,ac 37 .and 36 (u 7),o 38 (.cvi .i64 (t 37)),m 8 38]) (Y [0,4,5,6,8])) (Q (Q (O [m 39 6,o 40 (.sh .shr (t 39) (.c (.int .u64 4))),o 41
 (.iaa 16 2 (.c .unk) (t 40)),la 42 2 41,o 9 (.nw [(.int .u8 0),(.int .u8 0)] CS),n (.st 2 (t 9) (t 42))]) (Y [0,4,5,8,9])) (Q (Q (O [m 43 4,m 44 8,bl 45 43
 44]) (C 45 (Q (O [mc 2 (.c (.int .i32 65533)),mc 3 (i 1)]) R) X)) (Q (O [m 46 0,o 47 (.ixs (t 46) (i 1)),m 10 47]) (Q (Q (Q (O [m 48 10,fa 49 0 9,ld 50 49,bl 51 48 50,m 52
 51,h 53 52 (.fa 1 (t 9)),h 54 52 (.ld none (t 53)),h 55 52 (.mv (t 10)),h 56 52 (.ar .lss (t 54) (t 55)),pt 57 52 56]) (Y [0,5,8,10,57])) (C 57 (Q (O [mc 2 (.c (.int .i32
 65533)),mc 3 (i 1)]) R) X)) (Q (Q (O [m 58 8,ac 59 .leq 58 (i 2)]) (C 59 (Q (Q (O [m 60 5,ac 61 .and 60 (u 31),o 62 (.cvi .i32 (t 61)),o 63 (.sh .shl (t 62) (.c (.int .u64
 6))),m 64 10,ac 65 .and 64 (u 63),o 66 (.cvi .i32 (t 65)),ar 67 .or 63 66,m 2 67,mc 3 (i 2)]) (Y [2,3])) R) X)) (Q (O [m 68 0,o 69 (.ixs (t 68) (i 2)),m 11 69]) (Q (Q (Q (O
 [m 70 11,ac 71 .lss 70 (u 128),m 72 71,h 73 72 (.mv (t 11)),h 74 72 (.ar .lss (u 191) (t 73)),pt 75 72 74]) (Y [0,5,8,10,11,75])) (C 75 (Q (O [mc 2 (.c (.int .i32 65533)),
 mc 3 (i 1)]) R) X)) (Q (Q (O [m 76 8,ac 77 .leq 76 (i 3)]) (C 77 (Q (Q (O [m 78 5,ac 79 .and 78 (u 15),o 80 (.cvi .i32 (t 79)),o 81 (.sh .shl (t 80) (.c (.int .u64 12))),m 82
 10,ac 83 .and 82 (u 63),o 84 (.cvi .i32 (t 83)),o 85 (.sh .shl (t 84) (.c (.int .u64 6))),ar 86 .or 81 85,m 87 11,ac 88 .and 87 (u 63),o 89 (.cvi .i32 (t 88)),ar 90 .or 86
 89,m 2 90,mc 3 (i 3)]) (Y [2,3])) R) X)) (Q (O [m 91 0,o 92 (.ixs (t 91) (i 3)),m 12 92]) (Q (Q (Q (O [m 93 12,ac 94 .lss 93 (u 128),m 95 94,h 96 95 (.mv (t 12)),h 97 95
 (.ar .lss (u 191) (t 96)),pt 98 95 97]) (Y [5,10,11,12,98])) (C 98 (Q (O [mc 2 (.c (.int .i32 65533)),mc 3 (i 1)]) R) X)) (Q (Q (O [m 99 5,ac 100 .and 99 (u 7),o 101 (.cvi
 .i32 (t 100)),o 102 (.sh .shl (t 101) (.c (.int .u64 18))),m 103 10,ac 104 .and 103 (u 63),o 105 (.cvi .i32 (t 104)),o 106 (.sh .shl (t 105) (.c (.int .u64 12))),ar 107 .or
 102 106,m 108 11,ac 109 .and 108 (u 63),o 110 (.cvi .i32 (t 109)),o 111 (.sh .shl (t 110) (.c (.int .u64 6))),ar 112 .or 107 111,m 113 12,ac 114 .and 113 (u 63),o 115 (.cvi
 .i32 (t 114)),ar 116 .or 112 115,m 2 116,mc 3 (i 4)]) (Y [2,3])) R))))))))))))))))))
def kj:AFn:=⟨rk,117,[.t 2,.t 3],.drop,[],none⟩
def dv:AC:=
 (Q (O [mc 4 (i 0)]) (Q (Q (O [m 5 0,m 6 1,k2 7 cZ 5 6,m 4 7]) (Y [4])) R))
def eK:AFn:=⟨dv,8,[.t 4],.drop,[],none⟩
theorem mI:qf eK [.t 4] .drop:=⟨rfl,rfl,rfl⟩
def wV:AC:=
 (Q (O [mc 2 (i 0)]) (Q (Q (O [m 3 0,ac 4 .add 3 (i 16),ac 5 .quo 4 (i 8),m 2 5]) (Y [2])) R))
def qS:AFn:=⟨wV,6,[.t 2],.drop,[],none⟩
def oO:AC:=
 (Q (Q (O [m 18 9,m 19 7,bl 20 18 19]) (C 20 X (.exit 0))) (Q (.block 1 (Q (O [m 23 8,o 24 (.ar .mul (t 23) (.c (.int .u32 16777619))),m 25 0,m 26 9,o 27 (.ixs (t 25) (t 26)),
 o 28 (.cvi .u32 (t 27)),ar 29 .add 24 28,m 8 29]) (Y [0,1,5,6,7,8,9]))) (ic 21 9 22)))
def oP:AC:=
 (Q (Q (Q (O [m 41 10,m 42 0,lt 43 42,bl 44 41 43]) (Y [0,1,5,6,7,8,10,44])) (C 44 X (.exit 2))) (.block 3 (Q (O [m 45 8,o 46 (.ar .mul (t 45) (.c (.int .u32 16777619))),
 m 8 46]) (Q (Q (O [m 47 8,m 48 0,m 49 10,o 50 (.ixs (t 48) (t 49)),o 51 (.cvi .u32 (t 50)),ar 52 .add 47 51,m 8 52]) (Y [0,1,5,6,7,8,10])) (Q (Q (O [m 53 8,m 54 6,m 55
 0,m 56 10,m 57 7,ar 58 .sub 56 57,o 59 (.ixs (t 55) (t 58)),o 60 (.cvi .u32 (t 59)),ar 61 .mul 54 60,ar 62 .sub 53 61,m 8 62]) (Y [0,1,5,6,7,8,10])) (Q (ic 63 10 64)
 (Q (Q (O [m 65 8,m 66 5,ar 67 .eql 65 66,m 68 67,g 69 68 (.mv (t 0)),g 70 68 (.mv (t 10)),g 71 68 (.mv (t 7)),g 72 68 (.ar .sub (t 70) (t 71)),g 73 68 (.mv (t 10)),g 74 68
 (.sls (t 69) (some (t 72)) (some (t 73))),g 75 68 (.mv (t 1)),g 76 68 (.ar .eql (t 74) (t 75)),pf 77 68 76]) (Y [0,1,5,6,7,8,10,77])) (C 77 (Q (Q (O [m 78 10,m 79 7,ar
 80 .sub 78 79,m 4 80]) (Y [4])) R) X))))))))
def qh:AC:=
 (Q (O [mc 4 (i 0)]) (Q (Q (O [m 12 1,k1 13 sS 12,m 11 13,ex 14 11 0,ex 15 11 1,m 5 14,m 6 15]) (Y [0,1,5,6])) (Q (O [m 16 1,lt 17 16,m 7
 17]) (Q (O [mc 8 (.c (.int .u32 0))]) (Q (Q (O [mc 9 (i 0)]) (Q (.block 0 (lo [0,1,5,6,7,8,9] oO)) (Y [0,1,5,6,7,8]))) (Q (Q (Q (O
 [m 30 8,m 31 5,ar 32 .eql 30 31,m 33 32,g 34 33 (.mv (t 0)),g 35 33 (.mv (t 7)),g 36 33 (.sls (t 34) none (some (t 35))),g 37 33 (.mv (t 1)),g 38 33 (.ar .eql (t 36) (t
 37)),pf 39 33 38]) (Y [0,1,5,6,7,8,39])) (C 39 (rt 4 (i 0)) X)) (Q (Q (O [m 40 7,m 10 40]) (Q (.block 2 (lo [0,1,5,6,7,8,10]
 oP)) (Y []))) (rt 4 (i (-1))))))))))
def jG:AFn:=⟨qh,81,[.t 4],.drop,[],none⟩
def fP:AC:=
 (Q (Q (Q (O [m 32 9,fa 33 2 5,ld 34 33,lt 35 34,bl 36 32 35]) (Y [2,3,4,5,9,36])) (C 36 X (.exit 0))) (Q (.block 1 (Q (Q (D [W (la 39 6 4),Pf 40 2 5,Wl 41 40,Pf 42 2 5,
 Wl 43 42,W (lt 44 43),P (ac 45 .sub 44 (i 1)),Pm 46 9,P (ar 47 .sub 45 46),P (o 48 (.ixs (t 41) (t 47))),Pm 49 2,Pm 50 3,P (ac 51 .sub 50 (i 1)),Pm 52 9,P (ar 53 .sub 51
 52),E (k 54 (f j9) [(t 39),(t 48),(t 49),(t 53)]),P (no 55 54)]) (Y [2,3,4,5,9,55])) (C 55 (rt 8 F) X))) (ic 37 9 38)))
def fQ:AC:=
 (Q (Q (Q (O [m 56 10,fa 57 3 5,ld 58 57,lt 59 58,bl 60 56 59]) (Y [2,3,4,5,10,60])) (C 60 X (.exit 2))) (Q (.block 3 (Q (Q (D [W (la 63 6 4),Pf 64 3 5,Wl 65 64,Pm 66 10,
 P (o 67 (.ixs (t 65) (t 66))),Pm 68 2,Pm 69 3,Pf 70 0 5,Wl 71 70,W (lt 72 71),P (ar 73 .add 69 72),Pm 74 10,P (ar 75 .add 73 74),E (k 76 (f j9) [(t
 63),(t 67),(t 68),(t 75)]),P (no 77 76)]) (Y [2,3,4,5,10,77])) (C 77 (rt 8 F) X))) (ic 61 10 62)))
def nL:AC:=
 (Q (O [o 4 (.bx ae (t 0)),o 5 (.bx b7 (t 1)),mc 8 F]) (Q (Q (Q (D [Pm 11 3,Pf 12 0 5,Wl 13 12,W (lt 14 13),P (ar 15 .add 11 14),Pm 16 2,W (lt 17 16),P
 (ar 18 .gtr 15 17),Pm 19 18,P (h 20 19 (.mv (t 2))),P (h 21 19 (.mv (t 3))),P (h 22 19 (.mv (t 3))),P (h 23 19 (.fa 0 (t 5))),W (h 24 19 (.ld none (t 23))),W (h 25 19 (.len
 .str (t 24))),P (h 26 19 (.ar .add (t 22) (t 25))),P (h 27 19 (.sls (t 20) (some (t 21)) (some (t 26)))),P (h 28 19 (.fa 0 (t 5))),W (h 29 19 (.ld none (t 28))),P (h 30 19 (.ar
 .neq (t 27) (t 29))),P (pt 31 19 30)]) (Y [2,3,4,5,31])) (C 31 (rt 8 F) X)) (Q (Q (O [mc 9 (i 0)]) (Q (.block 0 (lo [2,3,4,5,9] fP)) (Y [2,3,4,
 5]))) (Q (Q (O [mc 10 (i 0)]) (Q (.block 2 (lo [2,3,4,5,10] fQ)) (Y []))) (rt 8 T)))))
def dI:AFn:=⟨nL,78,[.t 8],.drop,[],none⟩
theorem eV:qf dI [.t 8] .drop:=⟨rfl,rfl,rfl⟩
def CT:AC:=
 (Q (O [o 2 (.bx bQ (t 0)),mc 3 F]) (Q (Q (O [ld 4 1,la 5 2 2,k2 6 ll 4 5,no 7 6,m 3 7]) (Y [3])) R))
def wW:AFn:=⟨CT,8,[.t 3],.drop,[],none⟩
def rO:AC:=
 (Q (O [o 3 (.bx bQ (t 1)),mc 4 F]) (Q (Q (O [m 5 0,la 6 2 3,k2 7 mC 5 6,ac 8 .geq 7 (i 0),m 4 8]) (Y [4])) R))
def ln:AFn:=⟨rO,9,[.t 4],.drop,[],none⟩
def JD:AC:=
 (Q (O [mc 4 (.c (.slice .nil 2 []))]) (Q (Q (O [m 6 0,m 7 1,o 8 (.bs 1 [(.slice .nil 0 [])] 2 [(0,(t 6)),(1,(t 7))]),k1 9 mb 8,m 5 9]) (Y [5]))
 (Q (O [m 10 5,k 11 (f gl) [(t 10),(f vl)]]) (Q (O [m 12 5,k1 13 lB 12,m 4 13]) R))))
def CB:AFn:=⟨JD,14,[.t 4],.frz,[],none⟩
def jq:AC:=
 (Q (O [mc 4 F]) (Q (Q (O [m 5 0,lt 6 5,m 7 1,lt 8 7,ar 9 .geq 6 8,m 10 9,g 11 10 (.mv (t 0)),g 12 10 (.mv (t 1)),g 13 10 (.len .str (t 12)),g 14 10 (.sls (t 11) none (some
 (t 13))),g 15 10 (.mv (t 1)),g 16 10 (.ar .eql (t 14) (t 15)),pf 17 10 16,m 4 17]) (Y [4])) R))
def eM:AFn:=⟨jq,18,[.t 4],.drop,[],none⟩
theorem mJ:qf eM [.t 4] .drop:=⟨rfl,rfl,rfl⟩
def oQ:AC:=
 (Q (O [o 4 (.bx aP (t 0)),mc 8 F]) (Q (Q (Q (O [m 11 3,ac 12 .lss 11 (i 0),m 13 12,h 14 13 (.mv (t 3)),h 15 13 (.mv (t 2)),h 16 13 (.len .str (t 15)),h 17 13
 (.ar .geq (t 14) (t 16)),pt 18 13 17]) (Y [1,2,3,4,18])) (C 18 (Q (Q (O [m 19 1,ac 20 .eql 19 (u 35),m 21 20,g 22 21 (.mv (t 3)),g 23 21 (.ar .eql (t 22) (i (-1))),g 24 21
 (.mv (t 23)),h 25 24 (.mv (t 3)),h 26 24 (.mv (t 2)),h 27 24 (.len .str (t 26)),h 28 24 (.ar .eql (t 25) (t 27)),g 29 21 (.pk (t 24) T (t 28)),pf 30 21 29,m 8 30]) (Y [8]))
 R) X)) (Q (Q (O [m 31 2,m 32 3,o 33 (.ixs (t 31) (t 32)),m 9 33]) (Y [1,4,9])) (Q (Q (O [fa 34 0 4,fa 35 0 34,ld 36 35,m 37 9,k2 38 ru 36 37,ac 39 .geq 38
 (i 0),m 10 39]) (Y [1,9,10])) (Q (Q (O [m 40 1]) (.block 0 (Q (.block 2 (Q (.block 1 (Q (Q (Q (O [ac 42 .eql 40 (u 67),m 41 42]) (C 41 (.exit 1) X)) (Q (O [ac 44 .eql 40 (u 86),
 m 43 44]) (C 43 (.exit 2) X))) (.exit 0))) (O [m 45 10,no 46 45,m 10 46]))) (Q (Q (Q (O [m 47 9,k1 48 cD 47,m 49 48,g 50 49 (.mv (t 10)),pf 51 49 50,m 8 51]) (Y
 [8])) R) (.exit 0))))) (Q (Q (O [m 52 1,m 53 9,ar 54 .eql 52 53,m 8 54]) (Y [8])) R))))))
def lf:AFn:=⟨oQ,55,[.t 8],.drop,[],none⟩
theorem oR:qf lf [.t 8] .drop:=⟨rfl,rfl,rfl⟩
def rP:AC:=
 (Q (Q (Q (O [m 9 5,m 10 0,lt 11 10,bl 12 9 11]) (Y [0,4,5,12])) (C 12 X (.exit 0))) (Q (.block 1 (Q (O [m 15 4,o 16 (.ar .mul (t 15) (.c (.int .u32 16777619))),m 17 0,m 18
 5,o 19 (.ixs (t 17) (t 18)),o 20 (.cvi .u32 (t 19)),ar 21 .add 16 20,m 4 21]) (Y [0,4,5]))) (ic 13 5 14)))
def rQ:AC:=
 (Q (Q (O [m 24 8,ac 25 .gtr 24 (i 0)]) (C 25 X (.exit 2))) (Q (.block 3 (Q (Q (O [m 28 8,ac 29 .and 28 (i 1),ac 30 .neq 29 (i 0)]) (C 30 (Q (O [m 31 6,m 32 7,ar 33 .mul 31 32,
 m 6 33]) (Y [4,6,7,8])) X)) (Q (O [m 34 7,m 35 7,ar 36 .mul 34 35,m 7 36]) (Y [4,6,7,8])))) (O [m 26 8,o 27 (.sh .shr (t 26) (.c (.int .u64 1))),m 8 27])))
def sV:AC:=
 (Q (O [mc 2 (.c (.int .u32 0)),mc 3 (.c (.int .u32 0))]) (Q (O [mc 4 (.c (.int .u32 0))]) (Q (Q (O [mc 5 (i 0)]) (Q (.block 0 (lo [0,4,5] rP)) (Y
 [0,4]))) (Q (O [mc 6 (.c (.int .u32 1)),mc 7 (.c (.int .u32 16777619))]) (Q (Q (O [m 22 0,lt 23 22,m 8 23]) (Q (.block 2 (lo [4,6,7,8] rQ))
 (Y [4,6]))) (Q (Q (O [m 37 4,m 38 6,m 2 37,m 3 38]) (Y [2,3])) R))))))
def mh:AFn:=⟨sV,39,[.t 2,.t 3],.drop,[],none⟩
def fR:AC:=
 (Q (Q (Q (O [m 31 10,fa 32 0 4,ld 33 32,lt 34 33,bl 35 31 34]) (Y [1,2,3,4,9,10,35])) (C 35 X (.exit 0))) (Q (.block 1 (Q (D [Pm 38 9,Pm 39 38,P (h 40 39 (.fa 0 (t 4))),
 W (h 41 39 (.ld none (t 40))),P (h 42 39 (.mv (t 10))),P (h 43 39 (.ixs (t 41) (t 42))),P (h 44 39 (.mv (t 2))),P (h 45 39 (.mv (t 3))),P (h 46 39 (.ixs (t 44) (t 45))),P (h
 47 39 (.ar .eql (t 43) (t 46))),P (pt 48 39 47),Pm 9 48]) (Y [1,2,3,4,9,10]))) (ic 36 10 37)))
def nM:AC:=
 (Q (O [o 4 (.bx ae (t 0)),mc 8 F]) (Q (Q (Q (O [m 11 3,ac 12 .lss 11 (i 0),m 13 12,h 14 13 (.mv (t 3)),h 15 13 (.mv (t 2)),h 16 13 (.len .str (t 15)),h 17 13 (.ar
 .geq (t 14) (t 16)),pt 18 13 17]) (Y [1,2,3,4,18])) (C 18 (Q (Q (O [m 19 1,ac 20 .eql 19 (u 35),m 21 20,g 22 21 (.mv (t 3)),g 23 21 (.ar .eql (t 22) (i (-1))),g 24 21 (.mv
 (t 23)),h 25 24 (.mv (t 3)),h 26 24 (.mv (t 2)),h 27 24 (.len .str (t 26)),h 28 24 (.ar .eql (t 25) (t 27)),g 29 21 (.pk (t 24) T (t 28)),pf 30 21 29,m 8 30]) (Y [8])) R) X))
 (Q (O [mc 9 F]) (Q (Q (O [mc 10 (i 0)]) (Q (.block 0 (lo [1,2,3,4,9,10] fR)) (Y [1,2,3,9]))) (Q (Q (O [m 49 1]) (.block 2 (Q (O [ac 51 .eql 49 (u 86),
 m 50 51]) (C 50 (Q (O [m 52 9,m 8 52]) R) (Q (O [ac 54 .eql 49 (u 67),m 53 54]) (C 53 (Q (Q (O [m 55 2,m 56 3,o 57 (.ixs (t 55) (t 56)),k1 58 fx 57,m 59
 58,g 60 59 (.mv (t 9)),g 61 59 (.un .not (t 60)),pf 62 59 61,m 8 62]) (Y [8])) R) X)))))) (Q (Q (O [m 63 1,m 64 2,m 65 3,o 66 (.ixs (t 64) (t 65)),ar 67 .eql 63 66,m 8 67])
 (Y [8])) R))))))
def iH:AFn:=⟨nM,68,[.t 8],.drop,[],none⟩
theorem iI:qf iH [.t 8] .drop:=⟨rfl,rfl,rfl⟩
def sD:AC:=
 (Q (O [bl 9 8 7]) (Q (C 9 X (.exit 0)) (Q (.block 1 (Q (O [m 10 8,m 5 10]) (Q (Q (D [W (la 11 2 3),Pm 12 0,Pm 13 5,P (ia 14 2 12 13),W (la 15 2 14),P (o 16 (.eq false (.st
 [(0,.str),(1,.str)]) (t 11) (t 15)))]) (Y [0,3,5,7,8,16])) (C 16 (Q (O [m 17 5,m 4 17]) R) X)))) (O [ad 18 8,m 8 18]))))
def tI:AC:=
 (Q (O [o 3 (.bx bQ (t 1)),mc 4 (i 0)]) (Q (Q (O [m 6 0,ls 7 6,mc 8 (i 0)]) (Q (.block 0 (lo [0,3,7,8] sD)) (Y []))) (rt 4 (i (-1)))))
def mK:AFn:=⟨tI,19,[.t 4],.drop,[],none⟩
def rR:AC:=
 (Q (O [bl 12 11 10]) (Q (C 12 X (.exit 0)) (Q (.block 1 (Q (O [ia 13 1 9 11,ld 14 13,m 5 14]) (Q (Q (O [m 15 3,m 16 5,ls 17 16,ar 18 .add 15 17,m 3 18]) (Y [0,3,9,10,11]))
 (Q (O [m 19 3,ac 20 .lss 19 (i 0)]) (C 20 (O [o 21 (.mi aE (s [108,101,110,32,111,117,116,32,111,102,32,114,97,110,103,101])),⟨none,none,(.panic (.t 21))⟩])
 X))))) (O [ad 22 11,m 11 22]))))
def rT:AC:=
 (Q (O [bl 28 27 26]) (Q (C 28 X (.exit 2)) (Q (.block 3 (Q (O [ia 29 1 25 27,ld 30 29,m 8 30]) (Q (O [m 31 6,m 32 8,o 33 (.ap true bQ 2 32 false (t 31) (t 32)),m 6 33])
 (Y [6,25,26,27])))) (O [ad 34 27,m 27 34]))))
def sW:AC:=
 (Q (O [mc 2 (.c (.slice .nil 2 []))]) (Q (O [mc 3 (i 0)]) (Q (Q (O [m 9 0,ls 10 9,mc 11 (i 0)]) (Q (.block 0 (lo [0,3,9,10,11] rR)) (Y [0,
 3]))) (Q (O [m 23 3,k 24 (f mZ) [(.c (.slice .nil 2 [])),(t 23)],m 6 24]) (Q (Q (O [m 25 0,ls 26 25,mc 27 (i 0)]) (Q (.block 2 (lo [6,25,26,27]
 rT)) (Y [6]))) (Q (O [m 35 6,m 2 35]) R))))))
def mj:AFn:=⟨sW,36,[.t 2],.keep,[13],none⟩
def Gi:AC:=
 (Q (O [o 2 (.bx bQ (t 0)),o 3 (.bx bQ (t 1)),mc 4 (i 0)]) (Q (Q (O [fa 5 0 2,ld 6 5,fa 7 0 3,ld 8 7,k2 9 DO 6 8,m 4 9]) (Y [4])) R))
def Gj:AFn:=⟨Gi,10,[.t 4],.drop,[],none⟩
def DV:AC:=
 (Q (O [mc 4 (i 0)]) (Q (Q (O [m 5 0,m 6 1,k2 7 tv 5 6,m 4 7]) (Y [4])) R))
def DW:AFn:=⟨DV,8,[.t 4],.drop,[],none⟩
def rA:AC:=
 (Q (Q (Q (O [m 29 5,m 30 4,ls 31 30,bl 32 29 31]) (Y [0,3,4,5,32])) (C 32 X (.exit 2))) (Q (.block 3 (Q (Q (D [Pm 35 4,Pm 36 5,P (ia 37 2 35 36),W (la 38 2 37),Pm 39 4,
 Pm 40 5,P (ac 41 .sub 40 (i 1)),P (ia 42 2 39 41),W (la 43 2 42),P (o 44 (.eq true (.st [(0,.str),(1,.str)]) (t 38) (t 43)))]) (Y [0,3,4,5,44])) (C 44 (Q (Q (O [m 45 0,m
 46 3,m 47 4,m 48 5,ia 49 2 47 48,la 50 2 49,ia 51 2 45 46,n (.st 2 (t 51) (t 50))]) (Y [0,3,4,5])) (ic 52 3 53)) X))) (ic 33 5 34)))
def rB:AC:=
 (Q (Q (Q (O [m 10 3,m 11 0,ls 12 11,bl 13 10 12]) (Y [0,3,13])) (C 13 X (.exit 0))) (Q (Q (.block 1 (Q (Q (D [Pm 16 0,Pm 17 3,P (ia 18 2 16 17),W (la 19 2 18),Pm 20 0,Pm
 21 3,P (ac 22 .sub 21 (i 1)),P (ia 23 2 20 22),W (la 24 2 23),P (o 25 (.eq false (.st [(0,.str),(1,.str)]) (t 19) (t 24)))]) (Y [0,3,25])) (C 25 (Q (Q (O [m 26 0,m 27 3,o
 28 (.sll 2 (t 26) (some (t 27)) none none),m 4 28]) (Y [0,3,4])) (Q (Q (O [mc 5 (i 1)]) (Q (.block 2 (lo [0,3,4,5] rA)) (Y [0,3]))) (Q (Q (O
 [m 54 0,m 55 3,o 56 (.sll 2 (t 54) (some (t 55)) none none),n (.cl 2 [(.str []),(.str [])] (t 56))]) (Y [0,3])) (Q (Q (O [m 57 0,m 58 3,o 59 (.sll 2 (t 57) none (some (t 58))
 none),m 2 59]) (Y [2])) R)))) X))) (Y [0,3])) (ic 14 3 15)))
def sE:AC:=
 (Q (O [mc 2 (.c (.slice .nil 2 []))]) (Q (Q (O [m 6 0,ls 7 6,ac 8 .lss 7 (i 2)]) (C 8 (Q (O [m 9 0,m 2 9]) R) X)) (Q (Q (O [mc 3 (i 1)]) (Q (.block 0 (lo [0,3]
 rB)) (Y [0]))) (Q (O [m 60 0,m 2 60]) R))))
def lI:AFn:=⟨sE,61,[.t 2],.drop,[],none⟩
def rC:AC:=
 (Q (O [mc 4 (i 0)]) (Q (Q (O [m 5 0,m 6 1,k2 7 cM 5 6,m 4 7]) (Y [4])) R))
def ni:AFn:=⟨rC,8,[.t 4],.drop,[],none⟩
theorem Cg:qf ni [.t 4] .drop:=⟨rfl,rfl,rfl⟩
def ug:AC:=
 (Q (O [mc 4 (.c (.slice .nil 2 []))]) (Q (Q (O [m 5 1,ac 6 .lss 5 (i 0)]) (C 6 (O [o 7 (.mi aE (s [99,97,110,110,111,116,32,98,101,32,110,101,103,97,116,105,
 118,101])),⟨none,none,(.panic (.t 7))⟩]) X)) (Q (Q (Q (O [m 8 1,m 9 0,o 10 (.cap (t 9)),m 11 0,ls 12 11,ar 13 .sub 10 12,ar 14 .sub 8 13,m 1 14]) (Y [0,1])) (Q (O [m 15
 1,ac 16 .gtr 15 (i 0)]) (C 16 (Q (O [m 17 0,m 18 0,o 19 (.cap (t 18)),o 20 (.sll 2 (t 17) none (some (t 19)) none),m 21 1,o 22 (.apz bQ 2 32 [(.str []),(.str [])] (t
 20) (t 21)),m 23 0,ls 24 23,o 25 (.sll 2 (t 22) none (some (t 24)) none),m 0 25]) (Y [0])) X))) (Q (O [m 26 0,m 4 26]) R))))
def na:AFn:=⟨ug,27,[.t 4],.keep,[],none⟩
def tJ:AC:=
 (Q (O [mc 4 (i 0)]) (Q (Q (O [m 5 0,m 6 1,k2 7 nO 5 6,m 4 7]) (Y [4])) R))
def tK:AFn:=⟨tJ,8,[.t 4],.drop,[],none⟩
end Go.Am
end
