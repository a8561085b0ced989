import Derived.Test.YtnknpmlcimogcaaGreatDoorA1
import Derived.Still
import Derived.Lib.UnsafeStr
import Derived.Lib.Builder
import Derived.Laws.AppendOwn
import Derived.Laws.Cover4
import Derived.OrdersIn
import Derived.RangeFuncLeaves
import Derived.RangeFuncNested
/-
  Part 2 of the tool: an abstract machine over the model, proved sound, and what it says of the functions that the law reaches. Condition: none but those that each theorem names.
-/
set_option linter.unusedVariables false
set_option linter.unusedSimpArgs false
set_option maxRecDepth 100000
set_option maxHeartbeats 4000000
namespace Go.Am
open Go.RowKit
section
variable{P:Program}{G:Nat→Option (List AV)}{K:aC}{N:Fr}{a:Env}{H:List Y4}{act:Act}{w:World}
theorem Cf{K:aC}:V K jY undef:=.tuple [] #[] rfl (by simp)
theorem Rel.put{K':aC}{H':List Y4}{w':World}(hr:Rel N K a H act w)(hk:K.le K')(hi:Inv K' H' w'){dst:Option Tmp}{v:AV}{cv:Value}(hv:V K' v cv)(hd:∀ d,dst=some d→d<N.n) :
  Rel N K' (kE a dst v) H' (act.put dst cv) w':=by
 cases dst with
 |none=>exact ⟨hi,hr.defers.mono hk,hr.size,fun t=>(hr.tmps t).mono hk⟩
 |some d=>
  have hdN:=hd d rfl;refine ⟨hi,hr.defers.mono hk,by simp [Act.put,hr.size],fun t => ?_⟩;simp only [kE,Act.put,oB];split
  ·rename_i e;subst e
   have:t<act.tmps.size:=by rw [hr.size];exact hdN
   simpa [amd,this] using hv
  ·rename_i e
   have:=(hr.tmps t).mono hk;simpa [amd,anf (fun h=>e h.symm)] using this
def HH(P:Program)(K:aC)(r:Result Next)(v:AV)(H':List Y4):Prop:=
 ∃ K' cv w',K.le K'∧(r = .ok (.value cv) w'∨(r = .ok .skip w'∧cv=undef))∧V K' v cv∧Inv K' H' w'
theorem fN{s:Sem Value}{v:AV}(hi:Inv K H w)(h:∃ cv,s.run P w = .ok cv w∧V K v cv):HH P K ((do pure (.value (← s)):Sem Next).run P w) v H:=by
 obtain ⟨cv,h1,h2⟩:=h;exact ⟨K,cv,w,.refl K,.inl (by simp [h1]),h2,hi⟩
theorem fk{s:Sem Value}{v:AV}{H':List Y4}(h:∃ K' cv w',K.le K'∧s.run P w = .ok cv w'∧V K' v cv∧Inv K' H' w'):HH P K ((do pure (.value (← s)):Sem Next).run P w) v H':=by
 obtain ⟨K',cv,w',h0,h1,h2,h3⟩:=h;exact ⟨K',cv,w',h0,.inl (by simp [h1]),h2,h3⟩
theorem Vs.fn{f:Fn}{first cap:List AV}{vs us:Array Value}(h1:Vs K first vs)(h2:Vs K cap us):V K (.fn f first cap) (.func f vs us):=
 .fn f first cap vs us h1.size h2.size h1.at_ h2.at_
theorem V.ade{f:Fn}{first cap:List AV}{v:Value}(h:V K (.fn f first cap) v):∃ vs us,v = .func f vs us∧Vs K first vs∧Vs K cap us:=by
 cases h with | fn _ _ _ vs us h1 h2 h3 h4=>exact ⟨vs,us,rfl,⟨h1,h3⟩,⟨h2,h4⟩⟩
theorem Vs.append{x y:List AV}{vs us:Array Value}(h1:Vs K x vs)(h2:Vs K y us):Vs K (x++y) (vs++us):=by
 refine ⟨by rw [al8,aos,h1.size,h2.size],fun i av hi => ?_⟩
 by_cases hlt:i<x.length
 ·rw [al7 hlt] at hi
  obtain ⟨v,h3,h4⟩:=h1.get hi;rw [pF (v:=v) (by rw [ans (by rw [← h1.size];exact hlt)];exact h3)];exact h4
 ·rw [amm (by omega)] at hi
  obtain ⟨v,h3,h4⟩:=h2.get hi;rw [pF (v:=v) (by rw [Array.getElem?_append_right (by rw [← h1.size];omega),← h1.size];exact h3)];exact h4
theorem DG{α β:Type}{x:Option α}{y:β}{v:α}{z:β}(h:x.map (·,y)=some (v,z)):x=some v∧z=y:=by
 cases x with
 |none=>cases h
 |some x=>cases h;exact ⟨rfl,rfl⟩
def _root_.Go.Value.ak9:Value→Bool
 |.pointer (some _)=>true
 |.func (.func _) _ _=>true
 |_=>false
theorem Lc(hi:Inv K H w){t:TypeId}{x v:AV}{cx:Value}{H':List Y4}(hx:V K x cx)(h:Lb P H t x=some (v,H')) :
  ∃ K' cv w',K.le K'∧(Instr.range t cx).run P w = .ok cv w'∧V K' v cv∧Inv K' H' w':=by
 unfold Lb at h;split at h
 ·rename_i s hu
  cases h;cases hx;refine ⟨K.push w.heap.size,_,w.alloc (.stringIter ⟨s.toArray⟩ 0),K.aaI _,by simp [Instr.range,Y5 hu];rfl,.ptr _ _ _ (by simp [aC.push,aC.ZJ,hi.len]), ?_⟩;exact hi.aaU (.aaj s 0) _ rfl none (fun s h=>by cases h) fun w' hw' _ _=>⟨w.heap.size,by simp [aC.ZJ],hi.new,hw',hi.acD⟩
 ·cases h
theorem Mt(hi:Inv K H w){ty:TypeId}{x v:AV}{cx:Value}{H':List Y4}(hx:V K x cx)(h:Ms H x=some (v,H')) :
  ∃ K' cv w',K.le K'∧(Instr.next cx true ty).run P w = .ok cv w'∧V K' v cv∧Inv K' H' w':=by
 unfold Ms at h;split at h
 ·rename_i id
  split at h
  ·rename_i s pos hs
   obtain ⟨b,h1,h2,h3⟩:=hi.obj id _ hs;cases hx with
   |ptr _ _ b' hb=>
    rw [h1] at hb;cases hb;have hsz:(ByteArray.mk s.toArray).size=s.length:=by simp [ByteArray.size]
    have hg:(getObj b).run P w = .ok (.stringIter ⟨s.toArray⟩ pos) w:=by simp [getObj,Sem.run,h3]
    split at h
    ·rename_i hlt
     cases h;have hso:∀ p,(setObj b (.stringIter ⟨s.toArray⟩ p)).run P w = .ok () { w with heap:=w.heap.setIfInBounds b (.stringIter ⟨s.toArray⟩ p) }:=fun p=>by simp [setObj,Sem.run,h3]
     refine ⟨K,.tuple #[.bool true,goInt pos,.int .i32 (Utf8.decode ⟨s.toArray⟩ pos).1],_,.refl K, ?_, ?_,hi.iter hs h1⟩
     ·simp only [Instr.next,Sem.run_bind,hg,Result.andThen_ok]
      rw [if_pos (by rw [hsz];exact hlt)];simp only [Sem.run_bind,hso,Result.andThen_ok,Sem.run_pure]
     ·refine .tuple _ _ rfl fun i av hiv => ?_
      match i,hiv with
      |0,hiv=>cases hiv;exact .bool _
      |1,hiv=>cases hiv;exact .int _ _
      |2,hiv=>cases hiv;exact .int _ _
      |i+3,hiv=>simp at hiv
    ·rename_i hlt
     cases h;refine ⟨K,.tuple #[.bool false],w,.refl K, ?_, ?_,hi⟩
     ·simp only [Instr.next,Sem.run_bind,hg,Result.andThen_ok]
      rw [if_neg (by rw [hsz];exact hlt)];rfl
     ·refine .tuple _ _ rfl fun i av hiv => ?_
      match i,hiv with
      |0,hiv=>cases hiv;exact .bool _
      |i+1,hiv=>simp at hiv
  ·cases h
 ·cases h
end
section
variable{P:Program}{G:Nat→Option (List AV)}{K:aC}{N:Fr}{a:Env}{H:List Y4}{act:Act}{w:World}
theorem V.adD{t:TypeId}{v:AV}{x:Value}(h:V K (.iface t v) x):∃ y,x = .iface t y∧V K v y:=by
 cases h with | iface _ _ y hy=>exact ⟨y,rfl,hy⟩
theorem yo{x y:AV}{cargs:Array Value}(hv:Vs K [x,y] cargs):∃ c d,cargs = #[c,d]∧V K x c∧V K y d:=by
 obtain ⟨c,hc1,hc2⟩:=hv.get (i:=0) (av:=x) rfl;obtain ⟨d,hd1,hd2⟩:=hv.get (i:=1) (av:=y) rfl;refine ⟨c,d, ?_,hc2,hd2⟩;apply Array.ext
 ·rw [← hv.size];rfl
 ·intro i h1 h2
  have hi0:i=0∨i=1:=by simp at h2;omega
  rcases hi0 with rfl | rfl
  ·exact (amh.1 hc1).2
  ·exact (amh.1 hd1).2
theorem DH{x:AV}{cargs:Array Value}(hv:Vs K [x] cargs):∃ c,cargs = #[c]∧V K x c:=by
 obtain ⟨c,hc1,hc2⟩:=hv.get (i:=0) (av:=x) rfl;refine ⟨c, ?_,hc2⟩;apply Array.ext
 ·rw [← hv.size];rfl
 ·intro i h1 h2
  have hi0:i=0:=by simp at h2;exact h2
  subst hi0;exact (amh.1 hc1).2
theorem yp{α:Type}{ts:Array α}{l:List α}(h:ts.toList=l):ts=l.toArray:=by cases ts;simp at h;rw [h]
theorem V.aga{esz:Nat}{rows:List (List AV)}{x:Value}(h:V K (.slice .nil esz rows) x):V K (.slice .full esz rows) x:=by
 cases h with
 |Zk _ _ _ _ e=>simp at e
 |Zo _ _ a ha=>exact .Zo _ _ a ⟨fun _ e=>(by cases e),fun e=>(by cases e),fun e=>(by cases e)⟩
 |slice _ _ _ b o cap vs hl hi hv hc ht=>exact (ht:False).elim
theorem Inv.lend(hi:Inv K H w){id:Nat}{cs:List AV}{T:TypeId}(hx:H[id]?=some (.cells cs T)){b:Nat}(hb:K.loc[id]?=some b) :
  ∃ n K',K.le K'∧K.shape b=some (.rows n)∧K'.own b=some (id,n)∧Inv K' (H.set id (.tok 0 T)) w:=by
 have ho:=hi.obj id _ hx;obtain ⟨b2,vs,T2,h1,h2,h3,h4,h5,h6,h7,h8,h9⟩:=ho;rw [hb] at h1;cases h1;subst h9;have hid:id<H.length:=(al3.1 hx).1
 let K':aC := { K with own:=fun b'=>if b'=b then some (id,vs.size) else K.own b' }
 have hle:K.le K':=⟨fun _ _ _ h=>h,fun b' x h=>by
  show (if b'=b then _ else _)=_;rw [if_neg (fun e=>by subst e;rw [h7] at h;cases h)];exact h,fun _ _ h=>h,rfl,rfl,rfl,fun _ _ h=>h,fun _ _=>⟨fun _=>rfl,rfl⟩⟩
 refine ⟨vs.size,K',hle,h8,if_pos rfl,hi.below,hi.base,hi.ZO,by simp;exact hi.len,fun i y hy => ?_,fun i j y z hy hz ly lz hij => ?_,fun b' t n h => ?_,fun g cs hg=>(hi.ZC g cs hg).mono hle,hi.shape⟩
 ·rcases ka hy with ⟨_,rfl⟩ | ⟨hne,hy⟩
  ·trivial
  ·by_cases ly:y.live=true
   ·obtain ⟨by',hy1,_,_⟩:=hi.ZF hy ly
    have hne2:by'≠b:=fun e=>by
     subst e;exact hi.inj i id y _ hy hx ly rfl (fun e=>hne (by first | exact e | exact e.symm)) (by rw [hy1,hb])
    refine (hi.obj i y hy).mono hle (fun _ _ _ _=>rfl) (fun b'' hb'' _=>⟨fun o h=>h,fun h => ?_,fun h=>h⟩);rw [hy1] at hb'';cases hb'';show (if _=b then _ else _)=_;rw [if_neg hne2];exact h
   ·cases y<;>first | exact absurd rfl ly | trivial
 ·rcases ka hy with ⟨_,rfl⟩ | ⟨_,hy⟩
  ·cases ly
  ·rcases ka hz with ⟨_,rfl⟩ | ⟨_,hz⟩
   ·cases lz
   ·exact hi.inj i j y z hy hz ly lz hij
 ·have h':(if b'=b then some (id,vs.size) else K.own b')=some (t,n):=h
  split at h'
  ·rename_i e
   cases h';subst e;exact ⟨h2,0,vs,T2,0,0,by simp [hid],h3,rfl,amp _,fun o v hv=>by have:=h6 o;rw [this] at hv;cases hv⟩
  ·obtain ⟨g1,fr,us,T',lo,hh,g2,g3⟩:=hi.own b' t n h'
   refine ⟨g1,fr,us,T',lo,hh, ?_,g3⟩;rw [ami (fun e=>by subst e;rw [hx] at g2;cases g2)];exact g2
theorem HI(hi:Inv K H w){m:Bool}{sT xT:TypeId}{s x v:AV}{cs cx:Value}{H':List Y4}(hs:V K s cs)(hx:V K x cx)(h:Bn m P H sT xT s x=some (v,H'))(ty:TypeId) :
  ∃ K' cv w',K.le K'∧(Builtin.append_ #[sT,xT] ty #[cs,cx]).run P w = .ok cv w'∧V K' v cv∧Inv K' H' w':=by
 unfold Bn at h;split at h
 ·rename_i id esz
  split at h
  ·rename_i cs0 T hH
   cases hs with
   |Za _ _ _ _ _ b cap hb hcap hro=>
    obtain ⟨n,K',hk,h1,h2,h3⟩:=hi.lend hH hb;obtain ⟨n',e1,e2⟩:=hro rfl;rw [h1] at e1;cases e1;have hn:cap*esz=n:=by omega
    subst hn;have hlt:id<K'.loc.length:=hk.lt (al3.1 hb).1;have hv:V K' (.slice (.own id) esz []) (.slice (some ⟨b,0,none⟩) 0 cap):=.slice (.own id) esz [] b 0 cap (fun _ _=>undef) (by simp) (by simp) (by simp) (anC _) ⟨hlt,.inr ⟨rfl,h2⟩⟩;obtain ⟨K2,cv,w',g1,g2,g3,g4⟩:=CF h3 hv (hx.mono hk) h ty;exact ⟨K2,cv,w',hk.trans g1,g2,g3,g4⟩
  ·cases h
 ·exact wg hi hs hx h ty
 ·exact wg hi hs hx h ty
 ·exact wg hi hs.aga hx h ty
 ·exact CF hi hs hx h ty
theorem eC(hi:Inv K H w){m:Bool}{b:Builtin}{ts:Array TypeId}{args:List AV}{cargs:Array Value}{v:AV}{H':List Y4}(hv:Vs K args cargs)(h:j7 m P H b ts args=some (v,H'))(ty:TypeId)(cs:Array Bool) :
  HH P K ((builtin b ts ty cs cargs).run P w) v H':=by
 unfold j7 at h;split at h
 ·rename_i t x hts
  have h9:=DG h;clear h;obtain ⟨h,rfl⟩:=h9;obtain ⟨c,rfl,hc2⟩:=DH hv;obtain rfl:=yp hts;exact fN hi (NZ hi hc2 h)
 ·rename_i t x hts
  have h9:=DG h;clear h;obtain ⟨h,rfl⟩:=h9;obtain ⟨c,rfl,hc2⟩:=DH hv;obtain rfl:=yp hts;exact fN hi (N0 hc2 h ty)
 ·rename_i t u s x hts
  obtain ⟨c,d,rfl,hc2,hd2⟩:=yo hv;obtain rfl:=yp hts;exact fk (HI hi hc2 hd2 h ty)
 ·rename_i t u s x hts
  obtain ⟨c,d,rfl,hc2,hd2⟩:=yo hv;obtain rfl:=yp hts;exact fk (Mq hi hc2 hd2 h ty)
 ·rename_i x y
  have h9:=DG h;clear h;obtain ⟨h,rfl⟩:=h9;obtain ⟨c,d,rfl,hc2,hd2⟩:=yo hv;exact fN hi (Mn hc2 hd2 h ts ty)
 ·rename_i x y
  have h9:=DG h;clear h;obtain ⟨h,rfl⟩:=h9;obtain ⟨c,d,rfl,hc2,hd2⟩:=yo hv;exact fN hi (Mo hc2 hd2 h ts ty)
 ·cases h
theorem rm(hr:Rel N K a H act w){ops:Array Oper}{o:Oper}{b:Bool}(h:nr ops a o=some b):Region.wanted o (yielded ops act.tmps)=b:=by
 unfold nr at h;unfold Region.wanted;split at h
 ·rename_i hg;cases h;rw [hg]
 ·rename_i j want hg
  rw [hg];split at h
  ·cases h
  ·rename_i d hdst
   have hd:=hr.tmps d;split at h
   ·rename_i b' hb
    cases h;rw [hb] at hd;have:=hd.ac8
    by_cases hlt:d<act.tmps.size
    ·have h2:act.tmps[d]?=some (.bool b'):=by
      rw [amz hlt];simpa [amd,hlt] using this
     simp [yielded,hdst,h2]
    ·simp [amd,hlt,undef] at this
   ·rename_i vs hb
    cases h;rw [hb] at hd;obtain ⟨us,hus,_⟩:=hd.acE
    have:yielded ops act.tmps j=none:=by
     unfold yielded;simp only [hdst,Option.bind_some]
     by_cases hlt:d<act.tmps.size
     ·have h2:act.tmps[d]?=some (.tuple us):=by
       rw [amz hlt];simpa [amd,hlt] using hus
      rw [h2]
     ·rw [an8 (anA hlt)]
    simp [this]
   ·cases h
theorem Qo(ops:Array Oper):(List.range ops.size).map (ops[·]?)=ops.toList.map some:=by
 apply an5;intro i
 by_cases h:i<ops.size
 ·simp [h]
 ·simp [h]
end
def RL(P:Program):Op→Bool
 |.move _ | .assign _ | .pick .. | .nilCheck _ | .binOp .. | .unOp .. | .makeInterface .. | .makeFunc .. | .slice .. | .fieldAddr .. | .field .. | .indexAddr .. | .index .. | .extract .. | .typeAssert .. => true
 |.build .. | .buildSlice .. => true
 |.convert s _ _=>match P.underlying s with
  |some (.slice _)=>false
  |_=>true
 |.call c=>match c.callee with
  |.builtin .cap | .builtin .min | .builtin .max=>true
  |_=>false
 |_=>false
def DI(P:Program)(G:Nat→Option (List AV))(a:Env)(H:List Y4)(o:Oper)(v:AV)(H':List Y4):Prop:=
 match o.op with
 |.call c=>match c.callee with
  |.value f=>match eg G a f with
   |.fn (.func g) first cap=>dL P G g (first++c.args.toList.map (eg G a)++cap) H fun r H2=>r = .ret v∧H2=H'
   |_=>False
  |.builtin b => ∃ m,j7 m P H b c.argTypes (c.args.toList.map (eg G a))=some (v,H')
  |.invoke _ _=>False
 |.panic _=>False
 |op=>aop P G a H op=some (v,H')
inductive Cl where
 |pure
 |quiet
 |wide
 |Zn
 |turn
 |stop
 |last
 |eff
 deriving DecidableEq,Inhabited
def Cl.keeps:Cl→Bool
 |.Zn | .turn | .stop=>true
 |_=>false
def Cl.still:Cl→Bool
 |.quiet | .wide=>true
 |_=>false
def Cl.aeT:Cl→Cl→Bool
 |.pure,_=>true
 |_,.pure=>true
 |.wide,.Zn=>true
 |.wide,.turn=>true
 |.wide,.stop=>true
 |x,y=>x.still&&y.still
section
variable{P:Program}{G:Nat→Option (List AV)}{K:aC}{N:Fr}{a:Env}{H:List Y4}{act:Act}{w:World}{ops:Array Oper}{cls:Nat→Cl}{Kp:List Y4→List Y4→Prop}{Q:kA→Env→List Y4→Prop}
theorem DI.step{o:Oper}{v:AV}{H':List Y4}(h:DI P G a H o v H'){Kv Kp:AV→List Y4→Prop}(hk:Kv v H'):Wc P G a H o Kv Kp:=by
 unfold DI at h;unfold Wc;split at h
 ·rename_i c hop
  simp only [hop];split at h
  ·rename_i f hc
   simp only [hc];split at h
   ·rename_i g first cap he
    simp only [he];exact h.mono fun r H2 ⟨e1,e2⟩=>by subst e1;subst e2;exact hk
   ·exact h.elim
  ·rename_i b hc
   obtain ⟨m,h⟩:=h;simp only [hc];exact ⟨m,by rw [h];exact hk⟩
  ·exact h.elim
 ·exact h.elim
 ·rename_i hop1 hop2
  split
  ·rename_i c hop;exact absurd hop (hop1 c)
  ·rename_i x hop;exact absurd hop (hop2 x)
  ·rw [h];exact hk
structure YN (P:Program) (G:Nat→Option (List AV)) (N:Fr) (ops:Array Oper) (Kp:List Y4→List Y4→Prop) (c:Cl) (a:Env) (H:List Y4) (o:Oper) (v:AV) (H':List Y4):Prop where
 dst:∀ d,o.dst=some d→d<N.n
 pure:c = .pure→RL P o.op=true
 still:c.still=true→H'=H
 Zn:c.keeps=true→Kp H H'
 step:(nr ops a o=some true∧DI P G a H o v H'∧(c = .wide→∀ H2,Kp H H2→DI P G a H2 o v H2))∨(nr ops a o=some false∧v=jY∧H'=H)
theorem J5:∀ (f g:Nat) (a:Env) (n m:Nat) (v u:AV),n<f→m<g→n≠m→yj g (yj f a n v) m u=yj f (yj g a m u) n v
 |0,_,_,_,_,_,_,h,_,_=>absurd h (aoA _)
 |_+1,0,_,_,_,_,_,_,h,_=>absurd h (aoA _)
 |f+1,g+1,a,n,m,v,u,hn,hm,hne=>by
  have half:∀ k:Nat,(Nat.beq (k % 2) 0)=decide (k % 2=0):=fun k=>by rw [anw];simp
  cases n with
  |zero=>
   cases m with
   |zero=>exact absurd rfl hne
   |succ m=>cases a<;>simp only [yj,half]<;>by_cases h:m % 2=0<;>simp [yj,half,h]
  |succ n=>
   cases m with
   |zero=>cases a<;>simp only [yj,half]<;>by_cases h:n % 2=0<;>simp [yj,half,h]
   |succ m=>
    have ih:=fun (b:Env) (h:n / 2≠m / 2)=>J5 f g b (n / 2) (m / 2) v u (by omega) (by omega) h
    cases a<;>simp only [yj,half]<;>by_cases h1:n % 2=0<;>by_cases h2:m % 2=0<;>simp [yj,half,h1,h2]
    all_goals exact ih _ (by omega)
theorem Qp(n m:Nat)(a:Env)(v u:AV)(h:n≠m):qx (qx a n v) m u=qx (qx a m u) n v:=J5 (n+1) (m+1) a n m v u (by omega) (by omega) h
theorem Qq(a:Env){x y:Option Tmp}(v u:AV)(h:∀ d,x=some d→y≠some d):kE (kE a x v) y u=kE (kE a y u) x v:=by
 cases x with
 |none=>rfl
 |some d=>
  cases y with
  |none=>rfl
  |some e=>exact Qp d e a v u (fun he=>h d rfl (by rw [he]))
theorem Bo{o:Oper}{dst:Option Tmp}{u:AV}(h:∀ d,dst=some d→d ∉ o.looksAt ops):nr ops (kE a dst u) o=nr ops a o:=by
 cases dst with
 |none=>rfl
 |some d=>
  unfold nr;cases hg:o.guard with
  |none=>rfl
  |some gw=>
   obtain ⟨j,want⟩:=gw;simp only;cases ht:(ops[j]?).bind (·.dst) with
   |none=>rfl
   |some t=>
    have hne:t≠d:=fun e=>h d rfl (by subst e;simp [Oper.looksAt,hg,ht])
    simp only [kE,oB,if_neg hne]
inductive Dep (ops:Array Oper) (i:Nat):Nat→Prop where
 |one (j:Nat) (oj:Oper) (e:Edge):ops[j]?=some oj→e∈oj.after→Region.binds .any e=true→e.on=i→Dep ops i j
 |more (j:Nat) (oj:Oper) (e:Edge):ops[j]?=some oj→e∈oj.after→Region.binds .any e=true→Dep ops i e.on→Dep ops i j
def Bp(ops:Array Oper)(listed:Array Bool):Prop:=∀ (j:Nat) (oj:Oper),ops[j]?=some oj→listed.getD j true=true→∀ e∈oj.after,Region.binds .any e=true→listed.getD e.on true=true
theorem Bp.dep{listed:Array Bool}(hc:Bp ops listed){i j:Nat}(hd:Dep ops i j):listed.getD j true=true→listed.getD i true=true:=by
 induction hd with
 |one j oj e h1 h2 h3 h4=>intro h;subst h4;exact hc j oj h1 h e h2 h3
 |more j oj e h1 h2 h3 _ ih=>intro h;exact ih (hc j oj h1 h e h2 h3)
theorem qB{listed:Array Bool}{k:Nat}(h:listed.getD k false=true):listed.getD k true=true:=by
 rcases aoI k listed.size with h' | h'
 ·simpa [h',amd] using h
 ·simp [amd,an8 h'] at h
def Ld(i:Nat):List Oper→List Bool→List Bool
 |[],acc=>acc
 |o::os,acc=>Ld i os (acc++[o.after.any fun e=>Region.binds .any e&&(e.on == i||acc.getD e.on false)])
theorem wi{i:Nat}:∀ (l:List Oper) (acc:List Bool),(∀ j,l[j]?=ops[acc.length+j]?)→(∀ j,acc.getD j false=true→Dep ops i j)→∀ j,(Ld i l acc).getD j false=true→Dep ops i j
 |[],acc,_,h,j,hj=>h j hj
 |o::l,acc,hl,h,j,hj=>by
  refine wi l _ (fun k => ?_) (fun k hk => ?_) j hj
  ·have:=hl (k+1)
   simp only [amX] at this;rw [this,al8];congr 1;simp;omega
  ·rcases aoN k acc.length with hlt | heq | hgt
   ·refine h k ?_
    simpa [List.getD,al7 hlt] using hk
   ·subst heq
    simp only [List.getD,amm (amp _),an1,amx,aoU,Array.any_eq_true',amb,anN,amU] at hk;obtain ⟨e,he,hb,hor⟩:=hk;have ho:ops[acc.length]?=some o:=by simpa using (hl 0).symm
    rcases hor with hor | hor
    ·exact .one _ o e ho he hb hor
    ·exact .more _ o e ho he hb (h _ hor)
   ·simp [List.getD,amm (aoH hgt),List.getElem?_cons,show ¬ (k-acc.length=0) by omega] at hk
def RN(ops:Array Oper)(cls:Nat→Cl)(listed:Array Bool)(i:Nat):Bool:=
 match ops[i]? with
 |none=>false
 |some oi=>
  let dp:=Ld i ops.toList []
  (List.range ops.size).all fun j=>j == i||listed.getD j true||dp.getD j false||match ops[j]? with
   |some oj=>(cls i).aeT (cls j)&&oi.apart ops oj
   |none=>true
def zw(ops:Array Oper)(cls:Nat→Cl):List Nat→Array Bool→Bool
 |[],listed=>(Region.ready .any ops listed).isEmpty
 |k::ord,listed=>(Region.ready .any ops listed).contains k&&RN ops cls listed k&&zw ops cls ord (listed.setIfInBounds k true)
theorem HJ{cls:Nat→Cl}:∀ {ord:List Nat}{listed:Array Bool}{i:Nat},zw ops cls ord listed=true→i∈Region.ready .any ops listed→i∈ord
 |[],listed,i,h,hi=>by
  have:Region.ready .any ops listed=[]:=by simpa [zw] using h
  rw [this] at hi;cases hi
 |k::ord,listed,i,h,hi=>by
  simp only [zw,amb] at h
  by_cases e:i=k
  ·subst e;simp
  ·exact aoz _ (HJ h.2 (ready_mono hi e))
theorem N1{i:Nat}{oi:Oper}{listed:Array Bool}(hi:ops[i]?=some oi)(h:RN ops cls listed i=true)(j:Nat)(oj:Oper)
  (hj:ops[j]?=some oj) (hne:j≠i) (hun:listed.getD j true=false) (hno:¬ Dep ops i j):oi.apart ops oj=true∧(cls i).aeT (cls j)=true:=by
 simp only [RN,hi,amI,anV] at h;have h1:=h j (amh.1 hj).1;simp only [hj,anN,amU,hne,false_or,hun,amQ,amb] at h1;rcases h1 with h1 | h1
 ·exact absurd (wi ops.toList [] (fun j=>by simp) (fun j hj=>by simp at hj) j h1) hno
 ·exact ⟨h1.2,h1.1⟩
theorem Lg{listed:Array Bool}(hc:Bp ops listed){i:Nat}(hr:i∈Region.ready .any ops listed):Bp ops (listed.setIfInBounds i true):=by
 obtain ⟨_,oj,hoj,hall⟩:=mem_ready.1 hr;intro k ok hk hkl e he hb
 have up:∀ m,listed.getD m true=true→(listed.setIfInBounds i true).getD m true=true:=fun m hm=>by
  by_cases hjm:i=m
  ·subst hjm
   rcases aoI i listed.size with h' | h'
   ·simp [amd,h']
   ·simp [amd,an8 h']
  ·rw [getD_set_ne true hjm];exact hm
 by_cases hjk:i=k
 ·subst hjk
  rw [hoj] at hk;cases hk;exact up _ (qB (hall e he hb))
 ·rw [getD_set_ne true hjk] at hkl
  exact up _ (hc k ok hk hkl e he hb)
theorem Lh:Bp ops (Array.replicate ops.size false):=fun j oj hj hl=>by
 have:=(amh.1 hj).1;simp [amd,this] at hl
end
def Wk(n:Nat)(v v':AV):Prop:=∀ (K:aC) (x:Value),n≤K.loc.length→V K v x→V (K.Zy n) v' x
section
variable{P:Program}{G:Nat→Option (List AV)}{K:aC}{N:Fr}{a:Env}{H:List Y4}{act:Act}{w:World}
def HK(tmps:Array Value):ResultVar→Sem Value
 |.tmp t=>pure (tmps.getD t undef)
 |.cell a t=>do loadVar t (← asAddr (tmps.getD a undef))
def rG(P:Program)(a:Env)(H:List Y4):ResultVar→Option AV
 |.tmp t=>some (fh a t)
 |.cell x t=>xl P H t (fh a x)
theorem DJ(hr:Rel N K a H act w){r:ResultVar}{v:AV}(h:rG P a H r=some v):∃ cv,(HK act.tmps r).run P w = .ok cv w∧V K v cv:=by
 cases r with
 |tmp t=>cases h;exact ⟨_,rfl,hr.tmps t⟩
 |cell x t=>
  simp only [rG,HK] at h ⊢;have hx:=hr.tmps x;generalize act.tmps.getD x undef=cx at hx;obtain ⟨cv,h1,h2⟩:=Dx (P:=P) hr.inv hx h;refine ⟨cv, ?_,h2⟩
  have hp:∃ ad,cx = .pointer (some ad):=by
   unfold xl at h;generalize fh a x=y at hx h;split at h
   ·cases hx with | ptr _ _ b hb=>exact ⟨_,rfl⟩
   ·cases hx with | Zu _ _ _ _ b o vs _ _ _=>exact ⟨_,rfl⟩
   ·cases h
  obtain ⟨ad,rfl⟩:=hp;simpa [Instr.loadAt,Instr.sureAddr,asAddr] using h1
theorem DK(hr:Rel N K a H act w):∀ (rs:List ResultVar) (vs:List AV),rs.mapM (rG P a H)=some vs →
  ∃ cvs:List Value,(rs.mapM (HK act.tmps)).run P w = .ok cvs w∧Vs K vs cvs.toArray∧cvs.length=rs.length
 |[],vs,h=>by cases h;exact ⟨[],rfl,⟨rfl,by simp⟩,rfl⟩
 |r::rs,vs,h=>by
  rw [aou] at h;simp only [Option.bind_eq_bind,Option.bind_eq_some_iff,Option.pure_def,amo] at h;obtain ⟨v,h1,vs',h2,rfl⟩:=h;obtain ⟨cv,h3,h4⟩:=DJ (P:=P) hr h1;obtain ⟨cvs,h5,h6,h7⟩:=DK hr rs vs' h2;refine ⟨cv::cvs, ?_, ?_,by simp [h7]⟩
  ·rw [aou]
   simp only [Sem.run_bind,h3,h5,Result.andThen_ok,Sem.run_pure]
  ·have:Vs K [v] #[cv]:=⟨rfl,fun i av hi=>by
    cases i with
    |zero=>simp at hi;subst hi;exact h4
    |succ i=>simp at hi⟩
   have:=this.append h6;simpa using this
theorem N2(fn:Func)(tmps:Array Value):results fn tmps=(do let vs ← fn.results.toList.mapM (HK tmps);pure (if h:vs.toArray.size=1 then vs.toArray[0] else .tuple vs.toArray):Sem Value):=by
 unfold results;rw [aoL]
 have:(fun x=>match x with | .tmp t=>pure (tmps.getD t undef) | .cell a t=>do let __do_lift ← asAddr (tmps.getD a undef);loadVar t __do_lift:ResultVar→Sem Value)=HK tmps:=by
  funext r;cases r<;>rfl
 simp only [bind_map_left];congr 1
theorem N3(hr:Rel N K a H act w){fn:Func}{v:AV}(h:UD P fn a H=some v):∃ cv,(results fn act.tmps).run P w = .ok cv w∧V K v cv:=by
 unfold UD at h;simp only at h;rw [N2];split at h
 ·rename_i r hrs
  have h':rG P a H r=some v:=by rw [← h];cases r<;>rfl
  obtain ⟨cv,h1,h2⟩:=DJ (P:=P) hr h';refine ⟨cv, ?_,h2⟩;rw [hrs];simp only [aou,List.mapM_nil,Sem.run_bind,h1,Result.andThen_ok,Sem.run_pure];rfl
 ·rename_i hrs
  rw [amn] at h;obtain ⟨vs,h1,rfl⟩:=h
  have h1':fn.results.toList.mapM (rG P a H)=some vs:=by
   rw [← h1];congr 1
  obtain ⟨cvs,h2,h3,h4⟩:=DK (P:=P) hr _ vs h1';refine ⟨.tuple cvs.toArray, ?_,.tuple _ _ h3.size h3.at_⟩;simp only [Sem.run_bind,h2,Result.andThen_ok,Sem.run_pure]
  have hne:¬ cvs.toArray.size=1:=by
   intro e;simp at e;have e2:fn.results.toList.length=1:=by omega
   match hl:fn.results.toList,e2 with
   |[r],_=>exact hrs r hl
  rw [dif_neg hne]
theorem ER{args:List AV}{cargs:Array Value}(hv:Vs K args cargs)(n:Nat)(t:Nat):V K (fh (env args) t) ((cargs++Array.replicate n undef).getD t undef):=by
 rw [RD];cases h:args[t]? with
 |none=>exact .ZW _
 |some v=>
  obtain ⟨c,h1,h2⟩:=hv.get h;rw [pF (v:=c) (by rw [ans (amh.1 h1).1];exact h1)];exact h2
end
mutual
def ux:AV→Bool
 |.ZW | .bool _ | .int .. | .str _ | .ZB | .ZG | .Zw | .Zr=>true
 |.ptr .. | .Za .. | .map _ | .sdp .. => false
 |.Z2 es=>aeP es
 |.Zu _ rows _ _=>ac7 rows
 |.slice tag _ rows=>(match tag with | .own _=>false | _=>true)&&ac7 rows
 |.fn _ x y=>ack x&&ack y
 |.iface _ v=>ux v
 |.agg cs=>ack cs
 |.tuple cs=>ack cs
def aeP:List (AV×AV)→Bool
 |[]=>true
 |e::l=>ux e.1&&ux e.2&&aeP l
def ack:List AV→Bool
 |[]=>true
 |v::l=>ux v&&ack l
def ac7:List (List AV)→Bool
 |[]=>true
 |v::l=>ack v&&ac7 l
end
theorem v7{l:List AV}(h:ack l=true){i:Nat}{v:AV}(hi:l[i]?=some v):ux v=true:=by
 induction l generalizing i with
 |nil=>simp at hi
 |cons x l ih=>
  simp only [ack,amb] at h;cases i with
  |zero=>simp at hi;subst hi;exact h.1
  |succ i=>exact ih h.2 (by simpa using hi)
theorem HL{l:List (List AV)}(h:ac7 l=true){i:Nat}{v:List AV}(hi:l[i]?=some v):ack v=true:=by
 induction l generalizing i with
 |nil=>simp at hi
 |cons x l ih=>
  simp only [ac7,amb] at h;cases i with
  |zero=>simp at hi;subst hi;exact h.1
  |succ i=>exact ih h.2 (by simpa using hi)
theorem J6{l:List (AV×AV)}(h:aeP l=true){i:Nat}{k v:AV}(hi:l[i]?=some (k,v)):ux k=true∧ux v=true:=by
 induction l generalizing i with
 |nil=>simp at hi
 |cons x l ih=>
  simp only [aeP,amb] at h;cases i with
  |zero=>simp at hi;subst hi;exact h.1
  |succ i=>exact ih h.2 (by simpa using hi)
theorem V.pure{K K':aC}(hs:∀ b s,K.shape b=some s→K'.shape b=some s)(hk:∀ b o v,K.ZO b o=some v→K'.ZO b o=some v){v:AV}{x:Value}(h:V K v x)(hp:ux v=true):V K' v x:=by
 induction h with
 |ZW v=>exact .ZW v
 |bool b=>exact .bool b
 |int k n=>exact .int k n
 |str s=>exact .str s
 |ZB=>exact .ZB
 |ptr=>cases hp
 |Zu esz rows i off b o vs hl hi hv ih=>exact .Zu esz rows i off b o vs hl (fun i j r av h1 h2=>hk _ _ _ (hi i j r av h1 h2)) (fun i j r av h1 h2=>ih i j r av h1 h2 (v7 (HL (by simpa [ux] using hp) h1) h2))
 |Zo tag esz a ht=>exact .Zo tag esz a ⟨fun t e=>(by subst e;simp [ux] at hp),ht.2⟩
 |Zk tag esz a cap h=>exact .Zk tag esz a cap h
 |slice tag esz rows b o cap vs hl hi hv hc ht ih=>
  simp only [ux,amb] at hp;refine .slice tag esz rows b o cap vs hl (fun i j r av h1 h2=>hk _ _ _ (hi i j r av h1 h2)) (fun i j r av h1 h2=>ih i j r av h1 h2 (v7 (HL hp.2 h1) h2)) hc ?_;cases tag with
  |any=>trivial
  |some=>trivial
  |nil=>exact ht
  |full=>exact ht
  |own t=>cases hp.1
 |Za=>cases hp
 |ZG=>exact .ZG
 |Z2 es b mes hb hl hk hv ih1 ih2=>
  exact .Z2 es b mes (hs _ _ hb) hl (fun i k v hi=>ih1 i k v hi (J6 (by simpa [ux] using hp) hi).1) (fun i k v hi=>ih2 i k v hi (J6 (by simpa [ux] using hp) hi).2)
 |map=>cases hp
 |aba=>cases hp
 |sdp=>cases hp
 |fn f first captured vs us h1 h2 hv hu ih1 ih2=>
  simp only [ux,amb] at hp;exact .fn f first captured vs us h1 h2 (fun i av hi=>ih1 i av hi (v7 hp.1 hi)) (fun i av hi=>ih2 i av hi (v7 hp.2 hi))
 |Zw=>exact .Zw
 |iface t v x hx ih=>exact .iface t v x (ih (by simpa [ux] using hp))
 |Zr=>exact .Zr
 |agg cs vs h1 hv ih=>exact .agg cs vs h1 (fun i av hi=>ih i av hi (v7 (by simpa [ux] using hp) hi))
 |tuple cs vs h1 hv ih=>exact .tuple cs vs h1 (fun i av hi=>ih i av hi (v7 (by simpa [ux] using hp) hi))
section
variable{P:Program}{K:aC}{H:List Y4}{w:World}
theorem Inv.junk(hi:Inv K H w)(o:Obj):Inv K H (w.alloc o):=by
 have hheap:∀ b,b<w.heap.size→(w.alloc o).heap[b]?=w.heap[b]? := fun b hb=>by rw [heap_alloc,if_neg (by omega)]
 refine ⟨hi.below.alloc hi.base _,fun b h=>hi.base b (by simp at h;omega),fun b off v h => ?_,hi.len,fun id y hy => ?_,hi.inj,fun b t n h => ?_,hi.ZC,fun b s h=>(uv.alloc w _).shp (hi.shape b s h)⟩
 ·rw [mh (hheap b (hi.acz h))];exact hi.ZO _ _ _ h
 ·exact (hi.obj id y hy).mono (.refl K) (fun b _ _ hb=>hheap b hb) (fun _ _ _=>⟨fun _ h=>h,fun h=>h,fun h=>h⟩)
 ·obtain ⟨hb,fr,us,T',lo,hh,h1,h2,h3,h4,h5⟩:=hi.own b t n h
  exact ⟨hb,fr,us,T',lo,hh,h1,by rw [hheap b (amh.1 h2).1];exact h2,h3,h4,h5⟩
theorem Inv.freeze(hi:Inv K H w){b t cap fr n:Nat}{T:TypeId}(ho:K.own b=some (t,cap))(ht:H[t]?=some (.tok fr T))(hn:n≤fr):Inv K H (w.freeze ⟨b,0,none⟩ n):=by
 obtain ⟨hb,fr',us,T',lo,hh,g1,g2,g3,g4,g5⟩:=hi.own b t cap ho;rw [ht] at g1;cases g1
 by_cases h0:n=0
 ·subst h0;simpa [World.freeze] using hi
 have hbl:=(amh.1 g2).1
 obtain ⟨lo2,hh2,hle2,heq⟩:∃ lo2 hh2,hh2≤fr∧(w.freeze ⟨b,0,none⟩ n).heap[b]?=some (.cells us T (lo2,hh2)):=by
  by_cases e:lo=hh
  ·refine ⟨0,0+n,by omega, ?_⟩
   simp only [World.freeze,if_neg h0,ang,g2];simp [e]
  ·refine ⟨min lo 0,max hh (0+n),by omega, ?_⟩
   simp only [World.freeze,if_neg h0,ang,g2];simp [e]
 have hother:∀ b',b'≠b→(w.freeze ⟨b,0,none⟩ n).heap[b']?=w.heap[b']? := fun b' hne=>by
  simp only [World.freeze,if_neg h0,ang];rw [if_neg (fun e=>hne e.symm)]
 have hnobj:∀ (id:Nat) (y:Y4) (b':Nat),H[id]?=some y→y.live=true→K.loc[id]?=some b'→b'≠b:=fun id y b' hy hl hb' e=>by
  subst e;have:=hi.obj id y hy;cases y with
  |dead=>cases hl
  |tok=>cases hl
  |cells cs T0=>
   obtain ⟨b2,vs,T2,h1,h2,h3,h4,h5,h6,h7,h8,h9⟩:=this;rw [hb'] at h1;cases h1;rw [ho] at h7;cases h7
  |aaj s p=>obtain ⟨b2,h1,h2,h3,_⟩:=this;rw [hb'] at h1;cases h1;rw [g2] at h3;cases h3
  |map es=>obtain ⟨b2,me,cl,h1,h2,h3,_⟩:=this;rw [hb'] at h1;cases h1;rw [g2] at h3;cases h3
 refine ⟨hi.below.trans ⟨by simp [World.freeze,if_neg h0],by simp [World.freeze,if_neg h0],by simp [World.freeze,if_neg h0],by simp [World.freeze,if_neg h0],fun k hk=>hother k (fun e=>hk (by rw [e];exact hb))⟩,fun b h=>hi.base b (by simpa [World.freeze,if_neg h0] using h),fun b' o v h => ?_,hi.len,fun id y hy => ?_,hi.inj,fun b' t' n' h => ?_,hi.ZC,fun b' s h => ?_⟩
 ·have hc:=hi.ZO _ _ _ h
  by_cases e:b'=b
  ·subst e
   rw [de heq];rw [de g2] at hc;exact hc
  ·rw [mh (w:=w) (hother b' e)];exact hc
 ·by_cases hl:y.live=true
  ·exact (hi.obj id y hy).mono (.refl K) (fun b' hb' _ _=>hother b' (hnobj id y b' hy hl hb')) (fun _ _ _=>⟨fun _ h=>h,fun h=>h,fun h=>h⟩)
  ·cases y<;>first | exact absurd rfl hl | trivial
 ·obtain ⟨hb',fr',us',T',lo',hh',k1,k2,k3,k4,k5⟩:=hi.own b' t' n' h
  by_cases e:b'=b
  ·subst e
   rw [ho] at h;cases h;rw [ht] at k1;cases k1;rw [g2] at k2;cases k2;exact ⟨hb',fr,us,T,lo2,hh2,ht,heq,k3,hle2,k5⟩
  ·exact ⟨hb',fr',us',T',lo',hh',k1,by rw [hother b' e];exact k2,k3,k4,k5⟩
 ·refine uv.shp (w:=w) ⟨fun b2 vs T2 f h => ?_,fun b2 es c h => ?_,fun b2 o h hf => ?_⟩ (hi.shape b' s h)
  ·by_cases e:b2=b
   ·subst e
    rw [g2] at h;cases h;exact ⟨us,(lo2,hh2),heq,rfl⟩
   ·exact ⟨vs,f,by rw [hother b2 e];exact h,rfl⟩
  ·by_cases e:b2=b
   ·subst e;rw [g2] at h;cases h
   ·rw [hother b2 e];exact h
  ·by_cases e:b2=b
   ·subst e;rw [g2] at h;cases h;cases hf
   ·rw [hother b2 e];exact h
def Cg:List (List AV)→Bool
 |[]=>true
 |[.int .u8 n]::l=>decide (0≤n)&&decide (n<256)&&Cg l
 |_=>false
theorem FZ:∀ {rows:List (List AV)},Cg rows=true→∀ (i:Nat) (n:Int),rows[i]?=some [.int .u8 n]→0≤n∧n<256
 |[],_,i,n,h=>by simp at h
 |r::rows,hb,i,n,h=>by
  unfold Cg at hb;split at hb<;>rename_i he<;>first | (cases he;done) | (cases hb;done) | skip
  rename_i m l;cases he;simp only [amb,ana] at hb;cases i with
  |zero=>simp at h;subst h;exact hb.1
  |succ i=>exact FZ hb.2 i n (by simpa using h)
theorem F0{u:TypeId}{count:Nat}(hc:P.cellsOf u≠0)(h:1≤count):liesAt P P.depth u count 0 u 1=true:=by
 have hd:P.depth=(2*(P.types.size+Made.depth)+1)+1:=rfl;rw [hd];simp only [liesAt,anN];left;rw [hd];simp [rowAt,hc,h,sameLayout]
end
inductive RX where
 |t (n:Nat)
 |c (v:AV)
 deriving Inhabited
def rx(a:Env):RX→AV
 |.t n=>fh a n
 |.c v=>v
inductive CK where
 |bool
 |int (k:IntKind)
 |str
 |agg (fs:List (Nat×CK))
 |bad
 deriving Inhabited
inductive EK where
 |bool
 |ptr
 |fn
 |ifc (c:Bool)
 |st (fs:List (Nat×CK))
 |sl
 |bad
 deriving Inhabited
inductive LK where
 |str
 |sl
 |mp
 deriving Inhabited
inductive ROp where
 |mv (x:RX)
 |pk (c x y:RX)
 |nw (cs:List AV) (e:TypeId)
 |bx (e:TypeId) (x:RX)
 |bd (z:List AV) (pl:List (Nat×Nat)) (ps:List (Nat×RX))
 |bs (sz:Nat) (z:List AV) (len:Nat) (ps:List (Nat×RX))
 |ld (g:Option Nat) (x:RX)
 |st (sz:Nat) (x v:RX)
 |nc (x:RX)
 |ar (op:BinOp) (x y:RX)
 |sh (op:BinOp) (x y:RX)
 |an (x y:RX)
 |eq (neg:Bool) (k:EK) (x y:RX)
 |un (op:UnOp) (x:RX)
 |cvi (k:IntKind) (x:RX)
 |cvs (x:RX)
 |adh (x:RX)
 |aeF (x:RX)
 |mi (t:TypeId) (x:RX)
 |ta (T:TypeId) (z:Option AV) (ok:Bool) (x:RX)
 |mf (f:Fn) (xs ys:List RX)
 |sls (x:RX) (l h:Option RX)
 |sll (sz:Nat) (x:RX) (l h m:Option RX)
 |sla (n sz:Nat) (x:RX) (l h:Option RX)
 |fa (o:Nat) (x:RX)
 |fd (g:Option Nat) (o:Nat) (x:RX)
 |ias (sz:Nat) (x i:RX)
 |iaa (n sz:Nat) (x i:RX)
 |ZX (x i:RX)
 |ixa (n:Nat) (g:Option Nat) (sz:Nat) (x i:RX)
 |ex (x:RX) (i:Nat)
 |mm
 |ms (e:TypeId) (bytes:Nat) (cs:List AV) (l c:RX)
 |mu (k:CK) (m k v:RX)
 |lk (k:CK) (z:Option AV) (ok:Bool) (x k:RX)
 |rg (x:RX)
 |nx (x:RX)
 |len (k:LK) (x:RX)
 |cap (x:RX)
 |ap (m:Bool) (e:TypeId) (sz bytes:Nat) (str:Bool) (s x:RX)
 |cp (sz:Nat) (str:Bool) (d s:RX)
 |mx (x y:RX)
 |mn (x y:RX)
 |nwb (cs:List AV) (e:TypeId) (j:Nat) (T:TypeId)
 |usl (x:RX)
 |ust (e:TypeId) (x n:RX)
 |cvu (x:RX)
 |cvf (u:TypeId) (sz:Nat) (x:RX)
 |cvg (u:TypeId) (us:List TypeId) (sz:Nat) (x:RX)
 |apz (e:TypeId) (sz bytes:Nat) (z:List AV) (s n:RX)
 |cl (sz:Nat) (z:List AV) (x:RX)
 |agv (x:RX)
 |af0 (x:RX)
 |ba (sz:Nat) (z:List AV) (ps:List (Nat×RX))
 |bm (e:TypeId) (sz:Nat) (z:List AV) (len:Nat) (ps:List (Nat×RX))
 deriving Inhabited
def bO(g:Option Nat)(cs:List AV)(off:Nat):Option AV:=
 match g with
 |some n=>if off+n≤cs.length then some (.agg ((cs.drop off).take n)) else none
 |none=>cs[off]?
def qC(g:Option Nat)(H:List Y4):AV→Option AV
 |.ptr id off=>match H[id]? with
  |some (.cells cs _)=>bO g cs off
  |_=>none
 |.Zu _ rows i off=>match rows[i]? with
  |some r=>bO g r off
  |none=>none
 |_=>none
def ES(sz:Nat)(H:List Y4)(x v:AV):Option (List Y4):=
 match x,dM v with
 |.ptr id off,some cs=>match H[id]? with
  |some (.cells old T)=>if cs.length=sz∧off+sz≤old.length∧cs.all AV.cell=true then some (H.set id (.cells (bq old off cs) T)) else none
  |_=>none
 |_,_=>none
def rar(op:BinOp)(x y:AV):Option AV:=
 match x,y with
 |.int k m,.int k' n=>if k=k' then mj op k m n else none
 |.str s,.str u=>nq op s u
 |_,_=>none
def rsh(op:BinOp)(x y:AV):Option AV:=
 match x,y with
 |.int k m,.int _ n=>HB op k m n
 |_,_=>none
def ran(x y:AV):Option AV:=
 match x,y with
 |.int k m,.int k' n=>if k=k' then some (.int k (k.wrap (BitVec.ofInt k.bits m &&& ~~~ BitVec.ofInt k.bits n).toNat)) else none
 |_,_=>none
def xp(k:CK)(x y:AV):Option Bool:=
 match k,x,y with
 |.bool,.bool a,.bool b=>some (a == b)
 |.int _,.int k a,.int k' b=>if k=k' then some (a == b) else none
 |.str,.str a,.str b=>some (a == b)
 |_,_,_=>none
def tW(xs ys:List AV):List (Nat×CK)→Option Bool
 |[]=>some true
 |(o,k)::fs=>
  match xs[o]?,ys[o]? with
  |some x,some y=>match xp k x y with
   |some true=>tW xs ys fs
   |some false=>some false
   |none=>none
  |_,_=>none
def req(k:EK)(x y:AV):Option Bool:=
 match k,x,y with
 |.bool,.bool a,.bool b=>some (a == b)
 |.ptr,.ZB,.ZB=>some true
 |.ptr,.ZB,.ptr _ _=>some false
 |.ptr,.ptr _ _,.ZB=>some false
 |.ptr,.ZB,.Zu .. => some false
 |.ptr,.Zu ..,.ZB=>some false
 |.ptr,.ptr i o,.ptr j p=>if i=j then some (o == p) else none
 |.fn,.Zw,.Zw=>some true
 |.fn,.Zw,.fn .. => some false
 |.fn,.fn ..,.Zw=>some false
 |.ifc c,.Zr,.Zr=>if c then some true else none
 |.ifc _,.Zr,.iface _ _=>some false
 |.ifc _,.iface _ _,.Zr=>some false
 |.st fs,.agg xs,.agg ys=>tW xs ys fs
 |.sl,x,y=>FV x y
 |_,_,_=>none
def rfa(o:Nat)(x:AV):Option AV:=
 match x with
 |.ptr id off=>some (.ptr id (off+o))
 |.Zu esz rows i off=>some (.Zu esz rows i (off+o))
 |_=>none
def rfd(g:Option Nat)(o:Nat)(x:AV):Option AV:=
 match x with
 |.agg cs=>bO g cs o
 |_=>none
def qV(sz:Nat)(x ix:AV):Option AV:=
 match x,ix with
 |.slice _ esz rows,.int _ n=>if sz=esz∧0≤n∧n<rows.length then some (.Zu esz rows n.toNat 0) else none
 |.Za id off len esz _,.int _ n=>if sz=esz∧0≤n∧n<len then some (.ptr id (off+n.toNat*esz)) else none
 |_,_=>none
def Wx(len sz:Nat)(x ix:AV):Option AV:=
 match x,ix with
 |.ptr id off,.int _ n=>if 0≤n∧n<len then some (.ptr id (off+n.toNat*sz)) else none
 |.Zu esz rows i off,.int _ n=>if 0≤n∧n<len then some (.Zu esz rows i (off+n.toNat*sz)) else none
 |_,_=>none
def Mu(x ix:AV):Option AV:=
 match x,ix with
 |.str s,.int _ n=>if 0≤n then (match s[n.toNat]? with | some b=>some (.int .u8 b.toNat) | none=>none) else none
 |_,_=>none
def Wy(len:Nat)(g:Option Nat)(sz:Nat)(x ix:AV):Option AV:=
 match x,ix with
 |.agg cs,.int _ n=>if 0≤n∧n<len then bO g cs (n.toNat*sz) else none
 |_,_=>none
def ET(x:AV)(lo hi:Option AV):Option AV:=
 match x with
 |.str s=>match fX lo 0,fX hi s.length with
  |some l,some h=>if l≤h∧h≤s.length then some (.str ((s.drop l).take (h-l))) else none
  |_,_=>none
 |_=>none
def AN(sz:Nat)(x:AV)(lo hi mx:Option AV):Option AV:=
 match x with
 |.slice tag esz rows=>match fX lo 0,fX hi rows.length,fX mx rows.length with
  |some l,some h,some m=>
   if sz=esz∧l≤h∧h≤m∧m≤rows.length then some (.slice (if rows.isEmpty=true∧tag = .nil∧mx.isNone=true then .nil else if mx.isSome=true∧m=h then .full else .any) esz ((rows.drop l).take (h-l))) else none
  |_,_,_=>none
 |.Za id off len esz room=>match fX lo 0,fX hi len,mx with
  |some l,some h,none=>if sz=esz∧(l<h∨(l=0∧h=0))∧h≤len then some (.Za id (off+l*esz) (h-l) esz room) else if sz=esz∧l=h∧h≤len then some (.slice .any esz []) else none
  |_,_,_=>none
 |_=>none
def Wz(n sz:Nat)(x:AV)(lo hi:Option AV):Option AV:=
 match x with
 |.ptr id off=>match fX lo 0,fX hi n with
  |some l,some h=>if l<h∧h≤n then some (.Za id (off+l*sz) (h-l) sz false) else none
  |_,_=>none
 |_=>none
def Mv(k:IntKind)(x:AV):Option AV:=
 match x with
 |.int _ n=>some (.int k (k.wrap n))
 |_=>none
def RP(x:AV):Option AV:=
 match x with
 |.int _ n=>some (.str (Utf8.encode n).data.toList)
 |.str s=>some (.str s)
 |_=>none
def Mw(H:List Y4)(x:AV):Option AV:=
 match x with
 |.slice _ _ rows=>(rF rows).map .str
 |.Za id off len 1 _=>match H[id]? with
  |some (.cells cs _)=>if off+len≤cs.length then (CT ((cs.drop off).take len)).map .str else none
  |_=>none
 |_=>none
def RQ(x:AV):Option AV:=
 match x with
 |.str s=>some (.slice .any 1 (s.map fun b=>[.int .u8 b.toNat]))
 |_=>none
def Ps(x:AV):Option AV:=
 match x with
 |.str s=>if s.length≤70368744177664 then some (.slice .any 1 ((kb s).map fun n=>[.int .i32 n])) else none
 |_=>none
def Pt(x:AV):Option AV:=
 match x with
 |.slice _ 1 rows=>(K8 rows).map fun ns=>.str (aaz ns)
 |_=>none
def rta(T:TypeId)(z:Option AV)(ok:Bool)(x:AV):Option AV:=
 match x with
 |.iface t v=>if t=T then some (if ok then .tuple [v,.bool true] else v) else if ok then z.map fun z=>.tuple [z,.bool false] else none
 |.Zr=>if ok then z.map fun z=>.tuple [z,.bool false] else none
 |_=>none
def rms(H:List Y4)(e:TypeId)(bytes:Nat)(cs:List AV)(l c:AV):Option (AV×List Y4):=
 match l,c with
 |.int _ l,.int _ c=>if 0≤l∧l≤c∧c.toNat*bytes≤140737488355328∧c≤4611686018427387904 then
   some (.Za H.length 0 l.toNat cs.length true,H++[.cells (List.replicate c.toNat cs).flatten e])
  else none
 |_,_=>none
def F5(k:CK)(v:AV):Bool:=
 match k,v with
 |.int k,.int k' _=>k'=k
 |.str,.str _=>true
 |.bool,.bool _=>true
 |_,_=>false
def CW(xs:List AV)(f:Nat×CK):Bool:=
 match xs[f.1]? with
 |some x=>(xp f.2 x x).isSome
 |none=>false
def N4(fs:List (Nat×CK))(xs ys:List AV):Option Bool:=
 match tW xs ys fs with
 |some true=>if DD ys xs=true then some true else none
 |r=>r
def Li(fs:List (Nat×CK))(xs:List AV):List (AV×AV)→Nat→Option (Option (Nat×AV))
 |[],_=>some none
 |e::es,i=>match e.1 with
  |.agg ys=>match N4 fs xs ys with
   |some true=>some (some (i,e.2))
   |some false=>Li fs xs es (i+1)
   |none=>none
  |_=>none
def HM(k:CK)(kv:AV)(es:List (AV×AV)):Option (Option (Nat×AV)):=
 if F5 k kv=true then pS kv es 0
 else match k,kv with
  |.agg fs,.agg xs=>if fs.all (CW xs)=true then Li fs xs es 0 else none
  |_,_=>none
def rlk (H:List Y4) (k:CK) (z:Option AV) (ok:Bool) (x kv:AV):Option AV:=
    match CV H x with
    |some es=>match HM k kv es with
     |some (some (_,v))=>some (if ok then .tuple [v,.bool true] else v)
     |some none=>z.map fun z=>if ok then .tuple [z,.bool false] else z
     |none=>none
    |none=>none
def rmu(H:List Y4)(kk:CK)(m k v:AV):Option (List Y4):=
 match m with
 |.map id=>
   match H[id]? with
   |some (.map es)=>match HM kk k es with
    |some (some (i,_))=>some (H.set id (.map (es.set i (k,v))))
    |some none=>some (H.set id (.map (es++[(k,v)])))
    |none=>none
   |_=>none
 |_=>none
def rrg(H:List Y4)(x:AV):Option (AV×List Y4):=
 match x with
 |.str s=>some (.ptr H.length 0,H++[.aaj s 0])
 |_=>none
def CX(H:List Y4)(k:LK)(x:AV):Option AV:=
 match k,x with
 |.str,.str s=>some (.int .i64 s.length)
 |.sl,.slice _ _ rows=>some (.int .i64 rows.length)
 |.sl,.Za _ _ len _ _=>some (.int .i64 len)
 |.mp,.ZG=>some (.int .i64 0)
 |.mp,.map id=>match H[id]? with
  |some (.map es)=>some (.int .i64 es.length)
  |_=>none
 |_,_=>none
def RR(x:AV):Option AV:=
 match x with
 |.slice .full _ rows=>some (.int .i64 rows.length)
 |.slice .nil _ rows=>some (.int .i64 rows.length)
 |_=>none
def xJ(H:List Y4)(sz:Nat)(str:Bool)(x:AV):Option (List (List AV)):=
 match str,x with
 |false,.slice _ esz rows=>if rows=[]∨esz=sz then some rows else none
 |true,.str s=>if sz=1 then some (s.map fun b=>[.int .u8 b.toNat]) else none
 |false,.Za id off len esz _=>match H[id]? with
  |some (.cells cs _)=>if esz=sz∧off+len*esz≤cs.length then some (iT esz len (cs.drop off)) else none
  |_=>none
 |_,_=>none
def sg(sz:Nat)(new:List (List AV)):Bool:=new.all (fun r=>r.length == sz&&r.all AV.cell)
def yq(H:List Y4)(e:TypeId)(sz bytes:Nat)(str:Bool)(s x:AV):Option (AV×List Y4):=
 match xJ H sz str x with
 |some new=>match s with
  |.slice tag esz rows=>
   if (rows=[]∨esz=sz)∧(rows.length+new.length)*bytes≤140737488355328∧rows.length+new.length≤4611686018427387904∧sg sz new=true then
    match new with
    |[]=>some (s,H)
    |_::_=>match tag with
     |.any=>none
     |.some=>none
     |.full=>some (.slice (.own H.length) sz (rows++new.map (·.map AV.strip)),H++[.tok ((rows.length+new.length)*sz) e])
     |.nil=>some (.slice (.own H.length) sz (rows++new.map (·.map AV.strip)),H++[.tok ((rows.length+new.length)*sz) e])
     |.own t=>match H[t]? with
      |some (.tok fr T)=>if fr=rows.length*sz∧esz=sz∧T=e then some (.slice (.own t) sz (rows++new.map (·.map AV.strip)),H.set t (.tok (fr+new.length*sz) T)) else none
      |_=>none
   else none
  |_=>none
 |none=>none
def DL(H:List Y4)(e:TypeId)(sz bytes:Nat)(str:Bool)(s x:AV):Option (AV×List Y4):=
 match xJ H sz str x with
 |some new=>
  if sg sz new=true then
   match s with
   |.slice .full esz rows=>
    if (rows=[]∨esz=sz)∧(rows.length+new.length)*bytes≤140737488355328∧rows.length+new.length≤4611686018427387904∧new≠[] then
     some (.Za H.length 0 (rows.length+new.length) sz true,H++[.cells (rows++new).flatten e])
    else if new=[] then some (s,H) else none
   |.Za id 0 len esz true=>match H[id]? with
    |some (.cells cs T)=>
     if esz=sz∧T=e∧len*esz≤cs.length∧(len+new.length)*bytes≤140737488355328∧len+new.length≤4611686018427387904 then
      some (.Za H.length 0 (len+new.length) esz true,H.set id .dead++[.cells (cs.take (len*esz)++new.flatten) e])
     else none
    |_=>none
   |_=>none
  else none
 |none=>none
def rcp(H:List Y4)(sz:Nat)(str:Bool)(d s:AV):Option (AV×List Y4):=
 match d,xJ H sz str s with
 |.Za id off len esz _,some rows=>match H[id]? with
  |some (.cells cs T)=>
   if esz=sz∧off+len*esz≤cs.length∧rows.length≤len∧sg sz rows=true then
    some (.int .i64 rows.length,H.set id (.cells (bq cs off rows.flatten) T))
   else none
  |_=>none
 |_,_=>none
def rap(m:Bool)(H:List Y4)(e:TypeId)(sz bytes:Nat)(str:Bool)(s x:AV):Option (AV×List Y4):=
 match m,s with
 |false,.Za id 0 0 esz true=>match H[id]? with
  |some (.cells _ T)=>yq (H.set id (.tok 0 T)) e sz bytes str (.slice (.own id) esz []) x
  |_=>none
 |_,.Za .. => DL H e sz bytes str s x
 |true,.slice .full _ _=>DL H e sz bytes str s x
 |true,.slice .nil esz rows=>DL H e sz bytes str (.slice .full esz rows) x
 |_,_=>yq H e sz bytes str s x
def cf(H:List Y4)(x:Option AV):Option (AV×List Y4):=
 match x with
 |some v=>some (v,H)
 |none=>none
def DM(x:Option (List Y4)):Option (AV×List Y4):=
 match x with
 |some H=>some (jY,H)
 |none=>none
def Qr(x:AV):Option AV:=
 match x with
 |.slice (.own t) 1 rows=>if Ho rows=true then some (.sdp t rows) else none
 |.slice .nil _ []=>some (.sdp 0 [])
 |_=>none
def N5(H:List Y4)(e:TypeId)(x n:AV):Option AV:=
 match x,n with
 |.sdp _ [],.int .i64 n=>if n=0 then some (.str []) else none
 |.sdp t (r::rows),.int .i64 n=>match H[t]?,rF (r::rows) with
  |some (.tok fr T),some bs=>if T=e∧n=bs.length∧bs.length≤fr∧bs.length≤9223372036854775807∧Cg (r::rows)=true then some (.str bs) else none
  |_,_=>none
 |_,_=>none
def RT(H:List Y4)(x:AV):Option AV:=
 match x with
 |.ptr id off=>match H[id]? with
  |some (.cells cs _)=>if off<cs.length then some (.ptr id off) else none
  |_=>none
 |_=>none
def WA(H:List Y4)(u:TypeId)(sz:Nat)(x:AV):Option AV:=
 match x with
 |.ptr id 0=>match H[id]? with
  |some (.cells cs T)=>if T=u∧sz≤cs.length then some (.ptr id 0) else none
  |_=>none
 |_=>none
def RU(H:List Y4)(u:TypeId)(us:List TypeId)(sz:Nat)(x:AV):Option AV:=
 match x with
 |.ptr id 0=>match H[id]? with
  |some (.cells cs T)=>if (Nat.beq T u||us.any (Nat.beq T))=true∧sz≤cs.length then some (.ptr id 0) else none
  |_=>none
 |_=>none
def RV(H:List Y4)(e:TypeId)(sz bytes:Nat)(z:List AV)(s n:AV):Option (AV×List Y4):=
 match s,n with
 |.slice .nil esz [],.int .i64 n=>
  if n=0 then some (.slice .nil esz [],H)
  else if 0<n∧n.toNat*bytes≤140737488355328∧n≤4611686018427387904 then some (.Za H.length 0 n.toNat sz true,H++[.cells (List.replicate n.toNat z).flatten e])
  else none
 |_,_=>none
def rcl(H:List Y4)(sz:Nat)(z:List AV)(x:AV):Option (List Y4):=
 match x with
 |.slice _ _ []=>some H
 |.Za id off len esz _=>match H[id]? with
  |some (.cells cs T)=>if esz=sz∧off+len*esz≤cs.length then some (H.set id (.cells (bq cs off (List.replicate len z).flatten) T)) else none
  |_=>none
 |_=>none
def rbm(H:List Y4)(e:TypeId)(sz len:Nat)(cs:Option (List AV)):Option (AV×List Y4):=
 match cs with
 |some cs=>some (.Za H.length 0 len sz true,H++[.cells cs e])
 |none=>none
def Z1(a:Env)(H:List Y4):ROp→Option (AV×List Y4)
 |.mv x=>some (rx a x,H)
 |.pk c x y=>match rx a c with
  |.bool b=>some (if b then rx a x else rx a y,H)
  |_=>none
 |.nw cs e=>some (.ptr H.length 0,H++[.cells cs e])
 |.bx e x=>match dM (rx a x) with
  |some cs=>some (.ptr H.length 0,H++[.cells cs e])
  |none=>none
 |.bd z pl ps=>cf H ((lC (pl[·]?) z (ps.map fun p=>(p.1,rx a p.2))).map .agg)
 |.bs sz z len ps=>cf H ((lC (fun i=>some (i*sz,sz)) (Bg len z) (ps.map fun p=>(p.1,rx a p.2))).map fun cs=>.slice .full sz (yl sz len (cs.map AV.strip)))
 |.ld g x=>cf H (qC g H (rx a x))
 |.st sz x v=>DM (ES sz H (rx a x) (rx a v))
 |.nc x=>match rx a x with
  |.ptr i o=>some (.ptr i o,H)
  |.Zu e r i o=>some (.Zu e r i o,H)
  |.fn (.func f) x y=>some (.fn (.func f) x y,H)
  |_=>none
 |.ar op x y=>cf H (rar op (rx a x) (rx a y))
 |.sh op x y=>cf H (rsh op (rx a x) (rx a y))
 |.an x y=>cf H (ran (rx a x) (rx a y))
 |.eq neg k x y=>cf H ((req k (rx a x) (rx a y)).map fun b=>.bool (if neg then !b else b))
 |.un op x=>cf H (J2 op (rx a x))
 |.cvi k x=>cf H (Mv k (rx a x))
 |.cvs x=>cf H (RP (rx a x))
 |.adh x=>cf H (Mw H (rx a x))
 |.aeF x=>cf H (RQ (rx a x))
 |.mi t x=>some (.iface t (rx a x),H)
 |.ta T z ok x=>cf H (rta T z ok (rx a x))
 |.mf f xs ys=>some (.fn f (xs.map (rx a)) (ys.map (rx a)),H)
 |.sls x l h=>cf H (ET (rx a x) (l.map (rx a)) (h.map (rx a)))
 |.sll sz x l h m=>cf H (AN sz (rx a x) (l.map (rx a)) (h.map (rx a)) (m.map (rx a)))
 |.sla n sz x l h=>cf H (Wz n sz (rx a x) (l.map (rx a)) (h.map (rx a)))
 |.fa o x=>cf H (rfa o (rx a x))
 |.fd g o x=>cf H (rfd g o (rx a x))
 |.ias sz x i=>cf H (qV sz (rx a x) (rx a i))
 |.iaa n sz x i=>cf H (Wx n sz (rx a x) (rx a i))
 |.ZX x i=>cf H (Mu (rx a x) (rx a i))
 |.ixa n g sz x i=>cf H (Wy n g sz (rx a x) (rx a i))
 |.ex x i=>cf H (uw (rx a x) i)
 |.mm=>some (.map H.length,H++[.map []])
 |.ms e bytes cs l c=>rms H e bytes cs (rx a l) (rx a c)
 |.mu kk m k v=>DM (rmu H kk (rx a m) (rx a k) (rx a v))
 |.lk kk z ok x k=>cf H (rlk H kk z ok (rx a x) (rx a k))
 |.rg x=>rrg H (rx a x)
 |.nx x=>Ms H (rx a x)
 |.len k x=>cf H (CX H k (rx a x))
 |.cap x=>cf H (RR (rx a x))
 |.ap m e sz bytes str s x=>rap m H e sz bytes str (rx a s) (rx a x)
 |.cp sz str d s=>rcp H sz str (rx a d) (rx a s)
 |.mx x y=>cf H (Mm (rx a x) (rx a y))
 |.mn x y=>cf H (DA (rx a x) (rx a y))
 |.nwb cs e j T=>some (.ptr (H.length+1) 0,H++[.tok 0 T,.cells (cs.set j (.slice (.own H.length) 1 [])) e])
 |.usl x=>cf H (Qr (rx a x))
 |.ust e x n=>cf H (N5 H e (rx a x) (rx a n))
 |.cvu x=>cf H (RT H (rx a x))
 |.cvf u sz x=>cf H (WA H u sz (rx a x))
 |.cvg u us sz x=>cf H (RU H u us sz (rx a x))
 |.apz e sz bytes z s n=>RV H e sz bytes z (rx a s) (rx a n)
 |.cl sz z x=>DM (rcl H sz z (rx a x))
 |.agv x=>cf H (Ps (rx a x))
 |.af0 x=>cf H (Pt (rx a x))
 |.ba sz z ps=>cf H ((lC (fun i=>some (i*sz,sz)) z (ps.map fun p=>(p.1,rx a p.2))).map .agg)
 |.bm e sz z len ps=>rbm H e sz len (lC (fun i=>some (i*sz,sz)) (Bg len z) (ps.map fun p=>(p.1,rx a p.2)))
section
variable{P:Program}{K:aC}{H:List Y4}{w:World}
theorem HN{z:Value}{cs:List AV}{size:Nat}(hcs:dM (lH z)=some cs)(h5:cs.length=size)(n:Nat):rl K size (List.replicate n cs) (Builtin.zeroCells z.cells n).toList:=by
 have hvs:Vs K cs z.cells:=(ri K z).cells hcs;have hzs:z.cells.size=size:=by rw [← hvs.size];exact h5
 refine ⟨fun r hr=>by rw [(an2.1 hr).2];exact h5,by simp [size_zeroCells,hzs],fun i j r av h1 h2 => ?_⟩;obtain rfl:r=cs:=(an2.1 (aml h1)).2;have hj:j<size:=by rw [← h5];exact (al3.1 h2).1
 have hi:i<n:=by have:=(al3.1 h1).1;simpa using this
 obtain ⟨x,x1,x2⟩:=hvs.get h2
 have hlt:i*size+j<n*size:=by
  have:(i+1)*size≤n*size:=amR _ hi
  rw [amT] at this;omega
 refine ⟨x, ?_,x2⟩;simp only [Builtin.zeroCells,hzs,Array.toList_map,amK,an3,ao5,hlt,if_true,amO];rw [aob,aoW,aoy hj,getElem!_def,x1]
theorem N6(hi:Inv K H w){t u e:TypeId}{k:IntKind}{i:TypeInfo}{zv:Value}{z:List AV}(ht:P.underlying t=some (.slice e))(hu:P.underlying u=some (.int k))(hinfo:P.info? e=some i)
  (hz:i.zero=some zv) (hcs:dM (lH zv)=some z) (h5:z.length=i.size) {s x v:AV}{cs cx:Value}{H':List Y4} (hs:V K s cs) (hx:V K x cx) (h:RV H e i.size i.bytes z s x=some (v,H')) (ty:TypeId) :
  ∃ K' cv w',K.le K'∧(Builtin.append_ #[t,u] ty #[cs,cx]).run P w = .ok cv w'∧V K' v cv∧Inv K' H' w':=by
 unfold RV at h;split at h<;>try (cases h;done)
 rename_i esz n
 obtain rfl:cs = .slice none 0 0:=by
  cases hs with
  |Zk _ _ _ _ e=>simp at e
  |Zo _ _ a ha=>rw [ha.2.1 rfl]
  |slice _ _ _ b o cap vs hl him hv hcap ht=>exact (ht:False).elim
 cases hx;split at h
 ·rename_i h0
  subst h0;cases h;refine ⟨K,.slice none 0 0,w,.refl K, ?_,.Zo _ _ _ ⟨fun _ e=>(by cases e),fun _=>rfl,fun e=>(by cases e)⟩,hi⟩;have w0:IntKind.i64.wrap 0=0:=by decide
  simp [Builtin.append_,Y5 ht,Y5 hu,sizeOf,typeInfo,hinfo,asInt,asIntOf,w0]
 ·split at h
  ·rename_i hc
   obtain ⟨h1,h2,h3⟩:=hc;cases h;obtain ⟨m,rfl⟩:∃ m:Nat,n=(m:Int):=⟨n.toNat,by omega⟩
   simp only [apm] at h2;have w0:IntKind.i64.wrap (m:Int)=m:=IntWalk.i64_in _ ⟨by omega,by omega⟩;have hm:0<m:=by omega
   have hf:=HN (K:=K) hcs h5 m;obtain ⟨hfl,hfc⟩:=hf.cells;have hvs:Vs K z zv.cells:=(ri K zv).cells hcs;have hzs:zv.cells.size=i.size:=by rw [← hvs.size];exact h5
   have hns:Builtin.nextslicecap m 0=m:=by unfold Builtin.nextslicecap;simp;omega
   have hg:(Builtin.append_ #[t,u] ty #[.slice none 0 0,.int .i64 m]).run P w = .ok (.slice (some ⟨w.heap.size,0,none⟩) m (grownCap w m 0 e)) (w.drew.alloc (.cells (Builtin.zeroCells zv.cells m++Builtin.zeroCells zv.cells (grownCap w m 0 e-m)) e)):=by
    have e1:¬ (281474976710656<m*i.bytes):=by omega
    have e2:¬ (281474976710656<(m:Int)*(i.bytes:Int)):=by omega
    have e3:¬ (9223372036854775807<(m:Int)):=by omega
    have e4:¬ ((m:Int)<0):=by omega
    by_cases hsz:i.size=0
    ·have:Builtin.zeroCells zv.cells m = #[]:=by apply Array.eq_empty_of_size_eq_zero;simp [size_zeroCells,hzs,hsz]
     simp [Builtin.append_,Y5 ht,Y5 hu,sizeOf,typeInfo,zeroValue,hinfo,hz,asInt,asIntOf,w0,e1,e2,e3,e4,hns,Question.forced,newRow,grownCap,Builtin.firstCells,hsz,this,Nat.ne_of_gt hm]
    ·simp [Builtin.append_,Y5 ht,Y5 hu,sizeOf,typeInfo,zeroValue,hinfo,hz,asInt,asIntOf,w0,e1,e2,e3,e4,hns,Question.forced,newRow,grownCap,Builtin.firstCells,hsz,Nat.ne_of_gt hm]
     intro h;rcases Nat.mul_eq_zero.1 h with h | h<;>omega
   generalize hC:grownCap w m 0 e=C at hg;have hC2:m≤C:=by rw [← hC];have:=sK w m 0 e;exact this
   have hsz2:(Builtin.zeroCells zv.cells m++Builtin.zeroCells zv.cells (C-m)).size=C*i.size:=by
    rw [aos,size_zeroCells,size_zeroCells,hzs,← amT];congr 1;omega
   have hgetm:∀ k,k<m*i.size→(Builtin.zeroCells zv.cells m++Builtin.zeroCells zv.cells (C-m))[k]?=(Builtin.zeroCells zv.cells m)[k]? := fun k hk=>by
    rw [ans (by rw [size_zeroCells,hzs];exact hk)]
   generalize hvs2:Builtin.zeroCells zv.cells m++Builtin.zeroCells zv.cells (C-m)=vs at hg hsz2 hgetm;have hi2:=hi.drew;have hflat:(List.replicate m z).flatten.length=m*i.size:=by rw [hfl];simp [size_zeroCells,hzs]
   have hal:=hi2.aaU (.cells (List.replicate m z).flatten e) (.cells vs e) rfl (some (.rows vs.size)) (fun s h=>by cases h;exact ⟨vs,e,(0,0),by rw [heap_alloc,if_pos rfl],rfl⟩) fun w' hw' g1 g2=>
    ⟨w.drew.heap.size,vs,e,by simp [aC.ZJ],hi2.new,hw',by rw [hflat,hsz2];exact amR _ hC2,fun k av hk=>by
     obtain ⟨v,e1,e2⟩:=hfc k av hk;have hkl:k<m*i.size:=by rw [← hflat];exact (al3.1 hk).1
     have:vs[k]?=some v:=by rw [hgetm k hkl];simpa using e1
     rw [pF this];exact e2.mono (K.aal _ _ hi2.ZZ),g1,g2,by simp [aC.ZJ],rfl⟩
   refine ⟨K.ZJ w.drew.heap.size (some (.rows vs.size)),_,_,K.aal _ _ hi2.ZZ,hg, ?_,by simpa using hal⟩;refine .Za _ _ _ _ _ _ _ (by simp [aC.ZJ,← hi.len]) (by omega) (fun _=>⟨vs.size,by simp [aC.ZJ],by rw [hsz2];omega⟩)
  ·cases h
theorem Qs(hi:Inv K H w){t e:TypeId}{i:TypeInfo}{zv:Value}{z:List AV}(ht:P.underlying t=some (.slice e))(hinfo:P.info? e=some i)
  (hz:i.zero=some zv) (hcs:dM (lH zv)=some z) (h5:z.length=i.size) (hzc:z.all AV.cell=true) {x:AV}{cx:Value}{H':List Y4} (hx:V K x cx) (h:rcl H i.size z x=some H') (ty:TypeId) :
  ∃ w',(Builtin.clear_ #[t] ty #[cx]).run P w = .ok (.tuple #[]) w'∧Inv K H' w':=by
 unfold rcl at h;split at h
 ·cases h
  refine ⟨w, ?_,hi⟩;cases hx with
  |Zo=>cases ‹Option Addr› <;> simp [Builtin.clear_,Y5 ht]
  |Zk _ _ a cap _=>cases a<;>simp [Builtin.clear_,Y5 ht]
  |slice=>simp [Builtin.clear_,Y5 ht]
 ·rename_i id off len esz room
  split at h<;>try (cases h;done)
  rename_i old T hold;split at h<;>try (cases h;done)
  rename_i hc;obtain ⟨rfl,h1⟩:=hc;cases h;cases hx with
  |Za _ _ _ _ _ b cap hb hcap hro=>
  have hf:=HN (K:=K) hcs h5 len;obtain ⟨hfl,hfc⟩:=hf.cells;obtain ⟨b',vs,T',g1,g2,g3,g4,g5,g6,g7,g8⟩:=hi.obj id _ hold;rw [hb] at g1;cases g1;have hflat:(List.replicate len z).flatten.length=len*i.size:=by rw [ao8];simp [h5]
  cases len with
  |zero=>
   refine ⟨w, ?_, ?_⟩
   ·simp [Builtin.clear_,Y5 ht]
   ·simp only [List.replicate_zero,List.flatten_nil,bq]
    rw [Hu hold];exact hi
  |succ len=>
   have hst:=run_storeCells_cells (P:=P) b off (Builtin.zeroCells zv.cells (len+1)).toList 0 w (fun j hj=>by
    rw [ann,de g3]
    have:j<(len+1)*i.size:=by rw [← hflat,hfl];exact hj
    have h2:off+j<vs.size:=by omega
    simp [h2]) (fun j hj=>by simp [World.frozen?,g3]) (hf.one fun r hr=>by rw [(an2.1 hr).2];exact hzc)
   refine ⟨w.setCells b off (Builtin.zeroCells zv.cells (len+1)).toList, ?_, ?_⟩
   ·simp only [ann] at hst
    simp [Builtin.clear_,Y5 ht,zeroValue,typeInfo,hinfo,hz,hst]
   ·refine Inv.adH hb _ _ off H w old T hi hold hfl (by rw [hflat];exact h1) hfc
 ·cases h
end
section
variable(P:Program)(G:Nat→Option (List AV))
def Pu(t:TypeId)(v:AV):AV:=
 match v with
 |.slice .nil 0 []=>match P.underlying t with
  |some (.slice e)=>.slice .nil ((iX P e).getD 0) []
  |_=>v
 |_=>v
def sN:List TypeId→List AV→List AV
 |_,[]=>[]
 |[],v::l=>v::sN [] l
 |t::ts,v::l=>Pu P t v::sN ts l
def DN:Nat→TypeId→List TypeId
 |0,t=>[t]
 |n+1,t=>match P.underlying t with
  |some (.struct fields)=>(fields.toList.map fun f=>DN n f.type).flatten
  |some (.array k e)=>(List.replicate k (DN n e)).flatten
  |_=>[t]
def Lj(t:TypeId):Option (List AV):=(AE P t).map (sN P (DN P 20 t))
def ZQ:Operand→RX
 |.tmp n=>.t n
 |.const v=>.c (lH v)
 |.global g=>.c (match G g with
  |some cs=>.Zu cs.length [cs] 0 0
  |none=>.ZW)
 |.func f=>.c (.fn (.func f) [] [])
def cx(t:TypeId)(x:Operand):RX:=
 match ZQ G x with
 |.c v=>.c (Pu P t v)
 |r=>r
def N7(t:TypeId):Option (Option Nat):=
 match Mg P t,iX P t with
 |some true,some n=>some (some n)
 |some false,some _=>some none
 |_,_=>none
def cck(t:TypeId):CK:=
 match P.underlying t with
 |some .bool=>.bool
 |some (.int k)=>.int k
 |some .string=>.str
 |_=>.bad
def Lk(u T:TypeId):Bool:=
 match P.underlying T with
 |some (.struct fs) => !P.stoodInHeld T&&Nat.beq (P.cellsOf T) (P.cellsOf u)&&(match fs[0]? with | some f=>Nat.beq f.type u&&Nat.beq f.offset 0 | none=>false)
 |_=>false
def aa8(u:TypeId):List TypeId:=(List.range P.types.size).filter (Lk P u)
def ckk(t:TypeId):CK:=
 match P.underlying t with
 |some (.struct fs)=>if P.stoodInHeld t=false then .agg (fs.toList.map fun f=>(f.offset,if f.name = "_" then .bad else cck P f.type)) else .bad
 |_=>cck P t
def cek(t:TypeId)(c:Bool):EK:=
 match P.underlying t with
 |some .bool=>.bool
 |some (.pointer e)=>match iX P e with
  |some (_+1)=>.ptr
  |_=>.bad
 |some (.func ..)=>.fn
 |some (.interface _)=>.ifc c
 |some (.struct fields)=>if P.eqGuardType P.depth t=false∧P.stoodInHeld t=false then .st (fields.toList.map fun f=>(f.offset,if f.name = "_" then .bad else cck P f.type)) else .bad
 |some (.slice _)=>.sl
 |_=>.bad
def X8(e:TypeId):Option (Nat×TypeId):=
 match P.info? e with
 |some i=>if i.str == "strings.Builder" then (match (DN P 20 e)[1]? with
   |some t=>match P.underlying t with
    |some (.slice b)=>some (1,b)
    |_=>none
   |none=>none)
  else match P.underlying e with
   |some (.struct fields)=>(fields.toList.findSome? fun f=>match P.info? f.type with
    |some j=>if j.str == "strings.Builder" then (match (DN P 20 f.type)[1]? with
      |some t=>match P.underlying t with
       |some (.slice b)=>some (f.offset+1,b)
       |_=>none
      |none=>none) else none
    |none=>none)
   |_=>none
 |none=>none
def Wd(P:Program)(e:TypeId):Bool:=
 match P.underlying e with
 |some (.slice _)=>true
 |_=>false
def cOp(m:Bool)(ty:TypeId)(op:Op):Option ROp:=
 match op with
 |.move x=>some (.mv (cx P G ty x))
 |.assign x=>some (.mv (cx P G ty x))
 |.pick c x y=>some (.pk (ZQ G c) (cx P G ty x) (cx P G ty y))
 |.alloc e=>match Lj P e with
  |some cs=>match X8 P e with
   |some (j,T)=>if m=true then some (.nw cs e) else if cs[j]? matches some (.slice .nil _ []) then some (.nwb cs e j T) else some (.nw cs e)
   |none=>some (.nw cs e)
  |none=>none
 |.box e x=>some (.bx e (cx P G e x))
 |.build t ps=>match Lj P t,K5 P t,P.underlying t with
  |some z,some pl,some (.struct fields)=>some (.bd z pl.toList (ps.toList.map fun p=>(p.1,match fields[p.1]? with | some f=>cx P G f.type p.2 | none=>ZQ G p.2)))
  |some z,none,some (.array _ e)=>match iX P e with
   |some sz=>some (.ba sz z (ps.toList.map fun p=>(p.1,cx P G e p.2)))
   |none=>none
  |_,_,_=>none
 |.buildSlice t l ps=>match P.underlying t with
  |some (.slice e)=>match iX P e,AE P e with
   |some sz,some z=>if l*sz≤16777216∧z.length=sz then some (if (m&&Wd P e)=true then .bm e sz z l (ps.toList.map fun p=>(p.1,cx P G e p.2)) else .bs sz z l (ps.toList.map fun p=>(p.1,cx P G e p.2))) else none
   |_,_=>none
  |_=>none
 |.load t x=>match N7 P t with
  |some g=>some (.ld g (ZQ G x))
  |none=>none
 |.store t x v=>match iX P t with
  |some n=>some (.st n (ZQ G x) (cx P G t v))
  |none=>none
 |.nilCheck x=>some (.nc (ZQ G x))
 |.binOp op t x y _=>match op with
  |.shl | .shr=>some (.sh op (ZQ G x) (ZQ G y))
  |.andNot=>some (.an (ZQ G x) (ZQ G y))
  |_=>match P.underlying t with
   |some (.int _) | some .string=>some (.ar op (ZQ G x) (ZQ G y))
   |_=>match op with
    |.eql=>some (.eq false (cek P t (mB x||mB y)) (ZQ G x) (ZQ G y))
    |.neq=>some (.eq true (cek P t (mB x||mB y)) (ZQ G x) (ZQ G y))
    |_=>none
 |.unOp op _ x=>some (.un op (ZQ G x))
 |.convert s d x=>match P.underlying s,P.underlying d with
  |some (.slice e),some .string=>match P.underlying e with
   |some (.int .u8)=>some (.adh (ZQ G x))
   |some (.int .i32)=>some (.af0 (ZQ G x))
   |_=>none
  |some .string,some (.slice e)=>match P.underlying e with
   |some (.int .u8)=>some (.aeF (ZQ G x))
   |some (.int .i32)=>some (.agv (ZQ G x))
   |_=>none
  |some (.slice _),_=>none
  |some _,some (.int k)=>some (.cvi k (ZQ G x))
  |some _,some .string=>some (.cvs (ZQ G x))
  |some (.pointer t),some .unsafePointer=>match P.info? t with
   |some j=>if j.size=0 then none else some (.cvu (ZQ G x))
   |none=>none
  |some .unsafePointer,some (.pointer u)=>match P.info? u with
   |some j=>if j.size=0∨P.cellsOf u=0 then none else (match aa8 P u with
    |[]=>some (.cvf u (P.cellsOf u) (ZQ G x))
    |us=>some (.cvg u us (P.cellsOf u) (ZQ G x)))
   |none=>none
  |_,_=>none
 |.makeInterface t x=>match P.underlying t with
  |some (.interface _)=>none
  |some _=>some (.mi t (cx P G t x))
  |none=>none
 |.makeFunc f x y=>some (.mf f (x.toList.map (ZQ G)) (y.toList.map (ZQ G)))
 |.slice t x l h m=>if m.isNone=true∨h.isSome=true then
   match P.underlying t with
   |some .string=>if m.isNone=true then some (.sls (ZQ G x) (l.map (ZQ G)) (h.map (ZQ G))) else none
   |some (.slice e)=>match iX P e with
    |some sz=>some (.sll sz (cx P G t x) (l.map (ZQ G)) (h.map (ZQ G)) (m.map (ZQ G)))
    |none=>none
   |some (.array n e)=>if m.isNone=true then (match iX P e with
    |some sz=>some (.sla n sz (ZQ G x) (l.map (ZQ G)) (h.map (ZQ G)))
    |none=>none) else none
   |_=>none
  else none
 |.fieldAddr s x f=>match EJ P s f with
  |some (t,o)=>match iX P t with
   |some (_+1)=>some (.fa o (ZQ G x))
   |_=>none
  |none=>none
 |.field s x f=>match EJ P s f with
  |some (t,o)=>match N7 P t with
   |some g=>some (.fd g o (ZQ G x))
   |none=>none
  |none=>none
 |.indexAddr t x i=>match P.underlying t with
  |some (.slice e)=>match iX P e with
   |some sz=>some (.ias sz (ZQ G x) (ZQ G i))
   |none=>none
  |some (.array n e)=>match iX P e with
   |some sz=>some (.iaa n sz (ZQ G x) (ZQ G i))
   |none=>none
  |_=>none
 |.index t x i=>match P.underlying t with
  |some .string=>some (.ZX (ZQ G x) (ZQ G i))
  |some (.array n e)=>match iX P e,N7 P e with
   |some sz,some g=>some (.ixa n g sz (ZQ G x) (ZQ G i))
   |_,_=>none
  |_=>none
 |.extract x i=>some (.ex (ZQ G x) i)
 |.typeAssert x _ T ok=>match P.underlying T with
  |some (.interface _)=>none
  |some _=>some (.ta T (match P.info? T with | some i=>i.zero.map lH | none=>none) ok (ZQ G x))
  |none=>none
 |.makeMap _ none=>some .mm
 |.makeSlice t l c=>match P.underlying t with
  |some (.slice e)=>match P.info? e,AE P e with
   |some i,some cs=>if cs.length=i.size then some (.ms e i.bytes cs (ZQ G l) (ZQ G c)) else none
   |_,_=>none
  |_=>none
 |.insert t m k v=>match P.underlying t with
  |some (.map kt et)=>some (.mu (ckk P kt) (ZQ G m) (ZQ G k) (cx P G et v))
  |_=>none
 |.mapUpdate t m k v=>match P.underlying t with
  |some (.map kt et)=>some (.mu (ckk P kt) (ZQ G m) (ZQ G k) (cx P G et v))
  |_=>none
 |.lookup t x k ok=>match P.underlying t with
  |some (.map kt et)=>some (.lk (ckk P kt) (match P.info? et with | some i=>i.zero.map lH | none=>none) ok (ZQ G x) (ZQ G k))
  |_=>none
 |.range t x=>match P.underlying t with
  |some .string=>some (.rg (ZQ G x))
  |_=>none
 |.next x true=>some (.nx (ZQ G x))
 |.call c=>match c.callee with
  |.builtin b=>match b,c.argTypes.toList,c.args.toList with
   |.len,[t],[x]=>match P.underlying t with
    |some .string=>some (.len .str (ZQ G x))
    |some (.slice _)=>some (.len .sl (cx P G t x))
    |some (.array n _)=>some (.mv (.c (.int .i64 n)))
    |some (.map _ _)=>some (.len .mp (ZQ G x))
    |_=>none
   |.cap,[t],[x]=>match P.underlying t with
    |some (.slice _)=>some (.cap (cx P G t x))
    |some (.array n _)=>some (.mv (.c (.int .i64 n)))
    |_=>none
   |.append,[t,u],[s,x]=>match P.underlying t with
    |some (.slice e)=>match P.info? e with
     |some i=>match i.zero,P.underlying u with
      |some z,some (.slice _)=>if z.cells.size=i.size then some (.ap m e i.size i.bytes false (cx P G t s) (cx P G u x)) else none
      |some z,some .string=>if z.cells.size=i.size then some (.ap m e i.size i.bytes true (cx P G t s) (cx P G u x)) else none
      |some z,some (.int _)=>match dM (lH z) with
       |some cs=>if cs.length=i.size∧cs.all AV.cell=true then some (.apz e i.size i.bytes cs (cx P G t s) (ZQ G x)) else none
       |none=>none
      |_,_=>none
     |none=>none
    |_=>none
   |.clear,[t],[x]=>match P.underlying t with
    |some (.slice e)=>match P.info? e with
     |some i=>match i.zero with
      |some z=>match dM (lH z) with
       |some cs=>if cs.length=i.size∧cs.all AV.cell=true then some (.cl i.size cs (cx P G t x)) else none
       |none=>none
      |none=>none
     |none=>none
    |_=>none
   |.copy,[t,u],[d,s]=>match P.underlying t with
    |some (.slice e)=>match iX P e,P.underlying u with
     |some sz,some (.slice _)=>some (.cp sz false (cx P G t d) (cx P G u s))
     |some sz,some .string=>some (.cp sz true (cx P G t d) (cx P G u s))
     |_,_=>none
    |_=>none
   |.unsafeSliceData,[t],[x]=>match P.underlying t,P.underlying ty with
    |some (.slice _),some (.pointer _)=>some (.usl (ZQ G x))
    |_,_=>none
   |.unsafeString,[t,_],[x,n]=>match P.underlying t with
    |some (.pointer e)=>if P.cellsOf e=1 then some (.ust e (ZQ G x) (ZQ G n)) else none
    |_=>none
   |.max,_,[x,y]=>some (.mx (ZQ G x) (ZQ G y))
   |.min,_,[x,y]=>some (.mn (ZQ G x) (ZQ G y))
   |_,_,_=>none
  |_=>none
 |_=>none
end
section
variable{P:Program}{G:Nat→Option (List AV)}{K:aC}{N:Fr}{a:Env}{H:List Y4}{act:Act}{w:World}
def Le(v v':AV):Prop:=∀ (K:aC) (x:Value),V K v x→V K v' x
theorem Mx(t:TypeId)(v:AV):Le v (Pu P t v):=by
 intro K x h;unfold Pu;split
 ·split
  ·cases h with
   |Zk _ _ _ _ e=>simp at e
   |Zo _ _ a ht=>exact .Zo _ _ a ht
   |slice _ _ _ b o cap vs hl hi hv hc ht=>exact (ht:False).elim
  ·exact h
 ·exact h
theorem xK:∀ (ts:List TypeId) (cs:List AV),(sN P ts cs).length=cs.length
 |[],[]=>rfl
 |_::_,[]=>rfl
 |[],v::l=>by simp [sN,xK [] l]
 |t::ts,v::l=>by simp [sN,xK ts l]
theorem CY:∀ (ts:List TypeId) (cs:List AV) (i:Nat) (v:AV),(sN P ts cs)[i]?=some v→∃ u,cs[i]?=some u∧Le u v
 |[],[],_,_,h=>by simp [sN] at h
 |_::_,[],_,_,h=>by simp [sN] at h
 |[],u::l,0,v,h=>by simp [sN] at h;subst h;exact ⟨u,rfl,fun _ _ h=>h⟩
 |t::ts,u::l,0,v,h=>by simp [sN] at h;subst h;exact ⟨u,rfl,Mx t u⟩
 |[],u::l,i+1,v,h=>by
  simp only [sN,amX] at h ⊢;exact CY [] l i v h
 |t::ts,u::l,i+1,v,h=>by
  simp only [sN,amX] at h ⊢;exact CY ts l i v h
structure LeL (xs ys:List AV):Prop where
 len:xs.length=ys.length
 at_:∀ (i:Nat) (y:AV),ys[i]?=some y→∃ x,xs[i]?=some x∧Le x y
theorem LeL.vs{xs ys:List AV}(h:LeL xs ys){vs:Array Value}(hv:Vs K xs vs):Vs K ys vs:=
 ⟨by rw [← h.len];exact hv.size,fun i av hi=>by
  obtain ⟨x,h1,h2⟩:=h.at_ i av hi;exact h2 _ _ (hv.at_ i x h1)⟩
theorem Qt(ts:List TypeId)(cs:List AV):LeL cs (sN P ts cs):=⟨(xK ts cs).symm,fun i v h=>CY ts cs i v h⟩
theorem zx{t:TypeId}{cs:List AV}(h:Lj P t=some cs):∃ cs0,AE P t=some cs0∧LeL cs0 cs:=by
 unfold Lj at h;rw [amn] at h;obtain ⟨cs0,h1,rfl⟩:=h;exact ⟨cs0,h1,Qt _ _⟩
theorem My(x:Operand):rx a (ZQ G x)=eg G a x:=by
 cases x<;>rfl
theorem oD(hg:K.ZC=G)(hr:Rel N K a H act w)(x:Operand):V K (rx a (ZQ G x)) (act.eval x):=by
 rw [My];exact hr.eval hg x
theorem Mz(hg:K.ZC=G)(hr:Rel N K a H act w)(t:TypeId)(x:Operand):V K (rx a (cx P G t x)) (act.eval x):=by
 have h:=oD hg hr x;unfold cx;split
 ·rename_i v hv
  rw [hv] at h;exact Mx t v K _ h
 ·exact h
theorem Ll(hg:K.ZC=G)(hr:Rel N K a H act w)(x:Option Operand):OV K ((x.map (ZQ G)).map (rx a)) (x.map act.eval):=by
 cases x with
 |none=>exact .none
 |some x=>exact .some _ _ (oD hg hr x)
theorem RW(hg:K.ZC=G)(hr:Rel N K a H act w)(xs:Array Operand):Vs K ((xs.toList.map (ZQ G)).map (rx a)) (xs.map act.eval):=
 ⟨by simp,fun i av hi=>by
  rw [aoJ,amK,amn] at hi;obtain ⟨x,h1,rfl⟩:=hi;have h2:xs[i]?=some x:=by simpa using h1
  rw [pF (v:=act.eval x) (by simp [h2])];exact oD hg hr x⟩
theorem acy{t:TypeId}{g:Option Nat}(h:N7 P t=some g)(cs:List AV)(o:Nat):A9 P t cs o=bO g cs o:=by
 unfold N7 at h;unfold A9 bO;split at h
 ·rename_i n h1 h2;cases h;rw [h1,h2]
 ·rename_i n h1 h2;cases h;rw [h1,h2]
 ·cases h
theorem Bq{t:TypeId}{g:Option Nat}(h:N7 P t=some g)(x:AV):xl P H t x=qC g H x:=by
 have e:(fun cs o=>A9 P t cs o)=bO g:=by funext cs o;exact acy h cs o
 unfold xl qC;rw [← e];rfl
theorem xL{t:TypeId}{x y:AV}{b:Bool}(h:xp (cck P t) x y=some b):vL P t x y=some b:=by
 unfold xp cck at h;unfold vL;split at h<;>rename_i hc<;>(try (cases h;done))<;>split at hc<;>(try (cases hc;done))<;>rename_i hu<;>rw [hu]<;>exact h
theorem u0 {xs ys:List AV}:∀ (fs:List Field) (b:Bool),tW xs ys (fs.map fun f=>(f.offset,if f.name = "_" then .bad else cck P f.type))=some b→qy P xs ys fs=some b
 |[],_,h=>h
 |f::fs,b,h=>by
  simp only [amN,tW] at h;unfold qy
  by_cases hn:f.name = "_"
  ·rw [if_pos hn] at h
   split at h
   ·simp [xp] at h
   ·cases h
  ·rw [if_neg hn] at h ⊢
   split at h
   ·rename_i x y hx hy
    rw [hx,hy];split at h
    ·rename_i he
     simp only [xL he];exact u0 fs b h
    ·rename_i he
     simp only [xL he];exact h
    ·cases h
   ·cases h
theorem Qu{t:TypeId}{c:Bool}{x y:AV}{b:Bool}(h:req (cek P t c) x y=some b):Bk P t c x y=some b∨((∀ b',Bk P t c x y≠some b')∧aeq P t x y=some b∧(∀ k m k' n,¬ (x = .int k m∧y = .int k' n))∧∀ s u,¬ (x = .str s∧y = .str u)):=by
 unfold cek at h;split at h
 ·rename_i hu
  simp only [Bk,hu];unfold req at h;split at h<;>rename_i hc<;>(try (cases hc;done))<;>(try (cases h;done))
  refine .inr ⟨by simp,by simp only [aeq,hu];exact h,by simp,by simp⟩
 ·rename_i e hu
  simp only [Bk,hu];split at h
  ·rename_i n hsz
   unfold req at h;split at h<;>rename_i hc<;>(try (cases hc;done))<;>(try (cases h;done))<;>refine .inr ⟨by simp,by simp only [aeq,hu,hsz];exact h,by simp,by simp⟩
  ·unfold req at h
   split at h<;>rename_i hc<;>(try (cases hc;done))<;>cases h
 ·rename_i hu
  simp only [Bk,hu];unfold req at h;split at h<;>rename_i hc<;>(try (cases hc;done))<;>(try (cases h;done))<;>refine .inr ⟨by simp,by simp only [aeq,hu];exact h,by simp,by simp⟩
 ·rename_i hu
  simp only [Bk,hu];unfold req at h;split at h<;>rename_i hc<;>(try (cases hc;done))<;>(try (cases h;done))<;>first | exact .inl h | (cases hc;exact .inl h)
 ·rename_i fields hu
  simp only [Bk,hu];split at h
  ·rename_i hg
   unfold req at h;split at h<;>rename_i hc<;>(try (cases hc;done))<;>(try (cases h;done))
   cases hc;refine .inr ⟨by simp, ?_,by simp,by simp⟩;simp only [aeq,hu];rw [if_pos hg];exact u0 _ _ h
  ·unfold req at h
   split at h<;>rename_i hc<;>(try (cases hc;done))<;>cases h
 ·rename_i hu
  simp only [Bk,hu];have h:FV x y=some b:=h;obtain ⟨z1,z2⟩:=Qn h;exact .inr ⟨by simp,by simp only [aeq,hu];exact h,z1,z2⟩
 ·unfold req at h
  split at h<;>rename_i hc<;>(try (cases hc;done))<;>cases h
end
section
variable{P:Program}{K:aC}{H:List Y4}{w:World}
theorem J7(b:ByteArray):∀ (n i:Nat) (acc:Array Value),Conv.runesFrom b n i acc=acc++((CU b n i).map (Value.int .i32)).toArray
 |0,_,acc=>by simp [Conv.runesFrom,CU]
 |n+1,i,acc=>by
  unfold Conv.runesFrom CU;split
  ·rcases Utf8.decode b i with ⟨r,wd⟩
   simp only;rw [J7 b n];simp
  ·simp
theorem CG(b:ByteArray):∀ (n i:Nat),(CU b n i).length≤n
 |0,_=>amp _
 |n+1,i=>by
  have:=CG b n (i+(Utf8.decode b i).2);unfold CU;split
  ·simp;omega
  ·simp
theorem HO(s:List UInt8):(kb s).length≤s.length:=CG _ _ _
theorem MA(hi:Inv K H w){src dst e:TypeId}{x v:AV}{cx:Value}(hs:P.underlying src=some .string)(hd:P.underlying dst=some (.slice e))(he:P.underlying e=some (.int .i32))(hx:V K x cx)(h:Ps x=some v) :
  ∃ K' cv w',K.le K'∧(convert src dst cx).run P w = .ok cv w'∧V K' v cv∧Inv K' H w':=by
 unfold Ps at h;split at h
 ·rename_i s
  split at h
  ·rename_i hle
   cases h;cases hx
   have hrs:Conv.runesFrom ⟨s.toArray⟩ (ByteArray.mk s.toArray).size 0 #[]=((kb s).map (Value.int .i32)).toArray:=by
    rw [J7];simp [kb,ByteArray.size]
   have hsz:(Conv.runesFrom ⟨s.toArray⟩ (ByteArray.mk s.toArray).size 0 #[]).size=(kb s).length:=by rw [hrs];simp
   have hrun:=run_runes_of_string (P:=P) w src dst e ⟨s.toArray⟩ hs hd he (by rw [hsz];have:=HO s;omega);rw [hsz,hrs] at hrun;generalize hcap:grownCap w (kb s).length 0 e=cap at hrun;have hge:(kb s).length≤cap:=by rw [← hcap];exact sK _ _ _ _
   have hal:=hi.drew.ada (((kb s).map (Value.int .i32)).toArray++Array.replicate (cap-(kb s).length) (.int .i32 0)) e;refine ⟨_,_,_,K.abL _ _ hi.drew.new (fun o v h=>by rw [hi.drew.aa3 o] at h;cases h),hrun, ?_,hal⟩
   have hrow:∀ (i:Nat) (c:Int),(kb s)[i]?=some c→(((kb s).map (Value.int .i32)).toArray++Array.replicate (cap-(kb s).length) (.int .i32 0))[i]?=some (.int .i32 c):=fun i c hc=>by
    have hil:=(al3.1 hc).1;have hci:(kb s)[i]=c:=(al3.1 hc).2;simp [ao0,hil,hci]
   have:=V.slice (K:=K.ext w.drew.heap.size ((((kb s).map (Value.int .i32)).toArray++Array.replicate (cap-(kb s).length) (.int .i32 0))[·]?)) .any 1 ((kb s).map fun n=>[.int .i32 n]) w.heap.size 0 cap (fun i _=>.int .i32 ((kb s).getD i 0)) (fun r hr=>by
     obtain ⟨c,_,rfl⟩:=anD.1 hr;rfl) (fun i j r av h1 h2=>by
     rw [amK,amn] at h1;obtain ⟨c,h3,rfl⟩:=h1;cases j with
     |succ j=>simp at h2
     |zero=>
      have e1:(kb s).getD i 0=c:=by simp [List.getD,h3]
      rw [e1];exact aC.abN (by simpa using hrow i c h3)) (fun i j r av h1 h2=>by
     rw [amK,amn] at h1;obtain ⟨c,h3,rfl⟩:=h1;cases j with
     |succ j=>simp at h2
     |zero=>
      simp at h2;subst h2;have e1:(kb s).getD i 0=c:=by simp [List.getD,h3]
      rw [e1];exact .int _ _) (by simpa using hge) trivial
   simpa using this
  ·cases h
 ·cases h
theorem HP(ns:List Int):(ByteArray.mk (aaz ns).toArray)=runesBytes ns:=by
 have key:∀ (ns:List Int) (r:ByteArray),ns.foldl (fun r n=>r++Utf8.encode n) r=r++ByteArray.mk (aaz ns).toArray:=by
  intro ns;induction ns with
  |nil=>intro r;apply aoS;simp [aaz]
  |cons n ns ih=>
   intro r;rw [anx,ih];apply aoS
   have:((Utf8.encode n).data.toList++aaz ns).toArray=(Utf8.encode n).data++(aaz ns).toArray:=apk (by simp)
   simp [aaz,Array.append_assoc,this]
 unfold runesBytes;rw [key];apply aoS;simp
theorem HQ:∀ {rows:List (List AV)}{ns:List Int},K8 rows=some ns→rows=ns.map fun n=>[.int .i32 n]
 |[],ns,h=>by cases h;rfl
 |r::rows,ns,h=>by
  unfold K8 at h;split at h
  ·rename_i e;cases e
  ·rename_i e
   cases e;rw [amn] at h;obtain ⟨ms,h1,rfl⟩:=h;rw [HQ h1];rfl
  ·cases h
theorem MB(hi:Inv K H w){src dst e:TypeId}{x v:AV}{cx:Value}(hs:P.underlying src=some (.slice e))(he:P.underlying e=some (.int .i32))(hd:P.underlying dst=some .string)(hx:V K x cx)(h:Pt x=some v) :
  ∃ cv,(convert src dst cx).run P w = .ok cv w∧V K v cv:=by
 unfold Pt at h;split at h
 ·rename_i tag rows
  rw [amn] at h;obtain ⟨ns,h1,rfl⟩:=h;have hr:=HQ h1
  have nil:∀ (a:Option Addr) (cap:Nat),rows=[]→∃ cv,(convert src dst (.slice a 0 cap)).run P w = .ok cv w∧V K (.str (aaz ns)) cv:=fun a cap e0=>by
   have hn:ns=[]:=by rw [e0] at hr;cases ns<;>first | rfl | cases hr
   subst hn;cases a with
   |none=>exact ⟨_,run_convert_runes_nil w src dst e 0 cap hs he hd,.str []⟩
   |some a=>
    have:=run_convert_runes (P:=P) w src dst e a 0 cap [] (amp _) hs he hd (fun j hj=>by simp at hj);exact ⟨_,this,by have:=V.str (K:=K) (aaz []);rw [HP] at this;exact this⟩
  cases hx with
  |Zo _ _ a _=>exact nil a 0 rfl
  |Zk _ _ a cap _=>exact nil a cap rfl
  |slice _ _ _ b o cap vs hl him hv hc ht=>
   subst hr
   have:=run_convert_runes (P:=P) w src dst e ⟨b,o,none⟩ (ns.map fun n=>[AV.int .i32 n]).length cap ns (by simp) hs he hd (fun j hj=>by
    have e1:(ns.map fun n=>[AV.int .i32 n])[j]?=some [.int .i32 ns[j]]:=by simp [hj]
    have g1:=hi.ZO _ _ _ (him j 0 _ _ e1 rfl);have g2:=hv j 0 _ _ e1 rfl;rw [aod,ann] at g1;generalize hvs:vs j 0=x at g1 g2;cases g2
    by_cases hj0:j=0
    ·subst hj0;simpa [Addr.add,List.getD,hj] using g1
    ·simpa [Addr.add,List.getD,hj,hj0] using g1)
   refine ⟨_,this, ?_⟩;have h3:=V.str (K:=K) (aaz ns);rw [HP] at h3;simpa using h3
 ·cases h
theorem Gq{t e:TypeId}{n sz:Nat}{z:List AV}{parts:List (Nat×AV)}{cparts:Array (Nat×Value)}{cs:List AV}(hu:P.underlying t=some (.array n e))(hsz:iX P e=some sz)(hz:AE P t=some z)(hl:parts.length=cparts.size)
  (hp:∀ (j i:Nat) (av:AV),parts[j]?=some (i,av)→∃ v,cparts[j]?=some (i,v)∧V K av v) (h:lC (fun i=>some (i*sz,sz)) z parts=some cs) :
  ∃ cv,(Instr.build t cparts).run P w = .ok cv w∧V K (.agg cs) cv:=by
 obtain ⟨cz,h1,h2,_⟩:=xm (w:=w) hz K
 obtain ⟨vs',h3,h4⟩:=zr (K:=K) _ parts cparts.toList z cs cz.cells h2 (by simpa using hl) (fun j i av hj=>by
  obtain ⟨v,e1,e2⟩:=hp j i av hj;exact ⟨v,by simpa using e1,e2⟩) h
 refine ⟨.agg vs', ?_,.agg _ _ h4.size h4.at_⟩;simp [Instr.build,h1,Y5 hu,dU hsz];rw [h3];rfl
end
section
variable{P:Program}{G:Nat→Option (List AV)}{K:aC}{N:Fr}{a:Env}{H:List Y4}{act:Act}{w:World}
theorem bg{x:Option AV}{v:AV}{H':List Y4}(h:cf H x=some (v,H')):x=some v∧H'=H:=by
 unfold cf at h;split at h
 ·cases h;exact ⟨rfl,rfl⟩
 ·cases h
theorem wj{x:Option (List Y4)}{v:AV}{H':List Y4}(h:DM x=some (v,H')):x=some H'∧v=jY:=by
 unfold DM at h;split at h
 ·cases h;exact ⟨rfl,rfl⟩
 ·cases h
theorem DO(ps:Array (Nat×Operand))(f:Nat×Operand→RX)(hf:∀ p,V K (rx a (f p)) (act.eval p.2))(j i:Nat)(av:AV)
  (h:((ps.toList.map fun p=>(p.1,f p)).map fun p=>(p.1,rx a p.2))[j]?=some (i,av)):∃ v,(ps.map fun (i,x)=>(i,act.eval x))[j]?=some (i,v)∧V K av v:=by
 rw [aoJ,amK,amn] at h;obtain ⟨p,h1,h2⟩:=h;cases h2;have h3:ps[j]?=some p:=by simpa using h1
 exact ⟨act.eval p.2,by simp [h3],hf p⟩
theorem UE{xs ys:List AV}(h:LeL xs ys)(o:Nat)(v:AV):LeL (xs.set o v) (ys.set o v):=by
 refine ⟨by simp [h.len],fun i y hy => ?_⟩;rw [anZ] at hy;rw [anZ];split at hy
 ·rename_i e
  rw [if_pos e];split at hy
  ·rename_i hl
   rw [if_pos (by rw [h.len];exact hl)];exact ⟨_,rfl,by cases hy;exact fun _ _ h=>h⟩
  ·cases hy
 ·rename_i e
  rw [if_neg e];exact h.at_ i y hy
theorem HR:∀ (l:List AV) {xs ys:List AV} (_:LeL xs ys) (o:Nat),LeL (bq xs o l) (bq ys o l)
 |[],_,_,h,_=>h
 |v::l,_,_,h,o=>by rw [bq,bq];exact HR l (UE h o v) (o+1)
theorem HS{pl:Nat→Option (Nat×Nat)}:∀ (ps:List (Nat×AV)) {xs ys zs:List AV} (_:LeL xs ys) (_:lC pl ys ps=some zs),∃ us,lC pl xs ps=some us∧LeL us zs
 |[],_,_,_,h,hz=>by cases hz;exact ⟨_,rfl,h⟩
 |(i,v)::ps,xs,ys,zs,h,hz=>by
  rw [lC] at hz ⊢;split at hz
  ·rename_i off size cs h1 h2
   split at hz
   ·rename_i hc
    rw [if_pos (by rw [h.len];exact hc)];exact HS ps (HR cs h off) hz
   ·cases hz
  ·cases hz
theorem RY{xs ys:List AV}(h:LeL xs ys):Le (.agg xs) (.agg ys):=fun K x hx=>by
 obtain ⟨vs,rfl,hvs⟩:=hx.aa1;have:=h.vs hvs;exact .agg _ _ this.size this.at_
theorem WB{op:BinOp}{t:TypeId}{x y v:AV}(h1:op≠.shl)(h2:op≠.shr)(h3:op≠.andNot)(h:Bc P op t x y=some v):DC P op t x y=some v:=by
 unfold DC;cases op<;>first | exact absurd rfl h1 | exact absurd rfl h2 | exact absurd rfl h3 | exact h
theorem J8{op:BinOp}{t:TypeId}{ox oy:Operand}{x y v:AV}(h1:op≠.shl)(h2:op≠.shr)(h3:op≠.andNot)(ht:∀ ms,P.underlying t≠some (.interface ms))(h:rar op x y=some v):sM P op t ox oy x y=some v:=by
 have hn:∀ c,Bk P t c x y=none:=fun c=>by
  unfold Bk;split<;>first | rfl | (rename_i hu;exact absurd hu (ht _))
 unfold sM;rw [hn]
 have h4:Bc P op t x y=some v:=by
  unfold rar at h;unfold Bc;split at h
  ·rename_i k m k' n
   simp only;rw [if_neg (by rintro (e | e)<;>contradiction)];exact h
  ·exact h
  ·cases h
 split
 ·rename_i b he;cases he
 ·rename_i b he;cases he
 ·exact WB h1 h2 h3 h4
theorem Pv{op:BinOp}{neg:Bool}(hop:op=if neg then .neq else .eql){t:TypeId}{ox oy:Operand}{x y v:AV}
  (h:(req (cek P t (mB ox||mB oy)) x y).map (fun b=>AV.bool (if neg then !b else b))=some v):sM P op t ox oy x y=some v:=by
 rw [amn] at h;obtain ⟨b,h1,rfl⟩:=h;unfold sM;rcases Qu h1 with h2 | ⟨h2,h3,h4,h5⟩
 ·rw [h2];subst hop;cases neg<;>rfl
 ·have hn:Bk P t (mB ox||mB oy) x y=none:=by
   cases he:Bk P t (mB ox||mB oy) x y with
   |none=>rfl
   |some b'=>exact absurd he (h2 b')
  rw [hn]
  have hab:Bc P op t x y=some (.bool (if neg then !b else b)):=by
   unfold Bc;split
   ·rename_i k m k' n;exact absurd ⟨rfl,rfl⟩ (h4 k m k' n)
   ·rename_i s u;exact absurd ⟨rfl,rfl⟩ (h5 s u)
   ·subst hop;cases neg<;>simp [h3]
  subst hop;cases neg<;>exact hab
theorem CZ{sz:Nat}{xT:TypeId}{x:AV}{str:Bool}{new:List (List AV)}(hu:∃ d,P.underlying xT=some d∧(str=false→∃ e,d = .slice e)∧(str=true→d = .string))(h:xJ H sz str x=some new):NW P H sz xT x=some new:=by
 obtain ⟨d,hu,h1,h2⟩:=hu;unfold xJ at h;unfold NW;cases str
 ·obtain ⟨e,rfl⟩:=h1 rfl
  rw [hu];split at h<;>rename_i hh<;>first | exact h | (cases h;done) | (cases hh)
 ·obtain rfl:=h2 rfl
  rw [hu];split at h<;>rename_i hh<;>first | exact h | (cases h;done) | (cases hh)
theorem ac5{e sT xT:TypeId}{i:TypeInfo}{z:Value}{str:Bool}{s x v:AV}{H':List Y4}(hs:P.underlying sT=some (.slice e))(hi:P.info? e=some i)(hz:i.zero=some z)(hzs:z.cells.size=i.size)
  (hu:∃ d,P.underlying xT=some d∧(str=false→∃ e,d = .slice e)∧(str=true→d = .string)) (h:yq H e i.size i.bytes str s x=some (v,H')):Cd P H sT xT s x=some (v,H'):=by
 unfold yq at h;unfold Cd;simp only [hs,hi,hz];split at h
 ·rename_i new hn
  rw [CZ hu hn];simp only;split at h
  ·simp only
   split at h
   ·rename_i hc
    rw [if_pos ⟨hc.1,hzs,hc.2.1,hc.2.2.1,hc.2.2.2⟩];exact h
   ·cases h
  ·cases h
 ·cases h
theorem Br{e sT xT:TypeId}{i:TypeInfo}{z:Value}{str:Bool}{s x v:AV}{H':List Y4}(hs:P.underlying sT=some (.slice e))(hi:P.info? e=some i)(hz:i.zero=some z)(hzs:z.cells.size=i.size)
  (hu:∃ d,P.underlying xT=some d∧(str=false→∃ e,d = .slice e)∧(str=true→d = .string)) (h:DL H e i.size i.bytes str s x=some (v,H')):we P H sT xT s x=some (v,H'):=by
 unfold DL at h;unfold we;simp only [hs,hi,hz];split at h
 ·rename_i new hn
  rw [CZ hu hn];simp only;split at h
  ·rename_i hc
   rw [if_pos ⟨hzs,hc⟩];exact h
  ·cases h
 ·cases h
theorem J9{m:Bool}{e sT xT:TypeId}{i:TypeInfo}{z:Value}{str:Bool}{s x v:AV}{H':List Y4}(hs:P.underlying sT=some (.slice e))(hi:P.info? e=some i)(hz:i.zero=some z)(hzs:z.cells.size=i.size)
  (hu:∃ d,P.underlying xT=some d∧(str=false→∃ e,d = .slice e)∧(str=true→d = .string)) (h:rap m H e i.size i.bytes str s x=some (v,H')):Bn m P H sT xT s x=some (v,H'):=by
 unfold rap at h;unfold Bn;split at h
 ·split at h
  ·rename_i hH;simp only [hH];exact ac5 hs hi hz hzs hu h
  ·cases h
 ·split<;>first | exact Br hs hi hz hzs hu h | (rename_i n1;exact (n1 _ _ _ _ _ rfl).elim) | (rename_i n1 _;exact (n1 _ _ _ _ _ rfl).elim) | (rename_i n1 _ _;exact (n1 _ _ _ _ _ rfl).elim) | (rename_i n1 _ _ _;exact (n1 _ _ _ _ _ rfl).elim) | (rename_i n1 _ _ _ _;exact (n1 _ _ _ _ _ rfl).elim) | (rename_i n1 _ _ _ _ _;exact (n1 _ _ _ _ _ rfl).elim) | (rename_i n1 _ _ _ _ _ _;exact (n1 _ _ _ _ _ rfl).elim) | (exfalso;simp_all;done)
 ·exact Br hs hi hz hzs hu h
 ·exact Br hs hi hz hzs hu h
 ·split<;>first | exact ac5 hs hi hz hzs hu h | (rename_i n1;exact (n1 _ _ _ _ _ rfl).elim) | (rename_i n1 _;exact (n1 _ _ _ _ _ rfl).elim) | (rename_i n1 _ _;exact (n1 _ _ _ _ _ rfl).elim) | (rename_i n1 _ _ _;exact (n1 _ _ _ _ _ rfl).elim) | (rename_i n1 _ _ _ _;exact (n1 _ _ _ _ _ rfl).elim) | (rename_i n1 _ _ _ _ _;exact (n1 _ _ _ _ _ rfl).elim) | (rename_i n1 _ _ _ _ _ _;exact (n1 _ _ _ _ _ rfl).elim) | (exfalso;simp_all;done)
theorem MC{t:TypeId}{c:Bool}{k k':IntKind}{m n:Int}:Bk P t c (.int k m) (.int k' n)=none:=by
 unfold Bk;split<;>first | rfl | (rename_i e;cases e) | (rename_i e _;cases e)
theorem Pw{r:Result Next}{v v':AV}{H':List Y4}(h:HH P K r v H')(hl:Le v v'):HH P K r v' H':=by
 obtain ⟨K',cv,w',h1,h2,h3,h4⟩:=h;exact ⟨K',cv,w',h1,h2,hl _ _ h3,h4⟩
theorem Lm{u T:TypeId}{n:Nat}(hc:P.cellsOf u≠0)(h:Lk P u T=true)(hn:P.cellsOf u≤n):liesAt P P.depth T (n / P.cellsOf T) 0 u 1=true:=by
 unfold Lk at h;split at h
 ·rename_i fs hu
  simp only [amb,aoP,apx] at h;obtain ⟨⟨h1,h2⟩,h3⟩:=h;split at h3
  ·rename_i f hf
   simp only [amb,apx] at h3;have hcnt:0<n / P.cellsOf T:=by rw [h2];exact apv hn (aoK hc)
   have hd:P.depth=((2*(P.types.size+Made.depth))+1)+1:=rfl;rw [hd];simp only [liesAt,anN];left;rw [hd]
   have hin:rowAt P (sameLayout P (2*(P.types.size+Made.depth)+1+1) · u) (2*(P.types.size+Made.depth)+1) u 1 0 1=true:=by
    simp [rowAt,hc,sameLayout]
   have hcT:P.cellsOf T≠0:=by rw [h2];exact hc
   rw [rowAt];simp only [hcT,if_false,Nat.zero_div,Nat.zero_mod,hu,h1,anW,amY,anN,amb,ana];right;refine ⟨hcnt, ?_⟩;rw [Array.any_eq_true];have hlt:=(amh.1 hf).1;refine ⟨0,hlt, ?_⟩;have hfe:fs[0]=f:=(amh.1 hf).2;rw [hfe];simp only [h3.1,h3.2,amb,ana];exact ⟨⟨by omega,by omega⟩,hin⟩
  ·cases h3
 ·cases h
theorem Lp{kt:TypeId}{k:AV}(h:F5 (cck P kt) k=true):HD P kt k=true:=by
 unfold F5 cck at h;unfold HD;split at h<;>rename_i hc<;>(try (cases h;done))<;>split at hc<;>(try (cases hc;done))<;>rename_i hu<;>rw [hu]<;>(try cases hc)<;>first | exact h | rfl
theorem Qv (kt:TypeId):(∃ fs,P.underlying kt=some (.struct fs)∧ckk P kt=if P.stoodInHeld kt=false then .agg (fs.toList.map fun f=>(f.offset,if f.name = "_" then .bad else cck P f.type)) else .bad)∨ckk P kt=cck P kt:=by
 unfold ckk;split
 ·rename_i fs hu;exact .inl ⟨fs,hu,rfl⟩
 ·exact .inr rfl
theorem EU {xs:List AV}{f:Field} (h:CW xs (f.offset,if f.name = "_" then .bad else cck P f.type)=true):tU P xs f=true:=by
 unfold CW at h;unfold tU
 by_cases hn:f.name = "_"
 ·rw [if_pos hn] at h
  split at h
  ·simp [xp] at h
  ·cases h
 ·rw [if_neg hn] at h
  split at h
  ·rename_i x hx
   rw [hx];cases hr:xp (cck P f.type) x x with
   |none=>rw [hr] at h;cases h
   |some b=>simp [hn,xL hr]
  ·cases h
theorem acm {fs:List Field}{xs ys:List AV}{b:Bool} (h:N4 (fs.map fun f=>(f.offset,if f.name = "_" then .bad else cck P f.type)) xs ys=some b):HE P fs xs ys=some b:=by
 unfold N4 at h;unfold HE;cases hr:tW xs ys (fs.map fun f=>(f.offset,if f.name = "_" then .bad else cck P f.type)) with
 |none=>rw [hr] at h;cases h
 |some c=>
  rw [u0 fs c hr];rw [hr] at h;exact h
theorem aco {fs:List Field}{xs:List AV}:∀ (es:List (AV×AV)) (n:Nat) (r:Option (Nat×AV)),Li (fs.map fun f=>(f.offset,if f.name = "_" then .bad else cck P f.type)) xs es n=some r→EM P fs xs es n=some r
 |[],_,_,h=>h
 |e::es,n,r,h=>by
  unfold Li at h;unfold EM;split at h
  ·rename_i ys he
   rw [he];simp only;split at h
   ·rename_i hs;rw [acm hs];exact h
   ·rename_i hs;rw [acm hs];exact aco es (n+1) r h
   ·cases h
  ·cases h
theorem aa0{kt:TypeId}{k:AV}{es:List (AV×AV)}{r:Option (Nat×AV)}(h:HM (ckk P kt) k es=some r):J4 P kt k es=some r:=by
 unfold HM at h;unfold J4;rcases Qv (P:=P) kt with ⟨fs,hu,e⟩ | e
 ·have hf:HD P kt k=false:=by unfold HD;rw [hu]
  rw [e] at h
  by_cases hst:P.stoodInHeld kt=false
  ·rw [if_pos hst] at h
   have hrf:∀ l,F5 (.agg l) k=false:=fun l=>by unfold F5;rfl
   rw [hrf] at h;simp only [amQ,if_false] at h;rw [hf];simp only [amQ,if_false,hu];split at h
   ·rename_i fs2 xs hag
    injection hag with hag;subst hag;split at h
    ·rename_i hall
     have hall2:fs.toList.all (tU P xs)=true:=by
      rw [amI] at hall ⊢;exact fun f hf=>EU (hall _ (anD.2 ⟨f,hf,rfl⟩))
     simp only;rw [if_pos ⟨hst,hall2⟩];exact aco es 0 r h
    ·cases h
   ·cases h
  ·rw [if_neg hst] at h
   have hrf:F5 .bad k=false:=by unfold F5;rfl
   rw [hrf] at h;simp at h
 ·rw [e] at h
  split at h
  ·rename_i hf
   rw [if_pos (Lp hf)];exact h
  ·split at h
   ·rename_i hck _
    unfold cck at hck;split at hck<;>cases hck
   ·cases h
theorem Ka{t kt et:TypeId}(hu:P.underlying t=some (.map kt et)){m k v:AV}{H':List Y4}(h:rmu H (ckk P kt) m k v=some H'):tV P H t m k v=some H':=by
 unfold rmu at h;unfold tV;rw [hu];split at h
 ·simp only
  split at h
  ·rename_i es hes
   rw [hes];simp only;split at h
   ·rename_i hk;rw [aa0 hk];exact h
   ·rename_i hk;rw [aa0 hk];exact h
   ·cases h
  ·cases h
 ·cases h
theorem Inv.tok(hi:Inv K H w)(n:Nat)(T:TypeId):Inv (K.push 0) (H++[.tok n T]) w:=by
 have:=(hi.aez T).aeS (t:=H.length) (T:=T) (fr:=0) (fr':=n) (by simp) (anC _);have e1:(H++[Y4.tok 0 T]).set H.length (.tok n T)=H++[.tok n T]:=by simp
 rwa [e1] at this
theorem N8(hi:Inv K H w){ts:Array TypeId}{ty e:TypeId}(hp:P.underlying ty=some (.pointer e)){x v:AV}{cx:Value}(hx:V K x cx)(h:Qr x=some v) :
  ∃ K' cv w',K.le K'∧(Builtin.unsafeSliceData_ ts ty #[cx]).run P w = .ok cv w'∧V K' v cv∧Inv K' H w':=by
 unfold Qr at h;split at h
 ·rename_i t rows
  split at h
  case isFalse=>cases h
  rename_i hint;cases h;cases hx with
  |Zk _ _ _ _ e=>simp at e
  |Zo _ _ a ha=>
   have:=(ha.1 t rfl).2;subst this;exact ⟨K,_,w,.refl K,Lib.run_unsafeSliceData_nil w ts ty 0 0,.aba t none,hi⟩
  |slice _ _ _ b o cap vs hl him hv hc ht=>
   obtain ⟨htl,⟨_,hni⟩ | ⟨rfl,hown⟩⟩:=ht
   ·rw [hni] at hint;cases hint
   rw [aod] at hown
   by_cases hcap:cap=0
   ·subst hcap
    have h0:rows=[]:=aoT.1 (by omega);subst h0;obtain ⟨hb,fr,us,T,lo,hh,g1,g2,g3,g4,g5⟩:=hi.own b t _ hown;refine ⟨K,_,_,.refl K,Lib.run_unsafeSliceData_zero w ts ty e hp ⟨b,0,none⟩ _ (T,us.size) (by simp [World.shape?,g2]),.aba t _,hi.junk _⟩
   ·exact ⟨K,_,w,.refl K,Lib.run_unsafeSliceData_row w ts ty ⟨b,0,none⟩ rows.length cap hcap,.sdp t rows b cap vs htl hown hl him hv hc,hi⟩
 ·cases h
  cases hx with
  |Zk _ _ _ _ e=>simp at e
  |Zo _ _ a ha=>
   have:=ha.2.1 rfl;subst this;exact ⟨K,_,w,.refl K,Lib.run_unsafeSliceData_nil w ts ty 0 0,.aba 0 none,hi⟩
  |slice _ _ _ b o cap vs hl him hv hc ht=>exact (ht:False).elim
 ·cases h
theorem N9(hi:Inv K H w){pt it ty e:TypeId}(hp:P.underlying pt=some (.pointer e))(hc1:P.cellsOf e=1){x n v:AV}{cx cn:Value}(hx:V K x cx)(hn:V K n cn)(h:N5 H e x n=some v) :
  ∃ K' cv w',K.le K'∧(Builtin.unsafeString_ #[pt,it] ty #[cx,cn]).run P w = .ok cv w'∧V K' v cv∧Inv K' H w':=by
 unfold N5 at h;split at h
 ·rename_i t n
  split at h
  ·rename_i h0
   subst h0;cases h;cases hn
   have key:∃ p,cx = .pointer p:=by
    cases hx with
    |aba _ p=>exact ⟨p,rfl⟩
    |sdp _ _ b cap vs=>exact ⟨_,rfl⟩
   obtain ⟨p,rfl⟩:=key;exact ⟨K,_,w,.refl K,Lib.run_unsafeString_none w pt it ty p,.str [],hi⟩
  ·cases h
 ·rename_i t r rows n
  split at h
  ·rename_i fr T bs ht hbs
   split at h
   ·rename_i hc
    obtain ⟨rfl,rfl,hfr,h63,hby⟩:=hc;cases h;cases hn;cases hx with
    |sdp _ _ b cap vs htl hown hl him hv hcap=>
     obtain ⟨h2,h3⟩:=Bl hbs;obtain ⟨hb,fr',us,T',lo,hh,g1,g2,g3,g4,g5⟩:=hi.own b t cap hown;rw [ht] at g1;cases g1;have hne:bs≠[]:=by intro e;rw [e] at h2;simp at h2
     have hrun:=Lib.run_unsafeString_row (P:=P) w pt it ty T hp hc1 b us.size (by simp [World.shape?,g2]) bs hne (by omega) (by omega) (fun j c hj=>by
      have hjl:j<(r::rows).length:=by rw [← h2];exact (al3.1 hj).1
      obtain ⟨m,e1,e2⟩:=h3 j hjl;have hb2:=FZ hby j m e1;have g6:=hi.ZO _ _ _ (him j 0 _ _ e1 rfl);have g7:=hv j 0 _ _ e1 rfl;rw [amJ,aod,ann] at g6;generalize vs j 0=y at g6 g7;cases g7;rw [hj] at e2;cases e2
      have:(⟨b,0,none⟩:Addr).add j=⟨b,j,none⟩:=by rw [iY];simp
      rw [this,g6];congr 2
      have:(UInt8.ofNat m.toNat).toNat=m.toNat:=by
       simp;omega
      rw [this];omega)
     exact ⟨K,_,_,.refl K,hrun,.str bs,hi.freeze hown ht hfr⟩
   ·cases h
  ·cases h
 ·cases h
theorem Kb(hg:K.ZC=G)(hr:Rel N K a H act w){m:Bool}{o:Oper}{r:ROp}(hc:cOp P G m o.type o.op=some r){v:AV}{H':List Y4}(h:Z1 a H r=some (v,H')) :
  HH P K ((execOp act.eval o).run P w) v H':=by
 have hi:=hr.inv;have h0:=fun x=>oD (a:=a) hg hr x
 have h1:=fun t x=>Mz (P:=P) (a:=a) hg hr t x
 obtain ⟨dst,op,type,pos,after,guard⟩:=o;simp only at hc;cases op<;>simp only [cOp] at hc<;>try (cases hc;done)
 case move x=>cases hc;cases h;exact ⟨K,_,w,.refl K,.inl rfl,h1 _ x,hi⟩
 case assign x=>cases hc;cases h;exact ⟨K,_,w,.refl K,.inl rfl,h1 _ x,hi⟩
 case pick c x y=>
  cases hc;simp only [Z1] at h;split at h
  ·rename_i b hb
   cases h;have hcv:=h0 c;rw [hb] at hcv;refine ⟨K,_,w,.refl K,.inl (by simp [execOp,hcv.ac8,asBool];rfl), ?_,hi⟩;cases b
   ·exact h1 _ y
   ·exact h1 _ x
  ·cases h
 case alloc e=>
  split at hc
  ·rename_i cs hcs
   obtain ⟨cs0,e1,e2⟩:=zx hcs;obtain ⟨z,g1,g2,_⟩:=xm (w:=w) e1 K
   have plain:r = .nw cs e→HH P K ((execOp act.eval ⟨dst,.alloc e,type,pos,after,guard⟩).run P w) v H':=fun hr=>by
    subst hr;cases h;obtain ⟨K',ad,w',h3,h4,h5,h6⟩:=EL (P:=P) hi e (e2.vs g2);exact fk ⟨K',_,w',h3,by simp [Instr.alloc,g1,h4],h5,h6⟩
   split at hc
   ·rename_i j T hj
    split at hc
    ·cases hc;exact plain rfl
    ·split at hc
     ·rename_i hm
      cases hc;cases h;have hv:=e2.vs g2;have hi1:=hi.tok 0 T;have hle:=K.aaI 0;have hlen:H.length<(K.push 0).loc.length:=by simp [aC.push,aC.ZJ,hi.len]
      have hv':Vs (K.push 0) (cs.set j (.slice (.own H.length) 1 [])) z.cells:=by
       refine ⟨by simp [hv.size],fun i av hiv => ?_⟩;rcases ka hiv with ⟨rfl,rfl⟩ | ⟨_,hiv⟩
       ·have:=hv.at_ i _ hm
        generalize z.cells.getD i undef=x at this;cases this with
        |Zk _ _ _ _ e=>simp at e
        |Zo _ _ a ha=>
         have:=ha.2.1 rfl;subst this;exact .Zo _ _ _ ⟨fun t e=>(by cases e;exact ⟨hlen,rfl⟩),fun e=>(by cases e),fun e=>(by cases e)⟩
        |slice _ _ _ b o cap vs hl hi hv hc ht=>exact (ht:False).elim
       ·exact (hv.at_ i av hiv).mono hle
      obtain ⟨K',ad,w',h3,h4,h5,h6⟩:=EL (P:=P) hi1 e hv';have e1:(H++[Y4.tok 0 T]).length=H.length+1:=by simp
      have e2:(H++[Y4.tok 0 T])++[Y4.cells (cs.set j (.slice (.own H.length) 1 [])) e]=H++[.tok 0 T,.cells (cs.set j (.slice (.own H.length) 1 [])) e]:=by simp
      rw [e1] at h5;rw [e2] at h6;exact fk ⟨K',_,w',hle.trans h3,by simp [Instr.alloc,g1,h4],h5,h6⟩
     ·cases hc;exact plain rfl
   ·cases hc;exact plain rfl
  ·cases hc
 case box e x=>
  cases hc;simp only [Z1] at h;split at h
  ·rename_i cs hcs
   cases h;obtain ⟨K',ad,w',h3,h4,h5,h6⟩:=EL (P:=P) hi e ((h1 _ x).cells hcs);exact fk ⟨K',_,w',h3,by simp [Instr.box,h4],h5,h6⟩
  ·cases h
 case build t ps=>
  split at hc
  ·rename_i z pl fields hz hpl hu
   cases hc;simp only [Z1] at h;have h9:=bg h;clear h;obtain ⟨h,rfl⟩:=h9;rw [amn] at h;obtain ⟨cs,hcs,rfl⟩:=h;obtain ⟨z0,e1,e2⟩:=zx hz;obtain ⟨cs0,e3,e4⟩:=HS _ e2 hcs
   have hb:Hy P t ((ps.toList.map fun p=>(p.1,match fields[p.1]? with | some f=>cx P G f.type p.2 | none=>ZQ G p.2)).map fun p=>(p.1,rx a p.2))=some (.agg cs0):=by
    unfold Hy;rw [e1,hpl];simp only
    have:(fun i:Nat=>pl[i]?)=(fun i=>pl.toList[i]?):=by funext i;simp
    rw [this];exact congrArg (Option.map AV.agg) e3
   refine Pw (fN hi (K6 (by simp) (DO ps _ fun p => ?_) hb)) (RY e4);split
   ·exact h1 _ _
   ·exact h0 _
  ·rename_i z n e hz hpl hu
   split at hc
   ·rename_i sz hsz
    cases hc;simp only [Z1] at h;have h9:=bg h;clear h;obtain ⟨h,rfl⟩:=h9;rw [amn] at h;obtain ⟨cs,hcs,rfl⟩:=h;obtain ⟨z0,e1,e2⟩:=zx hz;obtain ⟨cs0,e3,e4⟩:=HS _ e2 hcs;exact Pw (fN hi (Gq hu hsz e1 (by simp) (DO ps _ fun p=>h1 _ _) e3)) (RY e4)
   ·cases hc
  ·cases hc
 case buildSlice t l ps=>
  split at hc
  ·rename_i e hu
   split at hc
   ·rename_i sz z hsz hz
    split at hc
    ·rename_i hcond
     cases hmm:(m&&Wd P e) with
     |true=>
      rw [hmm] at hc;simp only [if_true,amo] at hc;cases hc;simp only [Z1,rbm] at h;split at h
      ·rename_i cs hcs
       cases h;obtain ⟨vs',hrun,h6,hcl⟩:=Bi (K:=K) (w:=w) hu hsz hz hcond.1 hcond.2 (cparts:=ps.map fun p=>(p.1,act.eval p.2)) (by simp) (DO ps _ fun p=>h1 _ _) hcs;have hal:=hi.ac1 cs vs' e h6;have hsz':vs'.size=l*sz:=by rw [← h6.size];exact hcl
       refine fk ⟨_,_,_,K.aal _ _ hi.ZZ,hrun, ?_,hal⟩;refine .Za _ 0 l sz true w.heap.size l (by simp [aC.ZJ,hi.len]) (amp _) fun _=>⟨vs'.size,by simp [aC.ZJ],by rw [hsz'];omega⟩
      ·cases h
     |false=>
      rw [hmm] at hc;simp only [amQ,if_false,amo] at hc;cases hc;simp only [Z1] at h;have h9:=bg h;clear h;obtain ⟨h,rfl⟩:=h9;refine fk (Dz hi (parts:=(ps.toList.map fun p=>(p.1,cx P G e p.2)).map fun p=>(p.1,rx a p.2)) (by simp) (DO ps _ fun p=>h1 _ _) ?_);unfold xn;simp only [hu,hsz,hz];rw [if_pos hcond];exact h
    ·cases hc
   ·cases hc
  ·cases hc
 case load t x=>
  split at hc
  ·rename_i g hgt
   cases hc;have h9:=bg h;clear h;obtain ⟨h,rfl⟩:=h9;rw [← Bq hgt] at h;exact fN hi (Dx hi (h0 x) h)
  ·cases hc
 case store t x y=>
  split at hc
  ·rename_i n hn
   cases hc;have h9:=wj h;clear h;obtain ⟨h,rfl⟩:=h9
   have h2:Ba P H t (rx a (ZQ G x)) (rx a (cx P G t y))=some H':=by
    unfold ES at h;unfold Ba;rw [hn];split at h
    ·rename_i e5 e6;rw [e5,e6];exact h
    ·cases h
   obtain ⟨w',h3,h4⟩:=Jr (P:=P) hi (h0 x) (h1 _ y) h2;exact ⟨K,undef,w',.refl K,.inr ⟨by simp [execOp,h3],rfl⟩,Cf,h4⟩
  ·cases hc
 case nilCheck x=>
  cases hc;have hx:=h0 x
  have key:∀ cv,act.eval x=cv→(cv.ak9=true)→(execOp act.eval ⟨dst,.nilCheck x,type,pos,after,guard⟩).run P w = .ok (.value cv) w:=by
   intro cv he hn;unfold execOp;simp only [he];cases cv<;>try (cases hn;done)
   case pointer ad=>cases ad<;>first | (cases hn;done) | rfl
   case func f u v=>cases f<;>first | (cases hn;done) | rfl
  simp only [Z1] at h;split at h
  ·rename_i i o he
   cases h;rw [he] at hx;generalize hcv:act.eval x=c at hx;cases hx with
   |ptr _ _ b hb=>exact ⟨K,_,w,.refl K,.inl (key _ hcv rfl),.ptr _ _ _ hb,hi⟩
  ·rename_i i1 i2 i3 i4 he
   cases h;rw [he] at hx;generalize hcv:act.eval x=c at hx;cases hx with
   |Zu _ _ _ _ b o vs h1 h2 h3=>exact ⟨K,_,w,.refl K,.inl (key _ hcv rfl),.Zu _ _ _ _ _ _ _ h1 h2 h3,hi⟩
  ·rename_i f u v he
   cases h;rw [he] at hx;generalize hcv:act.eval x=c at hx;obtain ⟨vs,us,rfl,h1,h2⟩:=hx.ade;exact ⟨K,_,w,.refl K,.inl (key _ hcv rfl),Vs.fn h1 h2,hi⟩
  ·cases h
 case binOp op t x y u=>
  have fin:∀ v,sM P op t x y (rx a (ZQ G x)) (rx a (ZQ G y))=some v→HH P K ((execOp act.eval ⟨dst,.binOp op t x y u,type,pos,after,guard⟩).run P w) v H:=fun v h=>fN hi (Ju (h0 x) (h0 y) h)
  have sh:∀ v,op = .shl∨op = .shr→rsh op (rx a (ZQ G x)) (rx a (ZQ G y))=some v→sM P op t x y (rx a (ZQ G x)) (rx a (ZQ G y))=some v:=fun v ho h=>by
   unfold rsh at h;split at h
   ·rename_i k m k' n e1 e2
    unfold sM;rw [e1,e2,MC];rcases ho with rfl | rfl<;>exact h
   ·cases h
  split at hc
  ·cases hc;have h9:=bg h;clear h;obtain ⟨h,rfl⟩:=h9;exact fin v (sh v (.inl rfl) h)
  ·cases hc;have h9:=bg h;clear h;obtain ⟨h,rfl⟩:=h9;exact fin v (sh v (.inr rfl) h)
  ·cases hc;have h9:=bg h;clear h;obtain ⟨h,rfl⟩:=h9
   refine fin v ?_;unfold ran at h;split at h
   ·rename_i k m k' n e1 e2
    unfold sM;rw [e1,e2,MC];exact h
   ·cases h
  ·rename_i n1 n2 n3
   split at hc
   ·rename_i k hu
    cases hc;have h9:=bg h;clear h;obtain ⟨h,rfl⟩:=h9;exact fin v (J8 n1 n2 n3 (fun ms e=>by rw [hu] at e;cases e) h)
   ·rename_i hu
    cases hc;have h9:=bg h;clear h;obtain ⟨h,rfl⟩:=h9;exact fin v (J8 n1 n2 n3 (fun ms e=>by rw [hu] at e;cases e) h)
   ·split at hc
    ·cases hc;have h9:=bg h;clear h;obtain ⟨h,rfl⟩:=h9
     exact fin v (Pv (neg:=false) rfl h)
    ·cases hc;have h9:=bg h;clear h;obtain ⟨h,rfl⟩:=h9
     exact fin v (Pv (neg:=true) rfl h)
    ·cases hc
 case unOp op t x=>
  cases hc;have h9:=bg h;clear h;obtain ⟨h,rfl⟩:=h9;exact fN hi (Mk (h0 x) h)
 case convert s d x=>
  have fin:∀ v,qA P H s d (rx a (ZQ G x))=some v→HH P K ((execOp act.eval ⟨dst,.convert s d x,type,pos,after,guard⟩).run P w) v H:=fun v h=>fk (Gp hi (h0 x) h)
  split at hc
  ·rename_i e hs hd
   split at hc
   ·rename_i he
    cases hc;have h9:=bg h;clear h;obtain ⟨h,rfl⟩:=h9;refine fin v ?_;unfold qA;rw [hs,hd];simp only [HC];rw [he];unfold Mw at h;split at h<;>rename_i hx<;>first | (cases h;done) | (rw [hx];exact h) | exact h
   ·rename_i he
    cases hc;have h9:=bg h;clear h;obtain ⟨h,rfl⟩:=h9;exact fN hi (MB hi hs he hd (h0 x) h)
   ·cases hc
  ·rename_i e hs hd
   split at hc
   ·rename_i he
    cases hc;have h9:=bg h;clear h;obtain ⟨h,rfl⟩:=h9;refine fin v ?_;unfold RQ at h;split at h
    ·rename_i s' hx
     unfold qA;rw [hs,hd,hx];simp only;rw [he];exact h
    ·cases h
   ·rename_i he
    cases hc;have h9:=bg h;clear h;obtain ⟨h,rfl⟩:=h9;exact fk (MA hi hs hd he (h0 x) h)
   ·cases hc
  ·cases hc
  ·rename_i ds k n1 hs hd
   have hns:∀ e,ds≠.slice e:=fun e he=>n1 e (by rw [he])
   cases hc;have h9:=bg h;clear h;obtain ⟨h,rfl⟩:=h9;refine fin v ?_;unfold Mv at h;split at h
   ·rename_i k' n hx
    unfold qA ym;rw [hx,hs,hd];cases ds<;>first | exact h | exact absurd rfl (hns _)
   ·cases h
  ·rename_i ds n1 hs hd
   have hns:∀ e,ds≠.slice e:=fun e he=>n1 e he
   cases hc;have h9:=bg h;clear h;obtain ⟨h,rfl⟩:=h9;refine fin v ?_;unfold RP at h;split at h
   ·rename_i k' n hx
    unfold qA ym;rw [hx,hs,hd];cases ds<;>first | exact h | exact absurd rfl (hns _)
   ·rename_i k' hx
    unfold qA ym;rw [hx,hs,hd];cases ds<;>first | exact h | exact absurd rfl (hns _)
   ·cases h
  ·rename_i t hs hd
   split at hc
   ·rename_i j hj
    split at hc
    ·cases hc
    ·rename_i hsz
     cases hc;have h9:=bg h;clear h;obtain ⟨h,rfl⟩:=h9;unfold RT at h;split at h
     ·rename_i id off he
      split at h
      ·rename_i cs T hob
       split at h
       ·rename_i hlt
        cases h;have hx:=h0 x;rw [he] at hx;obtain ⟨b,vs,T2,g1,g2,g3,g4,g5⟩:=hi.obj id _ hob;generalize hcx:act.eval x=cx at hx;cases hx with
        |ptr _ _ b' hb=>
         rw [g1] at hb;cases hb;refine fk ⟨K,_,w,.refl K, ?_,.ptr _ _ _ g1,hi⟩;rw [hcx];exact Lib.run_to_unsafe (P:=P) w ⟨b,off,none⟩ hs hd hj hsz (by simp [World.shape?,g3];exact ⟨rfl,rfl⟩) (by simp;omega)
       ·cases h
      ·cases h
     ·cases h
   ·cases hc
  ·rename_i u hs hd
   split at hc
   ·rename_i j hj
    split at hc
    ·cases hc
    ·rename_i hsz
     split at hc
     ·cases hc;have h9:=bg h;clear h;obtain ⟨h,rfl⟩:=h9
      unfold WA at h;split at h
      ·rename_i id he
       split at h
       ·rename_i cs T hob
        split at h
        ·rename_i hlt
         obtain ⟨rfl,hle⟩:=hlt;cases h;have hx:=h0 x;rw [he] at hx;obtain ⟨b,vs,T2,g1,g2,g3,g4,g5,g6,g7,g8,rfl⟩:=hi.obj id _ hob;generalize hcx:act.eval x=cx at hx;cases hx with
         |ptr _ _ b' hb=>
          rw [g1] at hb;cases hb;have hc0:P.cellsOf T2≠0:=fun e=>hsz (.inr e)
          refine fk ⟨K,_,w,.refl K, ?_,.ptr _ _ _ g1,hi⟩;rw [hcx];exact Lib.run_from_unsafe (P:=P) (e:=T2) (cells:=vs.size) w ⟨b,0,none⟩ hs hd hj (by simp [World.shape?,g3]) (F0 hc0 (apv (by omega) (aoK hc0)))
        ·cases h
       ·cases h
      ·cases h
     ·rename_i us _
      cases hc;have h9:=bg h;clear h;obtain ⟨h,rfl⟩:=h9;unfold RU at h;split at h
      ·rename_i id he
       split at h
       ·rename_i cs T hob
        split at h
        ·rename_i hlt
         obtain ⟨hT,hle⟩:=hlt;cases h;have hx:=h0 x;rw [he] at hx;obtain ⟨b,vs,T2,g1,g2,g3,g4,g5,g6,g7,g8,rfl⟩:=hi.obj id _ hob;generalize hcx:act.eval x=cx at hx;cases hx with
         |ptr _ _ b' hb=>
          rw [g1] at hb;cases hb;have hc0:P.cellsOf u≠0:=fun e=>hsz (.inr e)
          have hlies:liesAt P P.depth T2 (vs.size / P.cellsOf T2) 0 u 1=true:=by
           rcases Bool.or_eq_true_iff.1 hT with e | e
           ·have e:=amv e
            subst e;exact F0 hc0 (apv (by omega) (aoK hc0))
           ·obtain ⟨T3,hm,e⟩:=List.any_eq_true.1 e
            have e:=amv e;subst e;exact Lm hc0 (ao2.1 hm).2 (by omega)
          refine fk ⟨K,_,w,.refl K, ?_,.ptr _ _ _ g1,hi⟩;rw [hcx];exact Lib.run_from_unsafe (P:=P) (e:=T2) (cells:=vs.size) w ⟨b,0,none⟩ hs hd hj (by simp [World.shape?,g3]) hlies
        ·cases h
       ·cases h
      ·cases h
   ·cases hc
  ·cases hc
 case makeInterface t x=>
  have hx:=h1 t x;split at hc
  ·cases hc
  ·rename_i d hnd hu
   cases hc;cases h
   exact fN hi (Bj hx (by
    unfold sL;rw [hu];cases d<;>first | rfl | exact absurd rfl (hnd _)))
  ·cases hc
 case makeFunc f x y=>
  cases hc;cases h;exact fN hi ⟨_,rfl,Vs.fn (RW hg hr x) (RW hg hr y)⟩
 case slice t x l hh mx=>
  split at hc
  ·rename_i hcond
   have hms:((mx.map (ZQ G)).map (rx a)).isSome=true→((hh.map (ZQ G)).map (rx a)).isSome=true:=by
    intro hm;rcases hcond with hc | hc
    ·cases mx<;>simp at hc hm
    ·cases hh<;>simp at hc ⊢
   have fin:∀ (y v:AV),V K y (act.eval x)→CR P t y ((l.map (ZQ G)).map (rx a)) ((hh.map (ZQ G)).map (rx a)) ((mx.map (ZQ G)).map (rx a))=some v→HH P K ((execOp act.eval ⟨dst,.slice t x l hh mx,type,pos,after,guard⟩).run P w) v H:=
    fun y v hy h=>fN hi (K7 hy (Ll hg hr l) (Ll hg hr hh) (Ll hg hr mx) hms h)
   split at hc
   ·rename_i hu
    split at hc
    ·rename_i hm
     cases hc;have h9:=bg h;clear h;obtain ⟨h,rfl⟩:=h9;refine fin _ v (h0 x) ?_;unfold ET at h;split at h
     ·rename_i s he
      unfold CR;rw [hu,he];have hm0:mx=none:=by cases mx<;>simp at hm ⊢
      subst hm0;simp only [aon];split at h<;>rename_i e1 e2<;>first | (cases h;done) | (rw [e1,e2];exact h)
     ·cases h
    ·cases hc
   ·rename_i e hu
    split at hc
    ·rename_i sz hsz
     cases hc;have h9:=bg h;clear h;obtain ⟨h,rfl⟩:=h9;refine fin _ v (h1 t x) ?_;unfold AN at h;unfold CR;rw [hu];split at h
     ·rename_i tag esz rows he
      rw [he];simp only;split at h<;>rename_i e1 e2 e3<;>first | (cases h;done) | (rw [e1,e2,e3,hsz];exact h)
     ·rename_i id off len esz room he
      rw [he];simp only;split at h<;>rename_i e1 e2 e3<;>first | (cases h;done) | (rw [e1,e2,e3,hsz];exact h)
     ·cases h
    ·cases hc
   ·rename_i n e hu
    split at hc
    ·rename_i hm
     split at hc
     ·rename_i sz hsz
      cases hc;have h9:=bg h;clear h;obtain ⟨h,rfl⟩:=h9;refine fin _ v (h0 x) ?_;unfold Wz at h;split at h
      ·rename_i id off he
       unfold CR;rw [hu,he];have hm0:mx=none:=by cases mx<;>simp at hm ⊢
       subst hm0;simp only [aon];split at h<;>rename_i e1 e2<;>first | (cases h;done) | (rw [e1,e2,hsz];exact h)
      ·cases h
     ·cases hc
    ·cases hc
   ·cases hc
  ·cases hc
 case fieldAddr s x f=>
  split at hc
  ·rename_i t o hf
   split at hc
   ·rename_i n hsz
    cases hc;have h9:=bg h;clear h;obtain ⟨h,rfl⟩:=h9;refine fN hi (Js (h0 x) (f:=f) ?_);unfold Dw;simp only [hf,hsz];exact h
   ·cases hc
  ·cases hc
 case field s x f=>
  split at hc
  ·rename_i t o hf
   split at hc
   ·rename_i g hgt
    cases hc;have h9:=bg h;clear h;obtain ⟨h,rfl⟩:=h9;refine fN hi (Mi (h0 x) (f:=f) ?_);unfold rfd at h;unfold KW;rw [hf];split at h
    ·rename_i cs he
     rw [he];simp only [acy hgt];exact h
    ·cases h
   ·cases hc
  ·cases hc
 case indexAddr t x i=>
  split at hc
  ·rename_i e hu
   split at hc
   ·rename_i sz hsz
    cases hc;have h9:=bg h;clear h;obtain ⟨h,rfl⟩:=h9;refine fN hi (CD (h0 x) (h0 i) ?_);unfold qV at h;unfold Bb;rw [hu];split at h<;>rename_i e1 e2<;>first | (cases h;done) | (rw [e1,e2];simp only [hsz];exact h)
   ·cases hc
  ·rename_i n e hu
   split at hc
   ·rename_i sz hsz
    cases hc;have h9:=bg h;clear h;obtain ⟨h,rfl⟩:=h9;refine fN hi (CD (h0 x) (h0 i) ?_);unfold Wx at h;unfold Bb;rw [hu];split at h<;>rename_i e1 e2<;>first | (cases h;done) | (rw [e1,e2];simp only [hsz];exact h)
   ·cases hc
  ·cases hc
 case index t x i=>
  split at hc
  ·rename_i hu
   cases hc;have h9:=bg h;clear h;obtain ⟨h,rfl⟩:=h9;refine fN hi (FW (h0 x) (h0 i) ?_);unfold Mu at h;unfold Hs;rw [hu];split at h<;>rename_i e1 e2<;>first | (cases h;done) | (rw [e1,e2];exact h)
  ·rename_i n e hu
   split at hc
   ·rename_i sz g hsz hgt
    cases hc;have h9:=bg h;clear h;obtain ⟨h,rfl⟩:=h9;refine fN hi (FW (h0 x) (h0 i) ?_);unfold Wy at h;unfold Hs;rw [hu];split at h<;>rename_i e1 e2<;>first | (cases h;done) | (rw [e1,e2];simp only [hsz,acy hgt];exact h)
   ·cases hc
  ·cases hc
 case extract x i=>
  cases hc;have h9:=bg h;clear h;obtain ⟨h,rfl⟩:=h9;exact fN hi (Hz (h0 x) h)
 case typeAssert x X T ok=>
  have hx:=h0 x;split at hc
  ·cases hc
  ·rename_i d hnd hu
   cases hc;have h9:=bg h;clear h;obtain ⟨h,rfl⟩:=h9;refine fN hi (DB hx (T:=T) ?_)
   have key:∀ v,((match P.info? T with | some i=>i.zero.map lH | none=>none:Option AV).map fun z=>AV.tuple [z,.bool false])=some v →
     (match P.info? T with | some i=>(match i.zero with | some z=>some (AV.tuple [lH z,.bool false]) | none=>none) | none=>none)=some v:=fun v hv=>by
    split
    ·rename_i i he
     simp only [he] at hv;split
     ·rename_i z hz;simp only [hz,amO] at hv;exact hv
     ·rename_i hz;simp [hz] at hv
    ·rename_i he;simp [he] at hv
   unfold rta at h;unfold xo;rw [hu];split at h
   ·rename_i t v' he
    rw [he]
    have:(if t=T then some (if ok then AV.tuple [v',.bool true] else v') else if ok then (match P.info? T with | some i=>(match i.zero with | some z=>some (AV.tuple [lH z,.bool false]) | none=>none) | none=>none) else none)=some v:=by
     split at h
     ·rename_i e;rw [if_pos e];exact h
     ·rename_i e
      rw [if_neg e];split at h
      ·rename_i e2;rw [if_pos e2];exact key v h
      ·cases h
    cases d<;>first | exact this | exact absurd rfl (hnd _)
   ·rename_i he
    rw [he]
    have:(if ok then (match P.info? T with | some i=>(match i.zero with | some z=>some (AV.tuple [lH z,.bool false]) | none=>none) | none=>none) else none)=some v:=by
     split at h
     ·rename_i e2;rw [if_pos e2];exact key v h
     ·cases h
    cases d<;>first | exact this | exact absurd rfl (hnd _)
   ·cases h
  ·cases hc
 case makeMap t r=>
  cases r with
  |some r=>cases hc
  |none=>
   cases hc;cases h;refine fk ⟨K.push w.heap.size,_,w.alloc (.map #[] 0),K.aaI _,by simp [Instr.makeMap];rfl,.map _ _ (by simp [aC.push,aC.ZJ,hi.len]), ?_⟩;exact hi.aaU (.map []) _ rfl none (fun s h=>by cases h) fun w' hw' _ _=>⟨w.heap.size,#[],0,by simp [aC.ZJ],hi.new,hw',rfl,fun i k v h=>by simp at h,hi.acD⟩
 case makeSlice t l c=>
  split at hc
  ·rename_i e hu
   split at hc
   ·rename_i i cs hinfo hz
    split at hc
    ·rename_i hsz
     cases hc;refine fk (EO hi (h0 l) (h0 c) (t:=t) ?_);unfold AE at hz;rw [hinfo] at hz;simp only at hz;split at hz
     ·rename_i z hz2
      simp only [Z1,rms] at h;split at h
      ·rename_i k1 l1 k2 c1 e1 e2
       unfold zu;rw [hu,e1,e2];simp only [hinfo,hz2,hz];split at h
       ·rename_i hcond
        rw [if_pos ⟨hcond.1,hcond.2.1,hcond.2.2.1,hcond.2.2.2,hsz⟩,← hsz];exact h
       ·cases h
      ·cases h
     ·cases hz
    ·cases hc
   ·cases hc
  ·cases hc
 case insert t m k v'=>
  split at hc
  ·rename_i kt et hu
   cases hc;have h9:=wj h;clear h;obtain ⟨h,rfl⟩:=h9;obtain ⟨w',h3,h4⟩:=yn (P:=P) (t:=t) hi (h0 m) (h0 k) (h1 et v') (Ka hu h);exact ⟨K,undef,w',.refl K,.inr ⟨by simp [execOp,h3],rfl⟩,Cf,h4⟩
  ·cases hc
 case mapUpdate t m k v'=>
  split at hc
  ·rename_i kt et hu
   cases hc;have h9:=wj h;clear h;obtain ⟨h,rfl⟩:=h9;obtain ⟨w',h3,h4⟩:=yn (P:=P) (t:=t) hi (h0 m) (h0 k) (h1 et v') (Ka hu h);exact ⟨K,undef,w',.refl K,.inr ⟨by simp [execOp,h3],rfl⟩,Cf,h4⟩
  ·cases hc
 case lookup t x k ok=>
  split at hc
  ·rename_i kt et hu
   cases hc;have h9:=bg h;clear h;obtain ⟨h,rfl⟩:=h9;refine fN hi (Jx (t:=t) (ok:=ok) hi (h0 x) (h0 k) ?_);unfold rlk at h;unfold G7;rw [hu];simp only;split at h
   ·rename_i es he
    rw [he];simp only;split at h
    ·rename_i i v' hk;rw [aa0 hk];exact h
    ·rename_i hk
     rw [aa0 hk];simp only;cases hinfo:P.info? et with
     |none=>rw [hinfo] at h;simp at h
     |some i=>
      rw [hinfo] at h;simp only at h ⊢;cases hz:i.zero with
      |none=>rw [hz] at h;simp at h
      |some z=>rw [hz] at h;simpa using h
    ·cases h
   ·cases h
  ·cases hc
 case range t x=>
  split at hc
  ·rename_i hu
   cases hc;refine fk (Lc hi (h0 x) (t:=t) ?_);simp only [Z1,rrg] at h;unfold Lb;rw [hu];split at h<;>rename_i he<;>first | (cases h;done) | (rw [he];exact h)
  ·cases hc
 case next x b=>
  cases b
  ·cases hc
  ·cases hc;exact fk (Mt hi (h0 x) h)
 case call c=>
  have hex:∀ b,c.callee = .builtin b→(execOp act.eval ⟨dst,.call c,type,pos,after,guard⟩).run P w=(builtin b c.argTypes type (c.args.map fun | .const _=>true | _=>false) (c.args.map act.eval)).run P w:=by
   intro b hcal;unfold execOp;simp only [resolve,hcal,pure_bind,invoke];rfl
  split at hc
  ·rename_i b hcal
   rw [hex b hcal]
   have one:∀ x,c.args.toList=[x]→∀ v,V K v (act.eval x)→Vs K [v] (c.args.map act.eval):=fun x hx v hv=>by
    rw [yp hx];exact ⟨by simp,fun i av hi=>by cases i with | zero=>simp at hi;subst hi;simpa using hv | succ i=>simp at hi⟩
   have two:∀ x y,c.args.toList=[x,y]→∀ v u,V K v (act.eval x)→V K u (act.eval y)→Vs K [v,u] (c.args.map act.eval):=fun x y hx v u hv hu=>by
    rw [yp hx];exact ⟨by simp,fun i av hi=>by
     match i,hi with
     |0,hi=>simp at hi;subst hi;simpa using hv
     |1,hi=>simp at hi;subst hi;simpa using hu
     |i+2,hi=>simp at hi⟩
   split at hc
   ·rename_i t x ht hx
    split at hc
    ·rename_i hu
     cases hc;have h9:=bg h;clear h;obtain ⟨h,rfl⟩:=h9;refine eC (m:=true) hi (one x hx _ (h0 x)) ?_ type _;simp only [j7,ht,NY,hu];unfold CX at h;split at h<;>rename_i e1 e2<;>first | (cases h;done) | (cases e1;done) | (rw [e2];simp only [amO];cases h;rfl)
    ·rename_i e hu
     cases hc;have h9:=bg h;clear h;obtain ⟨h,rfl⟩:=h9;refine eC (m:=true) hi (one x hx _ (h1 t x)) ?_ type _;simp only [j7,ht,NY,hu];unfold CX at h;split at h<;>rename_i e1 e2<;>first | (cases h;done) | (cases e1;done) | (rw [e2];simp only [amO];cases h;rfl)
    ·rename_i n e hu
     cases hc;cases h;refine eC (m:=true) hi (one x hx _ (h0 x)) ?_ type _;simp only [j7,ht,NY,hu,rx];rfl
    ·rename_i k e hu
     cases hc;have h9:=bg h;clear h;obtain ⟨h,rfl⟩:=h9;refine eC (m:=true) hi (one x hx _ (h0 x)) ?_ type _;simp only [j7,ht,NY,hu];unfold CX at h;split at h<;>rename_i e1 e2<;>first | (cases h;done) | (cases e1;done) | (rw [e2];cases h;rfl) | (rw [e2];split at h<;>first | (cases h;done) | (rename_i e3;dsimp only;rw [e3];cases h;rfl))
    ·cases hc
   ·rename_i t x ht hx
    split at hc
    ·rename_i e hu
     cases hc;have h9:=bg h;clear h;obtain ⟨h,rfl⟩:=h9;refine eC (m:=true) hi (one x hx _ (h1 t x)) ?_ type _;simp only [j7,ht,RK,hu];unfold RR at h;split at h<;>rename_i e1<;>first | (cases h;done) | (rw [e1];cases h;rfl)
    ·rename_i n e hu
     cases hc;cases h;refine eC (m:=true) hi (one x hx _ (h0 x)) ?_ type _;simp only [j7,ht,RK,hu,rx];rfl
    ·cases hc
   ·rename_i t u s x ht hx
    split at hc
    ·rename_i e hu
     split at hc
     ·rename_i i hinfo
      split at hc
      ·rename_i z e2 hz hu2
       split at hc
       ·rename_i hzs
        cases hc;exact eC (m:=m) hi (two s x hx _ _ (h1 t s) (h1 u x)) (by simp only [j7,ht];exact J9 hu hinfo hz hzs ⟨_,hu2,fun _=>⟨_,rfl⟩,fun e=>by cases e⟩ h) type _
       ·cases hc
      ·rename_i z hz hu2
       split at hc
       ·rename_i hzs
        cases hc;exact eC (m:=m) hi (two s x hx _ _ (h1 t s) (h1 u x)) (by simp only [j7,ht];exact J9 hu hinfo hz hzs ⟨_,hu2,fun e=>(by cases e),fun _=>rfl⟩ h) type _
       ·cases hc
      ·rename_i z kk hz hu2
       split at hc
       ·rename_i cs hcs
        split at hc
        ·rename_i hcc
         cases hc;have h3:c.args.map act.eval = #[act.eval s,act.eval x]:=by rw [yp hx];simp
         have h4:c.argTypes = #[t,u]:=by rw [yp ht]
         have:=fk (N6 (P:=P) hi hu hu2 hinfo hz hcs hcc.1 (h1 t s) (h0 x) h type);rw [h3,h4];exact this
        ·cases hc
       ·cases hc
      ·cases hc
     ·cases hc
    ·cases hc
   ·rename_i t x ht hx
    split at hc
    ·rename_i e hu
     split at hc
     ·rename_i i hinfo
      split at hc
      ·rename_i z hz
       split at hc
       ·rename_i cs hcs
        split at hc
        ·rename_i hcc
         cases hc;have h9:=wj h;clear h;obtain ⟨h,rfl⟩:=h9;have h3:c.args.map act.eval = #[act.eval x]:=by rw [yp hx];simp
         have h4:c.argTypes = #[t]:=by rw [yp ht]
         obtain ⟨w',g1,g2⟩:=Qs (P:=P) hi hu hinfo hz hcs hcc.1 hcc.2 (h1 t x) h type;have:=fk (P:=P) ⟨K,_,w',.refl K,g1,Cf,g2⟩;rw [h3,h4];exact this
        ·cases hc
       ·cases hc
      ·cases hc
     ·cases hc
    ·cases hc
   ·rename_i t u d s ht hx
    split at hc
    ·rename_i e hu
     have fin:∀ sz str,iX P e=some sz→(∃ d,P.underlying u=some d∧(str=false→∃ e,d = .slice e)∧(str=true→d = .string))→rcp H sz str (rx a (cx P G t d)) (rx a (cx P G u s))=some (v,H')→Mp P H t u (rx a (cx P G t d)) (rx a (cx P G u s))=some (v,H'):=fun sz str hsz hu2 h=>by
      unfold rcp at h;unfold Mp;rw [hu];simp only [hsz];split at h
      ·rename_i id off len esz room rows e1 e2
       rw [e1,CZ hu2 e2];exact h
      ·cases h
     split at hc
     ·rename_i sz e2 hsz hu2
      cases hc;exact eC (m:=m) hi (two d s hx _ _ (h1 t d) (h1 u s)) (by simp only [j7,ht];exact fin sz false hsz ⟨_,hu2,fun _=>⟨_,rfl⟩,fun e=>by cases e⟩ h) type _
     ·rename_i sz hsz hu2
      cases hc;exact eC (m:=m) hi (two d s hx _ _ (h1 t d) (h1 u s)) (by simp only [j7,ht];exact fin sz true hsz ⟨_,hu2,fun e=>(by cases e),fun _=>rfl⟩ h) type _
     ·cases hc
    ·cases hc
   ·rename_i t x ht hx
    split at hc
    ·rename_i e1 e2 hu1 hu2
     cases hc;have h9:=bg h;clear h;obtain ⟨h,rfl⟩:=h9;have h3:c.args.map act.eval = #[act.eval x]:=by rw [yp hx];simp
     have:=fk (N8 (P:=P) hi (ts:=c.argTypes) hu2 (h0 x) h);rw [h3];exact this
    ·cases hc
   ·rename_i t it x n ht hx
    split at hc
    ·rename_i e hu
     split at hc
     ·rename_i hc1
      cases hc;have h9:=bg h;clear h;obtain ⟨h,rfl⟩:=h9;have h3:c.args.map act.eval = #[act.eval x,act.eval n]:=by rw [yp hx];simp
      have h4:c.argTypes = #[t,it]:=by rw [yp ht]
      have:=fk (N9 (P:=P) hi (pt:=t) (it:=it) (ty:=type) hu hc1 (h0 x) (h0 n) h);rw [h3,h4];exact this
     ·cases hc
    ·cases hc
   ·rename_i ts x y hx
    cases hc;have h9:=bg h;clear h;obtain ⟨h,rfl⟩:=h9;exact eC (m:=m) hi (two x y hx _ _ (h0 x) (h0 y)) (by simp only [j7,h];rfl) type _
   ·rename_i ts x y hx
    cases hc;have h9:=bg h;clear h;obtain ⟨h,rfl⟩:=h9;exact eC (m:=m) hi (two x y hx _ _ (h0 x) (h0 y)) (by simp only [j7,h];rfl) type _
   ·cases hc
  ·cases hc
end
section
variable{P:Program}{G:Nat→Option (List AV)}{K:aC}{N:Fr}{a:Env}{H:List Y4}{act:Act}{w:World}{ops:Array Oper}{cls:Nat→Cl}{Kp:List Y4→List Y4→Prop}{Q:kA→Env→List Y4→Prop}
 {D DP:Nat→Env→List Y4→AV→List Y4→Prop}
structure F6 (P:Program) (G:Nat→Option (List AV)) (N:Fr) (ops:Array Oper) (cls:Nat→Cl) (D DP:Nat→Env→List Y4→AV→List Y4→Prop):Prop where
 putP:∀ (i:Nat) (o:Oper) (dst:Option Tmp) (u:AV) (a:Env) (H:List Y4) (v:AV) (H':List Y4),ops[i]?=some o→(∀ d,dst=some d→d ∉ o.looksAt ops)→(DP i (kE a dst u) H v H'↔DP i a H v H')
 panic:∀ (i:Nat) (o:Oper) (a:Env) (H:List Y4) (p:AV) (H':List Y4),ops[i]?=some o→DP i a H p H'→∀ (K:aC) (act:Act) (w:World) (next:Act→World→Prop) (Qx:Exit→Act→World→Prop),K.ZC=G→Rel N K a H act w →
  (∀ K' act' w' cv,K.le K'→V K' p cv→Rel N K' a H' act' w'→Qx (.panic [{ v:=cv,recovered:=false }]) act' w')→o.wpIn N.F 0 P act w next Qx
 put:∀ (i:Nat) (o:Oper) (dst:Option Tmp) (u:AV) (a:Env) (H:List Y4) (v:AV) (H':List Y4),ops[i]?=some o→(∀ d,dst=some d→d ∉ o.looksAt ops)→(D i (kE a dst u) H v H'↔D i a H v H')
 pure:∀ (i:Nat) (a:Env) (H:List Y4) (v:AV) (H':List Y4),cls i = .pure→D i a H v H'→H'=H∧∀ H3,D i a H3 v H3
 step:∀ (i:Nat) (o:Oper) (a:Env) (H:List Y4) (v:AV) (H':List Y4),ops[i]?=some o→D i a H v H'→∀ (K:aC) (act:Act) (w:World) (next:Act→World→Prop) (Q:Exit→Act→World→Prop),K.ZC=G→Rel N K a H act w →
  (∀ d,o.dst=some d→d<N.n)→(∀ K' act' w',K.le K'→Rel N K' (kE a o.dst v) H' act' w'→next act' w')→o.wpIn N.F 0 P act w next Q
def MD(ops:Array Oper)(i:Nat):Prop:=∀ j oj,ops[j]?=some oj→j≠i→Dep ops i j∨Dep ops j i
structure vM (N:Fr) (ops:Array Oper) (Kp:List Y4→List Y4→Prop) (D:Nat→Env→List Y4→AV→List Y4→Prop) (i:Nat) (c:Cl) (a:Env) (H:List Y4) (o:Oper) (v:AV) (H':List Y4):Prop where
 dst:∀ d,o.dst=some d→d<N.n
 still:c.still=true→H'=H
 Zn:c.keeps=true→Kp H H'
 step:(nr ops a o=some true∧D i a H v H'∧(c = .wide→∀ H2,Kp H H2→D i a H2 v H2))∨(nr ops a o=some false∧v=jY∧H'=H)
def dOp(N:Fr)(ops:Array Oper)(Kp:List Y4→List Y4→Prop)(D DP:Nat→Env→List Y4→AV→List Y4→Prop)(cls:Nat→Cl)(Q:kA→Env→List Y4→Prop)(i:Nat)(Kt:Env→List Y4→Prop)(a:Env)(H:List Y4):Prop:=
 match ops[i]? with
 |none=>Kt a H
 |some o=>(∃ v H',vM N ops Kp D i (cls i) a H o v H'∧Kt (kE a o.dst v) H')∨(∃ p H',cls i≠.pure∧nr ops a o=some true∧DP i a H p H'∧((∀ a,Q (.panic p) a H')∨(MD ops i∧Q (.panic p) a H')))
def Jy(N:Fr)(ops:Array Oper)(Kp:List Y4→List Y4→Prop)(D DP:Nat→Env→List Y4→AV→List Y4→Prop)(cls:Nat→Cl)(Q:kA→Env→List Y4→Prop):Nat→Array Bool→Env→List Y4→Prop
 |0,listed,a,H=>Region.ready .any ops listed=[]∧Q .normal a H
 |fuel+1,listed,a,H=>(Region.ready .any ops listed=[]→Q .normal a H) ∧
  ∀ i∈Region.ready .any ops listed,dOp N ops Kp D DP cls Q i (Jy N ops Kp D DP cls Q fuel (listed.setIfInBounds i true)) a H
theorem zy(hD:F6 P G N ops cls D DP)(hg0:K.ZC=G):∀ (fuel:Nat) (listed:Array Bool) (K':aC) (a:Env) (H:List Y4) (act:Act) (w:World),K.le K'→Rel N K' a H act w →
  Jy N ops Kp D DP cls Q fuel listed a H→wpAnyIn N.F 0 P .any ops (KV N K Q) fuel listed act w
 |0,listed,K',a,H,act,w,hk,hr,h=>⟨h.1,K',.normal,a,H,hk,trivial,hr,h.2⟩
 |fuel+1,listed,K',a,H,act,w,hk,hr,h=>by
  refine ⟨fun h0=>⟨K',.normal,a,H,hk,trivial,hr,h.1 h0⟩,fun i hi => ?_⟩;have h1:=h.2 i hi;unfold dOp at h1;unfold wpOpIn;cases ho:ops[i]? with
  |none=>
   simp only [ho] at h1;exact zy hD hg0 fuel _ K' a H act w hk hr h1
  |some o=>
   simp only [ho] at h1;simp only;rcases h1 with ⟨v,H',⟨hd,_,_,hy⟩,hK⟩ | ⟨p,H',_,hw,hdp,hQ⟩
   rotate_left
   ·rw [rm hr hw]
    simp only [if_true];refine hD.panic i o a H p H' ho hdp K' act w _ _ (hk.ZC.trans hg0) hr ?_;intro K2 act2 w2 cv hk2 hv hr2;exact ⟨K2,.panic p,a,H',hk.trans hk2,⟨cv,rfl,hv⟩,hr2,hQ.elim (fun h=>h a) (fun h=>h.2)⟩
   rcases hy with ⟨hw,hdet,_⟩ | ⟨hw,rfl,rfl⟩
   ·rw [rm hr hw]
    simp only [if_true];refine hD.step i o a H v H' ho hdet K' act w _ _ (hk.ZC.trans hg0) hr hd ?_;intro K2 act2 w2 hk2 hr2;exact zy hD hg0 fuel _ K2 _ _ act2 w2 (hk.trans hk2) hr2 hK
   ·rw [rm hr hw]
    simp only [amQ,if_false];exact ⟨fun f _=>N.fn f,zy hD hg0 fuel _ K' _ _ _ w hk (hr.put (.refl K') hr.inv Cf hd) hK⟩
theorem xq(hD:F6 P G N ops cls D DP){i:Nat}{o:Oper}(hoi:ops[i]?=some o){c:Cl}{dst:Option Tmp}{u v:AV}{H':List Y4}(h:∀ d,dst=some d→d ∉ o.looksAt ops)(hy:vM N ops Kp D i c a H o v H'):vM N ops Kp D i c (kE a dst u) H o v H':=by
 obtain ⟨h1,h3,h4,h5⟩:=hy;refine ⟨h1,h3,h4, ?_⟩;simp only [Bo h,hD.put i o dst u a _ _ _ hoi h];exact h5
theorem Lq(hD:F6 P G N ops cls D DP){i:Nat}{o:Oper}(hoi:ops[i]?=some o){c:Cl}{dst:Option Tmp}{u v:AV}{H':List Y4}(h:∀ d,dst=some d→d ∉ o.looksAt ops)(hy:vM N ops Kp D i c (kE a dst u) H o v H'):vM N ops Kp D i c a H o v H':=by
 obtain ⟨h1,h3,h4,h5⟩:=hy;simp only [Bo h,hD.put i o dst u a _ _ _ hoi h] at h5;exact ⟨h1,h3,h4,h5⟩
theorem zA(hD:F6 P G N ops cls D DP){i:Nat}(hc:cls i = .pure){o:Oper}{v:AV}{H1 H2:List Y4}(h:vM N ops Kp D i .pure a H1 o v H2):H2=H1∧∀ H3,vM N ops Kp D i .pure a H3 o v H3:=by
 obtain ⟨h1,h3,h4,h5⟩:=h;rcases h5 with ⟨hw,hd,_⟩ | ⟨hw,hv,hH⟩
 ·obtain ⟨e1,e2⟩:=hD.pure i _ _ _ _ hc hd
  exact ⟨e1,fun H3=>⟨h1,fun _=>rfl,fun h=>(by cases h),.inl ⟨hw,e2 H3,fun h=>by cases h⟩⟩⟩
 ·exact ⟨hH,fun H3=>⟨h1,fun _=>rfl,fun h=>(by cases h),.inr ⟨hw,hv,rfl⟩⟩⟩
theorem Oa(hD:F6 P G N ops cls D DP)(htrans:∀ H1 H2 H3,Kp H1 H2→Kp H2 H3→Kp H1 H3){i:Nat}{oi:Oper}{v:AV}(hi:ops[i]?=some oi) :
  ∀ (fuel:Nat) (listed:Array Bool) (a:Env) (H H':List Y4),Bp ops listed →
   (∀ j oj,ops[j]?=some oj→j≠i→listed.getD j true=false→¬ Dep ops i j→oi.apart ops oj=true∧(cls i).aeT (cls j)=true) →
   i∈Region.ready .any ops listed→vM N ops Kp D i (cls i) a H oi v H' →
   Jy N ops Kp D DP cls Q fuel (listed.setIfInBounds i true) (kE a oi.dst v) H'→Jy N ops Kp D DP cls Q (fuel+1) listed a H:=by
 intro fuel;induction fuel with
 |zero=>
  intro listed a H H' _ _ hr hy hA;refine ⟨fun h=>(by rw [h] at hr;cases hr),fun j hj => ?_⟩
  by_cases hji:j=i
  ·subst hji;unfold dOp;rw [hi];exact .inl ⟨v,H',hy,hA⟩
  ·have:=ready_mono hj hji
   rw [hA.1] at this;cases this
 |succ fuel ih=>
  intro listed a H H' hcl hfree hr hy hA;refine ⟨fun h=>(by rw [h] at hr;cases hr),fun j hj => ?_⟩
  by_cases hji:j=i
  ·subst hji;unfold dOp;rw [hi];exact .inl ⟨v,H',hy,hA⟩
  ·have h1:=hA.2 j (ready_mono hj hji)
   obtain ⟨hjun,oj,hoj,hall⟩:=mem_ready.1 hj;have hiun:listed.getD i true=false:=(mem_ready.1 hr).1
   have hnot:¬ Dep ops i j:=fun hd=>by
    have key:∀ e∈oj.after,Region.binds .any e=true→listed.getD e.on true=true:=fun e he hb=>qB (hall e he hb)
    cases hd with
    |one _ oj' e g1 g2 g3 g4=>
     rw [hoj] at g1;cases g1;have:=key e g2 g3;rw [g4,hiun] at this;cases this
    |more _ oj' e g1 g2 g3 g4=>
     rw [hoj] at g1;cases g1;have:=hcl.dep g4 (key e g2 g3);rw [hiun] at this;cases this
   obtain ⟨hap,hmix⟩:=hfree j oj hoj hji hjun hnot;obtain ⟨ap1,ap2,ap3⟩:=Oper.apart_spec hap
   have hcl':Bp ops (listed.setIfInBounds j true):=fun k ok hk hkl e he hb=>by
    have up:∀ m,listed.getD m true=true→(listed.setIfInBounds j true).getD m true=true:=fun m hm=>by
     by_cases hjm:j=m
     ·subst hjm
      rcases aoI j listed.size with h' | h'
      ·simp [amd,h']
      ·simp [amd,an8 h']
     ·rw [getD_set_ne true hjm];exact hm
    by_cases hjk:j=k
    ·subst hjk
     rw [hoj] at hk;cases hk;exact up _ (qB (hall e he hb))
    ·rw [getD_set_ne true hjk] at hkl
     exact up _ (hcl k ok hk hkl e he hb)
   have hfree':∀ k ok,ops[k]?=some ok→k≠i→(listed.setIfInBounds j true).getD k true=false →
     ¬ Dep ops i k→oi.apart ops ok=true∧(cls i).aeT (cls k)=true:=fun k ok hk hki hun hno=>by
    refine hfree k ok hk hki ?_ hno
    by_cases hjk:j=k
    ·subst hjk;exact hjun
    ·rw [getD_set_ne true hjk] at hun;exact hun
   unfold dOp at h1 ⊢;rw [hoj] at h1 ⊢;rcases h1 with ⟨u,Hj,hyj,hK⟩ | ⟨p,Hp,hcp,hwp,hdp,hQp⟩
   rotate_left
   ·have hH:H'=H:=by
     cases hci:cls i<;>cases hcj:cls j<;>rw [hci,hcj] at hmix<;>first
      |exact absurd hcj hcp
      |(rw [hci] at hy;exact (zA hD hci hy).1)
      |exact hy.still (by rw [hci];rfl)
      |(cases hmix;done)
    subst hH;refine .inr ⟨p,Hp,hcp,by rw [← hwp];exact (Bo (u:=v) ap1).symm,(hD.putP j oj oi.dst v a _ _ _ hoj ap1).1 hdp, ?_⟩;rcases hQp with hQp | ⟨hpv,_⟩
    ·exact .inl hQp
    ·exfalso
     rcases hpv i oi hi (Ne.symm hji) with hd | hd
     ·obtain ⟨_,oi',hoi',hall'⟩:=mem_ready.1 hr
      have key:∀ e∈oi'.after,Region.binds .any e=true→listed.getD e.on true=true:=fun e he hb=>qB (hall' e he hb)
      cases hd with
      |one _ oj' e g1 g2 g3 g4=>
       rw [hoi'] at g1;cases g1;have:=key e g2 g3;rw [g4,hjun] at this;cases this
      |more _ oj' e g1 g2 g3 g4=>
       rw [hoi'] at g1;cases g1;have:=hcl.dep g4 (key e g2 g3);rw [hjun] at this;cases this
     ·exact hnot hd
   have hyj2:=Lq hD hoj ap1 hyj;rw [Array.setIfInBounds_comm _ _ (Ne.symm hji)] at hK;rw [Qq a v u ap2] at hK
   have both:(cls i).still=true→(cls j).still=true→dOp N ops Kp D DP cls Q j (Jy N ops Kp D DP cls Q (fuel+1) (listed.setIfInBounds j true)) a H:=fun s1 s2=>by
    have e1:=hy.still s1;subst e1;have e2:=hyj2.still s2;subst e2;unfold dOp;rw [hoj];exact .inl ⟨u,Hj,hyj2,ih (listed.setIfInBounds j true) _ Hj Hj hcl' hfree' (ready_mono hr (Ne.symm hji)) (xq hD hi ap3 hy) hK⟩
   have firstPure:cls i = .pure→dOp N ops Kp D DP cls Q j (Jy N ops Kp D DP cls Q (fuel+1) (listed.setIfInBounds j true)) a H:=fun hp=>by
    have hy':=hy;rw [hp] at hy';obtain ⟨rfl,hall2⟩:=zA hD hp hy';unfold dOp;rw [hoj];exact .inl ⟨u,Hj,hyj2,ih (listed.setIfInBounds j true) _ Hj Hj hcl' hfree' (ready_mono hr (Ne.symm hji)) (by rw [hp];exact xq hD hi ap3 (hall2 Hj)) hK⟩
   have secondPure:cls j = .pure→dOp N ops Kp D DP cls Q j (Jy N ops Kp D DP cls Q (fuel+1) (listed.setIfInBounds j true)) a H:=fun hp=>by
    have hyj':=hyj2;rw [hp] at hyj';obtain ⟨rfl,hall2⟩:=zA hD hp hyj';unfold dOp;rw [hoj];exact .inl ⟨u,H,by rw [hp];exact hall2 H,ih (listed.setIfInBounds j true) _ H Hj hcl' hfree' (ready_mono hr (Ne.symm hji)) (xq hD hi ap3 hy) hK⟩
   have wideKeep:cls i = .wide→(cls j).keeps=true→dOp N ops Kp D DP cls Q j (Jy N ops Kp D DP cls Q (fuel+1) (listed.setIfInBounds j true)) a H:=fun s1 s2=>by
    have e1:=hy.still (by rw [s1];rfl);subst e1;have hkp:=hyj2.Zn s2;unfold dOp;rw [hoj];refine .inl ⟨u,Hj,hyj2,ih (listed.setIfInBounds j true) _ Hj Hj hcl' hfree' (ready_mono hr (Ne.symm hji)) (xq hD hi ap3 ?_) hK⟩;obtain ⟨y1,y3,y4,y5⟩:=hy;refine ⟨y1,fun _=>rfl,(fun h=>by rw [s1] at h;cases h), ?_⟩;rcases y5 with ⟨hw,_,hwide⟩ | ⟨hw,hv,_⟩
    ·exact .inl ⟨hw,hwide s1 Hj hkp,fun _ H2 h2=>hwide s1 H2 (htrans _ _ _ hkp h2)⟩
    ·exact .inr ⟨hw,hv,rfl⟩
   have goal:dOp N ops Kp D DP cls Q j (Jy N ops Kp D DP cls Q (fuel+1) (listed.setIfInBounds j true)) a H:=by
    cases hci:cls i<;>cases hcj:cls j<;>rw [hci,hcj] at hmix<;>first
     |exact firstPure hci
     |exact secondPure hcj
     |exact wideKeep hci (by rw [hcj];rfl)
     |exact both (by rw [hci];rfl) (by rw [hcj];rfl)
     |(cases hmix;done)
   have:=goal;unfold dOp at this;rw [hoj] at this;exact this
def UF(N:Fr)(ops:Array Oper)(Kp:List Y4→List Y4→Prop)(D DP:Nat→Env→List Y4→AV→List Y4→Prop)(cls:Nat→Cl)(Q:kA→Env→List Y4→Prop):List Nat→Env→List Y4→Prop
 |[],a,H=>Q .normal a H
 |k::ord,a,H=>(∃ o v H',ops[k]?=some o∧vM N ops Kp D k (cls k) a H o v H'∧UF N ops Kp D DP cls Q ord (kE a o.dst v) H') ∨
  (∃ o p H',ops[k]?=some o∧cls k≠.pure∧nr ops a o=some true∧DP k a H p H'∧(((∀ j∈ord,Dep ops k j)∧∀ a,Q (.panic p) a H')∨(MD ops k∧Q (.panic p) a H')))
theorem ME(hD:F6 P G N ops cls D DP)(htrans:∀ H1 H2 H3,Kp H1 H2→Kp H2 H3→Kp H1 H3):∀ (ord:List Nat) (listed:Array Bool) (a:Env) (H:List Y4),Bp ops listed →
  zw ops cls ord listed=true→UF N ops Kp D DP cls Q ord a H→Jy N ops Kp D DP cls Q ord.length listed a H
 |[],_,_,_,_,hB,h=>⟨by simpa [zw] using hB,h⟩
 |k::ord,listed,a,H,hc,hB,h=>by
  simp only [zw,amb] at hB;have hBB:zw ops cls (k::ord) listed=true:=by simp only [zw,amb];exact hB
  obtain ⟨⟨hr,hf⟩,hB'⟩:=hB;have hr':k∈Region.ready .any ops listed:=by simpa using hr
  rcases h with ⟨o,v,H',ho,hy,h⟩ | ⟨o,p,H',ho,hcp,hwp,hdp,hQ⟩
  rotate_left
  ·refine ⟨fun h0=>(by rw [h0] at hr';cases hr'),fun i hi => ?_⟩
   by_cases hik:i=k
   ·subst hik;unfold dOp;rw [ho];exact .inr ⟨p,H',hcp,hwp,hdp,hQ.imp (fun h=>h.2) id⟩
   ·have him:i∈ord:=(ank.1 (HJ hBB hi)).resolve_left hik
    exfalso;obtain ⟨_,oj,hoj,hdeps⟩:=mem_ready.1 hi;have hkun:listed.getD k true=false:=(mem_ready.1 hr').1;have key:∀ e∈oj.after,Region.binds .any e=true→listed.getD e.on true=true:=fun e he hb=>qB (hdeps e he hb)
    have hall:Dep ops k i:=by
     rcases hQ with hQ | ⟨hpv,_⟩
     ·exact hQ.1 i him
     ·rcases hpv i oj hoj hik with hd | hd
      ·exact hd
      ·exfalso
       have hiun:listed.getD i true=false:=(mem_ready.1 hi).1;obtain ⟨_,ok',hok',hall'⟩:=mem_ready.1 hr';have key2:∀ e∈ok'.after,Region.binds .any e=true→listed.getD e.on true=true:=fun e he hb=>qB (hall' e he hb)
       cases hd with
       |one _ oj' e g1 g2 g3 g4=>
        rw [hok'] at g1;cases g1;have:=key2 e g2 g3;rw [g4,hiun] at this;cases this
       |more _ oj' e g1 g2 g3 g4=>
        rw [hok'] at g1;cases g1;have:=hc.dep g4 (key2 e g2 g3);rw [hiun] at this;cases this
    cases hall with
    |one _ oj' e g1 g2 g3 g4=>
     rw [hoj] at g1;cases g1;have:=key e g2 g3;rw [g4,hkun] at this;cases this
    |more _ oj' e g1 g2 g3 g4=>
     rw [hoj] at g1;cases g1;have:=hc.dep g4 (key e g2 g3);rw [hkun] at this;cases this
  exact Oa hD htrans ho ord.length listed a H H' hc (N1 ho hf) hr' hy (ME hD htrans ord _ _ _ (Lg hc hr') hB' h)
theorem Qw{id:Nat}(cls:Nat→Cl)(hD:F6 P G N ops cls D DP)(Kp:List Y4→List Y4→Prop)(ord:List Nat)(htrans:∀ H1 H2 H3,Kp H1 H2→Kp H2 H3→Kp H1 H3)(hm:P.follows .mixedOrders=true)
  (hl:ord.length=ops.size) (hB:zw ops cls ord (Array.replicate ops.size false)=true) (h:UF N ops Kp D DP cls Q ord a H) :
  AWP P G N (.region id ops true) Q a H:=fun K act w hg hr=>by
 refine wpIn_region_any hm (zy (Kp:=Kp) (cls:=cls) hD hg ops.size _ K a H act _ (.refl K) ⟨hr.inv.drew,hr.defers,hr.size,hr.tmps⟩ ?_);have:=ME (P:=P) (G:=G) (N:=N) (Q:=Q) hD htrans ord (Array.replicate ops.size false) a H Lh hB h;rw [hl] at this;exact this
end
inductive RS where
 |op (o:ROp)
 |call (f:RX) (args:List RX)
 |panic (x:RX)
 |inv (x:RX) (m:String) (args:List RX)
 deriving Inhabited
structure RO where
 d:Option Nat
 g:Option (Nat×Bool)
 s:RS
 deriving Inhabited
structure LH where
 live:Option (List Nat):=none
 tks:List (Nat×Nat×TypeId):=[]
 cut:Bool:=false
 deriving Inhabited
inductive AC where
 |skip
 |exit (id:Nat)
 |ret
 |seq (x y:AC)
 |cond (c:RX) (x y:AC)
 |block (id:Nat) (x:AC)
 |loop (h:LH) (x:AC)
 |ops (l:List RO)
 |Z0 (s:Bool) (T L:List Nat) (l:List (RO×Cl))
 |lv (l:List Nat)
 |fz (t:Nat) (l:List Nat)
 |bad
 |lbl (l:Nat)
 |goto (l:Nat)
 |scope (x t:AC)
 |tab (l:Nat) (r t:AC)
 |rfn (x:RX) (ps:List Nat) (y:List (List RO)) (z:AC)
 deriving Inhabited
def RX.ZL:RX→List Nat
 |.t n=>[n]
 |.c _=>[]
def DQ:Option RX→List Nat
 |some x=>x.ZL
 |none=>[]
def F7:List RX→List Nat
 |[]=>[]
 |x::l=>x.ZL++F7 l
def F8:List (Nat×RX)→List Nat
 |[]=>[]
 |x::l=>x.2.ZL++F8 l
def ROp.ZL:ROp→List Nat
 |.mv x | .bx _ x | .ld _ x | .nc x | .un _ x | .cvi _ x | .cvs x | .adh x | .aeF x | .mi _ x | .ta _ _ _ x | .fa _ x | .fd _ _ x | .ex x _ | .rg x | .nx x | .len _ x | .cap x | .usl x | .cvu x | .cvf _ _ x | .cvg _ _ _ x | .cl _ _ x | .agv x | .af0 x=>x.ZL
 |.pk c x y=>c.ZL++(x.ZL++y.ZL)
 |.nw _ _ | .mm | .nwb .. => []
 |.bd _ _ ps=>F8 ps
 |.bs _ _ _ ps=>F8 ps
 |.ba _ _ ps=>F8 ps
 |.bm _ _ _ _ ps=>F8 ps
 |.st _ x v=>x.ZL++v.ZL
 |.ar _ x y | .sh _ x y | .an x y | .eq _ _ x y | .ias _ x y | .iaa _ _ x y | .ZX x y | .ixa _ _ _ x y | .lk _ _ _ x y | .ap _ _ _ _ _ x y | .cp _ _ x y | .mx x y | .mn x y | .ms _ _ _ x y | .ust _ x y | .apz _ _ _ _ x y=>x.ZL++y.ZL
 |.mf _ xs ys=>F7 xs++F7 ys
 |.sls x l h=>x.ZL++(DQ l++DQ h)
 |.sll _ x l h m=>x.ZL++(DQ l++(DQ h++DQ m))
 |.sla _ _ x l h=>x.ZL++(DQ l++DQ h)
 |.mu _ m k v=>m.ZL++(k.ZL++v.ZL)
def RS.ZL:RS→List Nat
 |.op o=>o.ZL
 |.call f args=>f.ZL++F7 args
 |.panic x=>x.ZL
 |.inv x _ args=>x.ZL++F7 args
def MF:ROp→Bool
 |.mv _ | .pk .. | .nc _ | .ar .. | .sh .. | .an .. | .eq .. | .un .. | .cvi .. | .cvs _ | .aeF _ | .mi .. | .ta .. | .mf .. | .sls .. | .sll .. | .sla .. | .fa .. | .fd .. | .ias .. | .iaa .. | .ZX .. | .ixa .. | .ex .. | .cap _ | .mx .. | .mn .. | .bd .. | .bs .. | .usl _ | .agv _ | .af0 _ | .ba .. => true
 |_=>false
def DS:ROp→Bool
 |.ld .. | .lk .. | .len .. | .adh _=>true
 |_=>false
def MG:ROp→Bool
 |.nw .. | .bx .. | .mm | .ms .. | .nwb .. | .bm .. | .apz .. | .ap false _ _ _ _ (.c (.slice .nil _ _)) _=>true
 |_=>false
def u1:AV→Option Nat
 |.ptr id _=>some id
 |.Za id _ _ _ _=>some id
 |.map id=>some id
 |_=>none
def pU:AV→Option Nat
 |.Za id _ _ _ _=>some id
 |.slice (.own t) _ _=>some t
 |_=>none
def zB(a:Env):ROp→Option Nat
 |.ld _ x | .lk _ _ _ x _ | .len _ x | .adh x=>u1 (rx a x)
 |_=>none
def rn(q:Cl)(s:Bool):RS→Cl
 |.op o=>if MF o then .pure else if DS o then .wide else if MG o then .Zn else match o with
  |.st .. => if s then .Zn else .eff
  |.ap .. => if s then .Zn else .eff
  |_=>.eff
 |.call .. => q
 |.inv .. => q
 |.panic _=>.eff
section
variable(P:Program)(G:Nat→Option (List AV))
def Lr(ops:Array Oper)(o:Oper):Option (Option (Nat×Bool)):=
 match o.guard with
 |none=>some none
 |some (j,b)=>match (ops[j]?).bind (·.dst) with
  |some d=>some (some (d,b))
  |none=>none
def sO:List Operand→List TypeId→List RX
 |[],_=>[]
 |x::xs,[]=>ZQ G x::sO xs []
 |x::xs,t::ts=>cx P G t x::sO xs ts
def cRS(m:Bool)(ty:TypeId)(op:Op):Option RS:=
 match op with
 |.call c=>match c.callee with
  |.value f=>some (.call (ZQ G f) (sO P G c.args.toList c.argTypes.toList))
  |.builtin _=>(cOp P G m ty op).map .op
  |.invoke x n=>some (.inv (ZQ G x) n (sO P G c.args.toList c.argTypes.toList))
 |.panic x=>some (.panic (ZQ G x))
 |op=>(cOp P G m ty op).map .op
def We(n:Nat):Option Nat→Bool
 |some d=>d<n
 |none=>true
def cRO(m:Bool)(n:Nat)(ops:Array Oper)(o:Oper):Option RO:=
 match Lr ops o,cRS P G m o.type o.op with
 |some g,some s=>if We n o.dst then some ⟨o.dst,g,s⟩ else none
 |_,_=>none
def Gr(m:Bool)(n:Nat)(ops:Array Oper):List Oper→Option (List RO)
 |[]=>some []
 |o::l=>match cRO P G m n ops o with
  |some r=>match Gr m n ops l with
   |some rs=>some (r::rs)
   |none=>none
  |none=>none
def Bs(q:Cl)(s:Bool)(ros:List RO)(k:Nat):Cl:=
 match ros[k]? with
 |some r=>rn q s r.s
 |none=>.eff
def Ob(ops:Array Oper)(ros:List RO):Bool:=(ops.toList.zip ros).all fun p=>p.2.s.ZL.all fun t=>(p.1.looksAt ops).contains t
def UG:RS→Bool
 |.call .. => true
 |.inv .. => true
 |_=>false
def HT(ops:Array Oper)(ros:List RO):Nat→Array Bool→List Nat
 |0,_=>[]
 |f+1,listed=>
  let rd:=Region.ready .any ops listed
  match (rd.find? fun k=>match ros[k]? with | some o => !UG o.s | none=>false) with
  |some k=>k::HT ops ros f (listed.setIfInBounds k true)
  |none=>match rd with
   |k::_=>k::HT ops ros f (listed.setIfInBounds k true)
   |[]=>[]
def HU(ops:Array Oper)(ros:List RO):Nat→Array Bool→List Nat
 |0,_=>[]
 |f+1,listed=>
  let rd:=Region.ready .any ops listed
  match (rd.find? fun k=>match ros[k]? with | some o=>(match o.s with | .op op=>MF op||DS op | _=>false) | none=>false) with
  |some k=>k::HU ops ros f (listed.setIfInBounds k true)
  |none=>match rd with
   |k::_=>k::HU ops ros f (listed.setIfInBounds k true)
   |[]=>[]
def X9(ros:List RO)(k:Nat):Bool:=
 match ros[k]? with
 |some r=>(match r.s with | .op _=>true | _=>false)
 |none=>false
def Oc(ops:Array Oper)(ros:List RO)(cl:Nat→Cl):List Nat→List Nat
 |[]=>[]
 |k::ord=>if cl k == .wide&&X9 ros k&&ord.all (fun j=>(Ld k ops.toList []).getD j false||cl j == .pure||cl j == .wide) then k::Oc ops ros cl ord else Oc ops ros cl ord
def F9(ros:List RO)(k:Nat):Bool:=
 match ros[k]? with
 |some r=>(match r.s with | .call .. => true | _=>false)
 |none=>false
def Wf(ops:Array Oper)(ros:List RO)(q:Cl)(s:Bool)(ord:List Nat)(k:Nat):Bool:=
 F9 ros k&&ord.all fun j=>Nat.beq j k||Bs q s ros j == .pure||(Ld j ops.toList []).getD k false||(Ld k ops.toList []).getD j false
def HV(m:Bool)(ops:Array Oper)(ros:List RO)(q:Cl)(s:Bool)(ord:List Nat)(k:Nat):Cl:=
 if m&&s&&(Oc ops ros (Bs q s ros) ord).contains k then .quiet else if m&&Wf ops ros q s ord k then .eff else Bs q s ros k
def Ls(ord:List Nat)(k:Nat):List Nat:=(ord.dropWhile fun j => !Nat.beq j k).drop 1
def Wg(ops:Array Oper)(ord:List Nat)(k:Nat):Bool:=(Ls ord k).all fun j=>(Ld k ops.toList []).getD j false
def WC(ops:Array Oper)(k:Nat):Bool:=(List.range ops.size).all fun j=>Nat.beq j k||(Ld k ops.toList []).getD j false||(Ld j ops.toList []).getD k false
def Jz(ops:Array Oper)(ros:List RO)(k:Nat):Cl:=
 if F9 ros k&&WC ops k then .last else Bs .eff false ros k
def Px(ops:Array Oper)(ros:List RO):List (List Nat)→Option AC
 |[]=>none
 |ord::l=>
  if ord.length == ops.size&&zw ops (Jz ops ros) ord (Array.replicate ops.size false) then some (.Z0 false [] [] (ord.map fun k=>(ros.getD k default,Jz ops ros k)))
  else Px ops ros l
def Lt(ops:Array Oper)(ros:List RO)(ord:List Nat)(k:Nat):Cl:=
 if F9 ros k then (if Wg ops ord k then .stop else .turn) else Bs .Zn false ros k
def Py(ops:Array Oper)(ros:List RO):List (List Nat)→Option AC
 |[]=>none
 |ord::l=>
  if ord.length == ops.size&&zw ops (Lt ops ros ord) ord (Array.replicate ops.size false) then some (.Z0 true [] [] (ord.map fun k=>(ros.getD k default,Lt ops ros ord k)))
  else Py ops ros l
def UH(m:Bool)(ops:Array Oper)(ros:List RO):List (Cl×Bool×List Nat)→Option AC
 |[]=>none
 |(q,s,ord)::l=>
  if ord.length == ops.size&&zw ops (HV m ops ros q s ord) ord (Array.replicate ops.size false) then some (.Z0 s [] [] (ord.map fun k=>(ros.getD k default,HV m ops ros q s ord k)))
  else UH m ops ros l
def RZ(m t u:Bool)(ops:Array Oper)(ros:List RO):Option AC:=
 if Ob ops ros then
  let r:=List.range ops.size
  let late:=HT ops ros ops.size (Array.replicate ops.size false)
  let wo:=HU ops ros ops.size (Array.replicate ops.size false)
  if u then Px ops ros [r,late,wo] else
  if t then Py ops ros [r,late,wo] else
  UH m ops ros [(.eff,false,r),(.Zn,false,r),(.eff,false,late),(.Zn,false,late),(.wide,false,r),(.wide,true,r),(.wide,true,late),(.quiet,true,r),(.eff,true,r),(.Zn,true,r),(.eff,true,late),(.Zn,true,late),(.eff,true,wo),(.Zn,true,wo)]
 else none
def DT:AC→Nat→Option AC
 |.seq a b,l=>match DT a l with
  |some r=>some (.seq r b)
  |none=>DT b l
 |.lbl l',l=>if l' == l then some .skip else none
 |_,_=>none
def Lu:AC→List Nat
 |.goto l=>[l]
 |.seq x y=>Lu x++Lu y
 |.cond _ x y=>Lu x++Lu y
 |.block _ x=>Lu x
 |.loop _ x=>Lu x
 |.rfn _ _ _ z=>Lu z
 |_=>[]
def MH(x:AC):List Nat→AC
 |[]=>.skip
 |l::ls=>match DT x l with
  |some r=>.tab l r (MH x ls)
  |none=>MH x ls
def xr:AC→Nat→Option AC
 |.tab l r t,m=>if l=m then some r else xr t m
 |_,_=>none
def AF(_:AC):Bool:=true
def fw(m:Nat→Bool)(n:Nat):Code→Option AC
 |.skip=>some .skip
 |.label l=>some (.lbl l)
 |.goto l=>some (.goto l)
 |.scope x=>match fw m n x with
  |some x'=>some (.scope x' (MH x' (Lu x').eraseDups))
  |none=>none
 |.rangeFunc .. => none
 |.exit id=>some (.exit id)
 |.ret=>some .ret
 |.refuse _=>some .bad
 |.seq x y=>match fw m n x with
  |some x'=>match fw m n y with
   |some y'=>some (.seq x' y')
   |none=>none
  |none=>none
 |.cond c x y=>match fw m n x with
  |some x'=>match fw m n y with
   |some y'=>some (.cond (ZQ G c) x' y')
   |none=>none
  |none=>none
 |.block id x=>match fw m n x with
  |some x'=>some (.block id x')
  |none=>none
 |.loop x=>match fw m n x with
  |some x'=>some (.loop {} x')
  |none=>none
 |.region id ops draw=>match Gr P G (m id) n ops ops.toList with
  |some ros=>if draw then RZ (m id||m (id+1000000)) (m (id+2000000)) (m (id+3000000)) ops ros else some (.ops ros)
  |none=>none
end
def AC.strip:AC→AC
 |.seq x (.lv _)=>x.strip
 |.seq x (.fz _ _)=>x.strip
 |.seq x y=>.seq x.strip y.strip
 |.cond c x y=>.cond c x.strip y.strip
 |.block id x=>.block id x.strip
 |.loop _ x=>.loop {} x.strip
 |.scope x t=>.scope x.strip t.strip
 |.tab l r t=>.tab l r.strip t.strip
 |.rfn x ps y z=>.rfn x ps y z.strip
 |c=>c
inductive RM where
 |drop
 |Zn
 |frz
 |deep
 deriving Inhabited
inductive wZ where
 |t (n:Nat)
 |cell (x:Nat) (g:Option Nat)
 deriving Inhabited
structure Zj where
 c:AC
 n:Nat
 res:List wZ
 mode:RM:=.drop
 abu:List Nat:=[]
 Z7:Option (List RO×RX×AC):=none
 deriving Inhabited
def AO(P:Program):List ResultVar→Option (List wZ)
 |[]=>some []
 |.tmp t::l=>match AO P l with
  |some r=>some (.t t::r)
  |none=>none
 |.cell a t::l=>match N7 P t with
  |some g=>match AO P l with
   |some r=>some (.cell a g::r)
   |none=>none
  |none=>none
def WD:Code→Option (Nat×Array Oper×List Oper×Oper)
 |.region id ops false=>match ops.toList.reverse with
  |o::os=>match o.op with
   |.defer _=>some (id,ops,os.reverse,o)
   |_=>none
  |[]=>none
 |_=>none
def Lv:Code→Option (List Code×Nat×Array Oper×List Oper×Oper×Code)
 |.seq A c=>match WD A with
  |some (id,ops,os,o)=>some ([],id,ops,os,o,c)
  |none=>match Lv c with
   |some (l,x)=>some (A::l,x)
   |none=>none
 |_=>none
def acr(P:Program)(G:Nat→Option (List AV))(m:Nat→Bool)(n:Nat):List Code→Option AC
 |[]=>some .skip
 |A::l=>match l with
  |[]=>fw P G m n A
  |_::_=>match fw P G m n A,acr P G m n l with
   |some a,some b=>some (.seq a b)
   |_,_=>none
def R0(P:Program)(G:Nat→Option (List AV))(m:Nat→Bool)(n:Nat)(x:List Code×Nat×Array Oper×List Oper×Oper×Code):Option (AC×List RO×RX×AC):=
 match x with
 |(A,id,ops,os,o,B)=>
  match o.op with
  |.defer c=>match c.callee with
   |.value f=>
    if o.guard.isNone&&o.dst.isNone&&c.args.isEmpty then
     match acr P G m n A,Gr P G (m id) n ops os,fw P G m n B with
     |some a,some rs,some b=>some (a,rs,ZQ G f,b)
     |_,_,_=>none
    else none
   |_=>none
  |_=>none
def Wh:Op→Option Operand
 |.assign x=>some x
 |.move x=>some x
 |_=>none
def isT(x:RX)(d:Nat):Bool:=
 match x with
 |.t t=>Nat.beq t d
 |.c _=>false
def Wi(G:Nat→Option (List AV))(n d:Nat):List Oper→Option (List Nat)
 |[]=>some []
 |[o]=>match Wh o.op,o.dst with
  |some x,some e=>if o.guard.isNone&&decide (e<n)&&isT (ZQ G x) d then some [e] else none
  |_,_=>none
 |_=>none
def Kc(P:Program)(G:Nat→Option (List AV))(f:FuncId):Option (Nat×AC×Nat×List wZ×List Nat):=
 match P.funcs[f]? with
 |none=>none
 |some fn=>if fn.name == "runtime.NumGoroutine" then none else
  match fn.body with
  |some (.seq (.region _ ops false) B)=>match ops.toList with
   |o::os=>match o.op,o.dst with
    |.call c,some d=>match c.callee with
     |.builtin .recover=>if o.guard.isNone&&d<fn.ntmps then (match fw P G (fun _=>false) fn.ntmps B,AO P fn.results.toList,Wi G fn.ntmps d os with
       |some b,some rs,some ms=>if AF b then some (d,b,fn.ntmps,rs,ms) else none
       |_,_,_=>none) else none
     |_=>none
    |_,_=>none
   |[]=>none
  |_=>none
def Gb(a:Env)(v:AV):List Nat→Env
 |[]=>a
 |d::l=>Gb (qx a d v) v l
def Pz(P:Program)(G:Nat→Option (List AV))(abu:List Nat)(f:FuncId):Option (AC×Nat×List wZ×Option (List RO×RX×AC)):=
 match P.funcs[f]? with
 |none=>none
 |some fn=>if fn.name == "runtime.NumGoroutine" then none else
  match fn.body with
  |none=>none
  |some c=>match AO P fn.results.toList with
   |none=>none
   |some rs=>match Lv c with
    |none=>match fw P G (abu.contains ·) fn.ntmps c with
     |none=>none
     |some ac=>some (ac,fn.ntmps,rs,none)
    |some x=>match R0 P G (abu.contains ·) fn.ntmps x with
     |none=>none
     |some (ac,l,y,B)=>some (ac,fn.ntmps,rs,some (l,y,B))
abbrev Out:=uY×List Y4
inductive ZA where
 |c (x:AC)
 |ZU (id:Nat)
 |lp (h:LH) (x:AC) (H:List Y4)
 |df (x:RX) (B:AC)
 |dr (v:AV)
 |sc (t:AC)
 deriving Inhabited
def unw(id:Nat):List ZA→Option (List ZA)
 |[]=>none
 |.ZU j::k=>if j=id then some k else unw id k
 |_::k=>unw id k
def si:List ZA→Option AV
 |[]=>none
 |.dr v::_=>some v
 |_::k=>si k
def HW(k:List ZA):Bool:=
 match si k with
 |some .ZB=>true
 |_=>false
def jmp(l:Nat):List ZA→Option (List ZA)
 |[]=>none
 |.sc t::k=>match xr t l with
  |some r=>some (.c r :: .sc t::k)
  |none=>none
 |.dr _::_=>none
 |_::k=>jmp l k
def R1(n:Nat):Y4→Prop
 |.cells cs _ => ∀ c∈cs,Wk n c c
 |.map es => ∀ e∈es,Wk n e.1 e.1∧Wk n e.2 e.2
 |_=>True
def bY(H0 H:List Y4):Prop:=H0.length≤H.length∧∀ (i:Nat) (x:Y4),i<H0.length→H[i]?=some x→H0[i]?=some x∨R1 H0.length x
def zC:AV→AV
 |.slice _ esz rows=>.slice .any esz rows
 |v=>v
def AP:AV→AV
 |.agg cs=>.agg (cs.map zC)
 |.tuple cs=>.tuple (cs.map zC)
 |v=>zC v
def sP(a:Env):List Nat→Env
 |[]=>.leaf
 |t::l=>qx (sP a l) t (fh a t)
def ace(h:LH)(a:Env):Env:=
 match h.live with
 |some l=>sP a l
 |none=>a
def yr:List (Nat×Nat×TypeId)→Env→List Y4→Env×List Y4
 |[],a,H=>(a,H)
 |(t,sz,e)::l,a,H=>match fh a t with
  |.slice .nil _ []=>yr l (qx a t (.slice (.own H.length) sz [])) (H++[.tok 0 e])
  |.slice .full n rows=>if Ho rows=false then yr l (qx a t (.slice (.own H.length) n rows)) (H++[.tok (rows.length*n) e]) else yr l a H
  |_=>yr l a H
def Bt(a:Env)(o:RO):Option Bool:=
 match o.g with
 |none=>some true
 |some (d,w)=>match fh a d with
  |.bool b=>some (b == w)
  |.tuple _=>some false
  |_=>none
structure br where
 P:Program
 G:Nat→Option (List AV)
 fn:FuncId→Option Zj
 orc:FuncId→List AV→List Y4→Option Out
 dfn:FuncId→Option (Nat×Zj)
 wo:FuncId→List AV→List Y4→Option (AV×List Nat):=fun _ _ _=>none
 adv:TypeId→String→Option FuncId:=fun _ _=>none
def DU(E:br)(f:FuncId)(args:List AV)(v:AV):Prop:=∀ H,dL E.P E.G f args H fun r H'=>r = .ret v∧H'=H
def yt(a:Env)(H:List Y4):wZ→Option AV
 |.t n=>some (fh a n)
 |.cell x g=>qC g H (fh a x)
def xt(a:Env)(H:List Y4):List wZ→Option (List AV)
 |[]=>some []
 |r::l=>match yt a H r with
  |some v=>match xt a H l with
   |some vs=>some (v::vs)
   |none=>none
  |none=>none
def HX(a:Env)(H:List Y4)(l:List wZ):Option AV:=
 match l with
 |[r]=>yt a H r
 |l=>match xt a H l with
  |some vs=>some (.tuple vs)
  |none=>none
def WE(n:Nat)(H:List Y4)(v:AV):AV:=
 match v with
 |.Za id off len esz room=>if n≤id then (match H[id]? with
   |some (.cells cs _)=>.slice .any esz (iT esz len (cs.drop off))
   |_=>.ZW) else .Za id off len esz room
 |.map id=>if n≤id then (match H[id]? with
   |some (.map es)=>.Z2 es
   |_=>.ZW) else .map id
 |.slice _ esz rows=>.slice .any esz rows
 |v=>v
def UI(n:Nat)(H:List Y4)(v:AV):AV:=
 match v with
 |.tuple vs=>.tuple (vs.map (WE n H))
 |v=>WE n H v
def dX{α β:Type}(f:α→Option β):List α→Option (List β)
 |[]=>some []
 |x::l=>match f x,dX f l with
  |some y,some l'=>some (y::l')
  |_,_=>none
theorem fx{α β:Type}{f:α→Option β}:∀ {l:List α}{l':List β},dX f l=some l'→l'.length=l.length∧∀ (i:Nat) (y:β),l'[i]?=some y→∃ x,l[i]?=some x∧f x=some y
 |[],l',h=>by cases h;exact ⟨rfl,fun i y h=>by simp at h⟩
 |x::l,l',h=>by
  simp only [dX] at h;split at h
  ·rename_i a' l2 e1 e2
   cases h;obtain ⟨g1,g2⟩:=fx e2;refine ⟨by simp [g1],fun i av h => ?_⟩;cases i with
   |zero=>simp at h;subst h;exact ⟨x,rfl,e1⟩
   |succ i=>simp at h;simpa using g2 i av h
  ·cases h
def Tag.fzd:Tag→Tag
 |.nil=>.nil
 |.some=>.some
 |_=>.any
def Z8:Nat→Nat→List Y4→AV→Option AV
 |0,_,_,_=>none
 |k+1,n,H,v=>
  match v with
  |.Za id off len esz room=>bif Nat.blt id n then some (.Za id off len esz room) else (match H[id]? with
    |some (.cells cs _)=>bif Nat.ble (off+len*esz) cs.length then ((dX (dX (Z8 k n H)) (iT esz len (cs.drop off))).map (AV.slice .any esz)) else none
    |_=>none)
  |.ptr id off=>bif Nat.blt id n then some (.ptr id off) else (match H[id]? with
    |some (.cells cs _)=>(dX (Z8 k n H) cs).map fun cs'=>.Zu cs.length [cs'] 0 off
    |_=>none)
  |.map id=>bif Nat.blt id n then some (.map id) else (match H[id]? with
    |some (.map es)=>(dX (fun e=>(Z8 k n H e.1).bind fun x=>(Z8 k n H e.2).map fun y=>(x,y)) es).map .Z2
    |_=>none)
  |.slice tag esz rows=>(dX (dX (Z8 k n H)) rows).map (AV.slice tag.fzd esz)
  |.Zu esz rows i off=>(dX (dX (Z8 k n H)) rows).map fun r=>.Zu esz r i off
  |.Z2 es=>(dX (fun e=>(Z8 k n H e.1).bind fun x=>(Z8 k n H e.2).map fun y=>(x,y)) es).map .Z2
  |.agg cs=>(dX (Z8 k n H) cs).map .agg
  |.tuple cs=>(dX (Z8 k n H) cs).map .tuple
  |.fn f a b=>(dX (Z8 k n H) a).bind fun a'=>(dX (Z8 k n H) b).map fun b'=>.fn f a' b'
  |.iface t x=>(Z8 k n H x).map (AV.iface t)
  |.sdp _ _=>none
  |v=>some v
def Fz(n:Nat)(H:List Y4)(v v':AV):Prop:=∃ k,Z8 k n H v=some v'
def CH(H0 H:List Y4)(v v':AV):Prop:=
 ∀ (K K':aC) (w w':World) (x:Value),Inv K H0 w→Inv K' H w'→K.le K'→V K' v x→∃ K2,K.le K2∧V K2 v' x∧Inv K2 (H.take H0.length) w'
def apart(T L:List Nat):Prop:=∀ x∈L,x ∉ T
def qO(n:Nat)(H:List Y4):List Y4:=H.take n++(H.drop n).map fun x=>if x.live then .dead else x
def PA(n:Nat)(H:List Y4)(v v':AV):Prop:=
 ∀ (K:aC) (w:World) (x:Value),Inv K H w→V K v x→∃ K2,K.le K2∧V K2 v' x∧Inv K2 (qO n H) w
inductive AQ (p:Prop) where
 |yes (h:p)
 |no
def AQ.b{p:Prop}:AQ p→Bool
 |.yes _=>true
 |.no=>false
theorem AQ.of{p:Prop}{s:AQ p}(h:s.b=true):p:=by
 cases s with
 |yes q=>exact q
 |no=>cases h
def KpT(T:List Nat)(H H2:List Y4):Prop:=H.length≤H2.length∧∀ i,i<H.length→i ∉ T→H2[i]?=H[i]?
structure Dec where
 frz:∀ H0 H v v',AQ (CH H0 H v v')
 deep:∀ (H0 H:List Y4) (v:AV),Option {v':AV // CH H0 H v v'}
 hand:∀ (H0 H:List Y4) (v:AV),AQ (bY H0 H∧Wk H0.length v (AP v))
 back:∀ (He H:List Y4) (a:Env) (l:List Nat),AQ (bY He H∧∀ t∈l,Wk He.length (fh a t) (fh a t))
 ap:∀ T L,AQ (apart T L)
 wide:∀ (E:br) (g:FuncId) (args:List AV) (H:List Y4) (v:AV) (H':List Y4),AQ (H'=H∧DU E g args v)
 same:∀ (H H':List Y4),AQ (H'=H)
 Zn:∀ (H H':List Y4),AQ (H'.take H.length=H)
 ids:∀ (L:List Nat) (H H':List Y4),AQ (∀ id∈L,id<H.length→H'[id]?=H[id]?)
 turn:∀ (H H':List Y4),Option {T:List Nat // KpT T H H'}
 fzp:∀ (n:Nat) (H:List Y4) (v:AV),Option {v':AV // PA n H v v'}
def iZ(dec:Dec)(mode:RM)(H0 H:List Y4)(v:AV):Option (AV×List Y4):=
 match mode with
 |.Zn=>some (v,H)
 |.frz=>match dec.frz H0 H v (UI H0.length H v) with
  |.yes _=>some (UI H0.length H v,H.take H0.length)
  |.no=>none
 |.deep=>match dec.deep H0 H v with
  |some x=>some (x.1,H.take H0.length)
  |none=>none
 |.drop=>match dec.hand H0 H v with
  |.yes _=>some (AP v,H.take H0.length)
  |.no=>none
def fin(dec:Dec)(fn:Zj)(H0:List Y4)(a:Env)(H:List Y4):Option Out:=
 match HX a H fn.res with
 |some v=>match iZ dec fn.mode H0 H v with
  |some (v',H')=>some (.ret v',H')
  |none=>none
 |none=>none
def DV(dec:Dec)(fn:Zj)(H0:List Y4)(v:AV)(H:List Y4):Option Out:=
 match iZ dec fn.mode H0 H v with
 |some (v',H')=>some (.panic v',H')
 |none=>none
def sQ(dec:Dec)(h:LH)(He:List Y4)(a:Env)(H:List Y4):Option (Env×List Y4):=
 if h.cut then
  match h.live with
  |some l=>match dec.back He H a l with
   |.yes _=>some (sP a l,H.take He.length)
   |.no=>none
  |none=>none
 else some (ace h a,H)
def sR(h:LH)(a:Env)(H:List Y4):Env×List Y4:=let r:=yr h.tks a H;(ace h r.1,r.2)
def qP(s:Bool)(c:Cl)(a:Env)(op:ROp)(T L:List Nat):Option (List Nat×List Nat):=
 match c with
 |.wide=>if s then (match zB a op with
  |some id=>some (T,id::L)
  |none=>some (T,L)) else some (T,L)
 |.Zn=>match op with
  |.st _ x _=>match u1 (rx a x) with
   |some id=>some (id::T,L)
   |none=>none
  |.ap _ _ _ _ _ x _=>match pU (rx a x) with
   |some id=>some (id::T,L)
   |none=>some (T,L)
  |_=>some (T,L)
 |.quiet=>if DS op then some (T,L) else none
 |_=>some (T,L)
def HY(E:br)(c:Cl)(g:FuncId)(args:List AV)(H:List Y4):Option (AV×List Nat):=
 match c with
 |.wide=>E.wo g args H
 |_=>none
def rH(dec:Dec)(E:br)(c:Cl)(g:FuncId)(args:List AV)(H:List Y4)(v:AV)(H':List Y4):Bool:=
 match c with
 |.wide=>(dec.wide E g args H v H').b
 |.quiet=>(dec.same H H').b
 |.Zn=>(dec.Zn H H').b
 |.pure=>false
 |.turn=>false
 |.stop=>false
 |.last=>true
 |.eff=>true
def HZ(dec:Dec)(c:Cl)(H H':List Y4)(T:List Nat):Option (List Nat):=
 match c with
 |.turn=>match dec.turn H H' with
  |some x=>some (x.1++T)
  |none=>none
 |.stop=>match dec.turn H H' with
  |some x=>some (x.1++T)
  |none=>none
 |_=>none
def R3(dec:Dec)(E:br)(c:Cl)(g:FuncId)(args:List AV)(H:List Y4)(v:AV)(H':List Y4)(T:List Nat):Option (List Nat):=
 if rH dec E c g args H v H' then some T else HZ dec c H H' T
abbrev Rec:=Zj→List Y4→List ZA→Env→List Y4→Option Out
def Od(E:br)(x:AV)(m:String):AV:=
 match x with
 |.iface t v=>match E.adv t m with
  |some g=>.fn (.func g) [v] []
  |none=>.ZW
 |_=>.ZW
def wm(a:Env):List Nat→List AV→Env
 |p::ps,v::vs=>wm (qx a p v) ps vs
 |_,_=>a
def qW(E:br)(f:Rec)(v p:AV)(H:List Y4):Option (List Y4):=
 match v with
 |.fn (.func g) first cap=>match E.dfn g with
  |some (d,fn')=>match f fn' H [.c fn'.c] (Gb (qx (env (first++cap)) d p) p fn'.abu) H with
   |some (.ret _,H')=>some H'
   |_=>none
  |none=>none
 |_=>none
def tP(dec:Dec)(E:br)(f:Rec)(fn:Zj)(H0:List Y4)(k:List ZA)(a:Env)(H:List Y4):Option Out:=
 match fn.Z7 with
 |none=>fin dec fn H0 a H
 |some _=>match si k with
  |some .ZB=>some (.ret (.bool true),H)
  |some v=>match qW E f v .Zr H with
   |some H'=>fin dec fn H0 a H'
   |none=>none
  |none=>fin dec fn H0 a H
def kG(dec:Dec)(E:br)(f:Rec)(fn:Zj)(H0:List Y4)(k:List ZA)(a:Env)(p:AV)(H:List Y4):Option Out:=
 match fn.Z7 with
 |none=>DV dec fn H0 p H
 |some _=>match si k with
  |some v=>match qW E f v p H with
   |some H'=>fin dec fn H0 a H'
   |none=>none
  |none=>none
def Oe(dec:Dec)(c:Cl)(g:Option (Nat×Bool))(fn:Zj)(H0:List Y4)(T L:List Nat)(p:AV)(H:List Y4):Option Out:=
 match c with
 |.stop=>match g with
  |none=>match fn.Z7 with
   |none=>match dec.ap T L with
    |.yes _=>DV dec fn H0 p H
    |.no=>none
   |some _=>none
  |some _=>none
 |_=>none
def C0(dec:Dec)(E:br)(f:Rec)(c:Cl)(g:Option (Nat×Bool))(fn:Zj)(H0:List Y4)(k:List ZA)(a:Env)(T L:List Nat)(p:AV)(H:List Y4):Option Out:=
 match c with
 |.last=>match g with
  |none=>match dec.ap T L with
   |.yes _=>kG dec E f fn H0 k a p H
   |.no=>none
  |some _=>none
 |c=>Oe dec c g fn H0 T L p H
def fzR(dec:Dec)(t:Nat)(l:List Nat)(a:Env)(H:List Y4):Option (Env×List Y4):=
 match fh a t with
 |.ptr n _=>match dec.fzp n H (.tuple (l.map (fh a))) with
  |some ⟨.tuple vs,_⟩=>if vs.length=l.length then some (wm .leaf l vs,qO n H) else none
  |_=>none
 |_=>none
def yu(E:br)(f:Rec)(g:FuncId)(args:List AV)(H:List Y4):Option Out:=
 match E.fn g with
 |some fn'=>match fn'.Z7 with
  |none=>f fn' H [.c fn'.c] (env args) H
  |some (l,x,B)=>f fn' H [.c fn'.c,.c (.ops l),.df x B] (env args) H
 |none=>E.orc g args H
def ev(dec:Dec)(E:br):Nat→Zj→List Y4→List ZA→Env→List Y4→Option Out
 |0,_,_,_,_,_=>none
 |n+1,fn,H0,k,a,H=>
  let rec':Rec:=fun fn H0 k a H=>ev dec E n fn H0 k a H
  match k with
  |[]=>match fn.Z7 with
   |none=>fin dec fn H0 a H
   |some _=>none
  |.df x B::k=>match rx a x with
   |.fn (.func g) first cap=>if (E.dfn g).isSome then ev dec E n fn H0 (.c B :: .dr (.fn (.func g) first cap)::k) a H else none
   |_=>none
  |.dr v::k=>match v with
   |.ZB=>some (.ret .ZB,H)
   |v=>tP dec E rec' fn H0 (.dr v::k) a H
  |.ZU _::k=>ev dec E n fn H0 k a H
  |.sc _::k=>ev dec E n fn H0 k a H
  |.lp h x He::k=>match sQ dec h He a H with
   |some (a',H')=>ev dec E n fn H0 (.c x :: .lp h x H'::k) a' H'
   |none=>none
  |.c ac::k=>match ac with
   |.skip=>ev dec E n fn H0 k a H
   |.exit id=>match unw id k with
    |some k'=>ev dec E n fn H0 k' a H
    |none=>if HW k=true then some (.ret (.int .i64 id),H) else none
   |.lbl _=>ev dec E n fn H0 k a H
   |.goto l=>match jmp l k with
    |some k'=>ev dec E n fn H0 k' a H
    |none=>none
   |.scope x t=>ev dec E n fn H0 (.c x :: .sc t::k) a H
   |.tab .. => none
   |.rfn .. => none
   |.ret=>tP dec E rec' fn H0 k a H
   |.seq x y=>ev dec E n fn H0 (.c x :: .c y::k) a H
   |.lv l=>ev dec E n fn H0 k (sP a l) H
   |.fz t l=>match fzR dec t l a H with
    |some (a',H')=>ev dec E n fn H0 k a' H'
    |none=>none
   |.bad=>none
   |.cond c x y=>match rx a c with
    |.bool b=>if b=true then ev dec E n fn H0 (.c x::k) a H else ev dec E n fn H0 (.c y::k) a H
    |_=>none
   |.block id x=>ev dec E n fn H0 (.c x :: .ZU id::k) a H
   |.loop h x=>ev dec E n fn H0 (.c x :: .lp h x (sR h a H).2::k) (sR h a H).1 (sR h a H).2
   |.ops []=>ev dec E n fn H0 k a H
   |.ops (o::os)=>match Bt a o with
    |none=>none
    |some false=>ev dec E n fn H0 (.c (.ops os)::k) (kE a o.d jY) H
    |some true=>match o.s with
     |.op op=>match Z1 a H op with
      |some (v,H')=>ev dec E n fn H0 (.c (.ops os)::k) (kE a o.d v) H'
      |none=>none
     |.call f args=>match rx a f with
      |.fn (.func g) first cap=>match yu E rec' g (first++args.map (rx a)++cap) H with
       |some (.ret v,H')=>ev dec E n fn H0 (.c (.ops os)::k) (kE a o.d v) H'
       |some (.panic v,H')=>kG dec E rec' fn H0 k a v H'
       |none=>none
      |_=>none
     |.inv x m args=>match Od E (rx a x) m with
      |.fn (.func g) first cap=>match yu E rec' g (first++args.map (rx a)++cap) H with
       |some (.ret v,H')=>ev dec E n fn H0 (.c (.ops os)::k) (kE a o.d v) H'
       |some (.panic v,H')=>kG dec E rec' fn H0 k a v H'
       |none=>none
      |_=>none
     |.panic x=>match rx a x with
      |.iface t v=>kG dec E rec' fn H0 k a (.iface t v) H
      |_=>none
   |.Z0 _ T L []=>match dec.ap T L with
    |.yes _=>ev dec E n fn H0 k a H
    |.no=>none
   |.Z0 s T L ((o,c)::l)=>match Bt a o with
    |none=>none
    |some false=>ev dec E n fn H0 (.c (.Z0 s T L l)::k) (kE a o.d jY) H
    |some true=>match o.s with
     |.op op=>match Z1 a H op with
      |some (v,H')=>match qP s c a op T L with
       |some (T',L')=>ev dec E n fn H0 (.c (.Z0 s T' L' l)::k) (kE a o.d v) H'
       |none=>none
      |none=>none
     |.call f args=>match rx a f with
      |.fn (.func g) first cap=>match HY E c g (first++args.map (rx a)++cap) H with
       |some (v,L1)=>ev dec E n fn H0 (.c (.Z0 s T (L1++L) l)::k) (kE a o.d v) H
       |none=>match yu E rec' g (first++args.map (rx a)++cap) H with
        |some (.ret v,H')=>match R3 dec E c g (first++args.map (rx a)++cap) H v H' T with
         |some T'=>ev dec E n fn H0 (.c (.Z0 s T' L l)::k) (kE a o.d v) H'
         |none=>none
        |some (.panic p,H')=>C0 dec E rec' c o.g fn H0 k a T L p H'
        |none=>none
      |_=>none
     |.inv .. => none
     |.panic _=>none
section
variable{P:Program}{G:Nat→Option (List AV)}{K:aC}{N:Fr}{a:Env}{H:List Y4}{act:Act}{w:World}
theorem EV{dst:Option Nat}{u:AV}{x:RX}(h:∀ d,dst=some d→d ∉ x.ZL):rx (kE a dst u) x=rx a x:=by
 cases dst with
 |none=>rfl
 |some d=>
  cases x with
  |t n=>
   simp only [rx,kE,oB];rw [if_neg (fun e=>h d rfl (by rw [e];simp [RX.ZL]))]
  |c v=>rfl
theorem UJ{dst:Option Nat}{u:AV}{x:Option RX}(h:∀ d,dst=some d→d ∉ DQ x):x.map (rx (kE a dst u))=x.map (rx a):=by
 cases x with
 |none=>rfl
 |some x=>simp only [amO];rw [EV h]
theorem DW{dst:Option Nat}{u:AV}:∀ {l:List RX} (_:∀ d,dst=some d→d ∉ F7 l),l.map (rx (kE a dst u))=l.map (rx a)
 |[],_=>rfl
 |x::l,h=>by
  rw [amN,amN,EV fun d hd hm=>h d hd (by simp [F7,hm]),DW fun d hd hm=>h d hd (by simp [F7,hm])]
theorem DX{dst:Option Nat}{u:AV}:∀ {l:List (Nat×RX)} (_:∀ d,dst=some d→d ∉ F8 l),(l.map fun p=>(p.1,rx (kE a dst u) p.2))=l.map fun p=>(p.1,rx a p.2)
 |[],_=>rfl
 |x::l,h=>by
  rw [amN,amN,EV fun d hd hm=>h d hd (by simp [F8,hm]),DX fun d hd hm=>h d hd (by simp [F8,hm])]
theorem UK{dst:Option Nat}{u:AV}{o:ROp}(h:∀ d,dst=some d→d ∉ o.ZL):Z1 (kE a dst u) H o=Z1 a H o:=by
 have one:∀ x:RX,(∀ t,t∈x.ZL→t∈o.ZL)→rx (kE a dst u) x=rx a x:=fun x hx=>EV fun d hd hm=>h d hd (hx d hm)
 have opt:∀ x:Option RX,(∀ t,t∈DQ x→t∈o.ZL)→x.map (rx (kE a dst u))=x.map (rx a):=fun x hx=>UJ fun d hd hm=>h d hd (hx d hm)
 cases o<;>simp only [Z1]
 case pk c x y=>rw [one c (by simp +contextual [ROp.ZL]),one x (by simp +contextual [ROp.ZL]),one y (by simp +contextual [ROp.ZL])]
 case bd z pl ps=>rw [DX fun d hd hm=>h d hd (by simpa [ROp.ZL] using hm)]
 case bs sz z len ps=>rw [DX fun d hd hm=>h d hd (by simpa [ROp.ZL] using hm)]
 case bm e sz z len ps=>rw [DX fun d hd hm=>h d hd (by simpa [ROp.ZL] using hm)]
 case ba sz z ps=>rw [DX fun d hd hm=>h d hd (by simpa [ROp.ZL] using hm)]
 case mf f xs ys=>rw [DW fun d hd hm=>h d hd (by simp [ROp.ZL,hm]),DW fun d hd hm=>h d hd (by simp [ROp.ZL,hm])]
 case sls x l hh=>rw [one x (by simp +contextual [ROp.ZL]),opt l (by simp +contextual [ROp.ZL]),opt hh (by simp +contextual [ROp.ZL])]
 case sla n sz x l hh=>rw [one x (by simp +contextual [ROp.ZL]),opt l (by simp +contextual [ROp.ZL]),opt hh (by simp +contextual [ROp.ZL])]
 case sll sz x l hh m=>rw [one x (by simp +contextual [ROp.ZL]),opt l (by simp +contextual [ROp.ZL]),opt hh (by simp +contextual [ROp.ZL]),opt m (by simp +contextual [ROp.ZL])]
 case mu kk m k v=>rw [one m (by simp +contextual [ROp.ZL]),one k (by simp +contextual [ROp.ZL]),one v (by simp +contextual [ROp.ZL])]
 all_goals first
  |rfl
  |(rename_i x;rw [one x (by simp +contextual [ROp.ZL])];done)
  |(rename_i x _;rw [one x (by simp +contextual [ROp.ZL])];done)
  |(rename_i x y;rw [one x (by simp +contextual [ROp.ZL]),one y (by simp +contextual [ROp.ZL])];done)
theorem R4{o:ROp}(hp:MF o=true){v:AV}{H':List Y4}(h:Z1 a H o=some (v,H')):H'=H∧∀ H3,Z1 a H3 o=some (v,H3):=by
 have on:∀ {x:Option AV},cf H x=some (v,H')→H'=H∧∀ H3,cf H3 x=some (v,H3):=fun {x} h=>by
  obtain ⟨h1,h2⟩:=bg h;exact ⟨h2,fun H3=>by rw [h1];rfl⟩
 cases o<;>simp only [MF] at hp<;>(try (cases hp;done))<;>simp only [Z1] at h ⊢ <;> first
  |exact on h
  |(cases h;exact ⟨rfl,fun _=>rfl⟩)
  |(split at h<;>first | (cases h;done) | (rename_i he;cases h;exact ⟨rfl,fun _=>by first | rfl | rw [he]⟩))
theorem H5{o:ROp}(hp:DS o=true){v:AV}{H':List Y4}(h:Z1 a H o=some (v,H')) :
  H'=H∧∀ H2,(∀ id,zB a o=some id→id<H.length→H2[id]?=H[id]?)→Z1 a H2 o=some (v,H2):=by
 have on:∀ {x:Option AV}{y:List Y4→Option AV},cf H x=some (v,H')→(∀ H2,(∀ id,zB a o=some id→id<H.length→H2[id]?=H[id]?)→x=some v→y H2=some v) →
   H'=H∧∀ H2,(∀ id,zB a o=some id→id<H.length→H2[id]?=H[id]?)→cf H2 (y H2)=some (v,H2):=fun {x y} h hy=>by
  obtain ⟨h1,h2⟩:=bg h;exact ⟨h2,fun H2 hh=>by rw [hy H2 hh h1];rfl⟩
 have lt:∀ {id:Nat}{x:Y4},H[id]?=some x→id<H.length:=fun h=>(al3.1 h).1
 cases o<;>simp only [DS] at hp<;>(try (cases hp;done))<;>simp only [Z1] at h ⊢
 case ld g x=>
  refine on (y:=fun H2=>qC g H2 (rx a x)) h fun H2 hh hx => ?_
  simp only [zB] at hh;unfold qC at hx ⊢;split at hx
  ·rename_i id off he
   rw [he] at hh;try rw [he]
   split at hx
   ·rename_i cs T hc
    simp only [hh id rfl (lt hc),hc];exact hx
   ·cases hx
  ·rename_i he;first | exact hx | (rw [he];exact hx)
  ·cases hx
 case lk kk z ok x k=>
  refine on (y:=fun H2=>rlk H2 kk z ok (rx a x) (rx a k)) h fun H2 hh hx => ?_
  simp only [zB] at hh;unfold rlk at hx ⊢;split at hx
  ·rename_i es hes
   have:CV H2 (rx a x)=some es:=by
    unfold CV at hes ⊢;split at hes
    ·rename_i he;first | exact hes | (rw [he];exact hes)
    ·rename_i he;first | exact hes | (rw [he];exact hes)
    ·rename_i id he
     rw [he] at hh;try rw [he]
     split at hes
     ·rename_i es' hc;simp only [hh id rfl (lt hc),hc];exact hes
     ·cases hes
    ·cases hes
   rw [this];exact hx
  ·cases hx
 case len k x=>
  refine on (y:=fun H2=>CX H2 k (rx a x)) h fun H2 hh hx => ?_
  simp only [zB] at hh;unfold CX at hx ⊢;split at hx<;>rename_i he<;>(try (cases hx;done))<;>(try (first | exact hx | (rw [he];exact hx)))
  rename_i id;rw [he] at hh;try rw [he]
  split at hx
  ·rename_i es hc;simp only [hh _ rfl (lt hc),hc];exact hx
  ·cases hx
 case adh x=>
  refine on (y:=fun H2=>Mw H2 (rx a x)) h fun H2 hh hx => ?_
  simp only [zB] at hh;unfold Mw at hx ⊢;split at hx
  ·rename_i he;first | exact hx | (rw [he];exact hx)
  ·rename_i id off len room he
   rw [he] at hh;try rw [he]
   split at hx
   ·rename_i cs T hc
    simp only [hh id rfl (lt hc),hc];exact hx
   ·cases hx
  ·cases hx
theorem Lw{H H':List Y4}{e:TypeId}{sz bytes:Nat}{str:Bool}{s x v:AV}(h:yq H e sz bytes str s x=some (v,H')) :
  (∃ L,H'=H++L)∨∃ id o,pU s=some id∧H'=H.set id o:=by
 unfold yq at h;split at h
 ·split at h
  ·split at h
   ·split at h
    ·cases h;exact .inl ⟨[],by simp⟩
    ·split at h
     ·cases h
     ·cases h
     ·cases h;exact .inl ⟨_,rfl⟩
     ·cases h;exact .inl ⟨_,rfl⟩
     ·split at h
      ·split at h
       ·cases h;exact .inr ⟨_,_,rfl,rfl⟩
       ·cases h
      ·cases h
   ·cases h
  ·cases h
 ·cases h
theorem Lx{m:Bool}{e:TypeId}{sz bytes:Nat}{str:Bool}{x y:RX}(h:MG (.ap m e sz bytes str x y)=true):m=false∧∃ n r,x = .c (.slice .nil n r):=by
 cases m<;>cases x<;>(try (simp [MG] at h;done))
 rename_i v;cases v<;>(try (simp [MG] at h;done))
 rename_i tag n r;cases tag<;>(try (simp [MG] at h;done))
 exact ⟨rfl,_,_,rfl⟩
theorem UL{o:ROp}(hp:MG o=true){v:AV}{H':List Y4}(h:Z1 a H o=some (v,H')):∃ L,H'=H++L:=by
 have hp0:=hp;cases o<;>simp only [MG] at hp<;>(try (cases hp;done))<;>simp only [Z1] at h
 case nw=>cases h;exact ⟨_,rfl⟩
 case nwb=>cases h;exact ⟨_,rfl⟩
 case bx=>
  split at h
  ·cases h;exact ⟨_,rfl⟩
  ·cases h
 case mm=>cases h;exact ⟨_,rfl⟩
 case bm=>
  unfold rbm at h;split at h
  ·cases h;exact ⟨_,rfl⟩
  ·cases h
 case ms=>
  unfold rms at h;split at h
  ·split at h
   ·cases h;exact ⟨_,rfl⟩
   ·cases h
  ·cases h
 case apz=>
  unfold RV at h;split at h
  ·split at h
   ·cases h;exact ⟨[],by simp⟩
   ·split at h
    ·cases h;exact ⟨_,rfl⟩
    ·cases h
  ·cases h
 case ap m e sz bytes str x y=>
  obtain ⟨rfl,n,r,rfl⟩:=Lx hp0;have h:yq H e sz bytes str (.slice .nil n r) (rx a y)=some (v,H'):=h;rcases Lw h with h | ⟨id,o,h1,_⟩
  ·exact h
  ·simp [pU] at h1
theorem H6{H H':List Y4}{e:TypeId}{sz bytes:Nat}{str:Bool}{s x v:AV}(h:DL H e sz bytes str s x=some (v,H')) :
  (∃ L,H'=H++L)∨∃ id o L,pU s=some id∧H'=H.set id o++L:=by
 unfold DL at h;split at h
 ·split at h
  ·split at h
   ·split at h
    ·cases h;exact .inl ⟨_,rfl⟩
    ·split at h
     ·cases h;exact .inl ⟨[],by simp⟩
     ·cases h
   ·split at h
    ·split at h
     ·cases h;exact .inr ⟨_,_,_,rfl,rfl⟩
     ·cases h
    ·cases h
   ·cases h
  ·cases h
 ·cases h
theorem WG{m:Bool}{H H':List Y4}{e:TypeId}{sz bytes:Nat}{str:Bool}{s x v:AV}(h:rap m H e sz bytes str s x=some (v,H')) :
  (∃ L,H'=H++L)∨∃ id o L,pU s=some id∧H'=H.set id o++L:=by
 unfold rap at h;split at h
 ·rename_i id esz
  split at h
  ·rename_i cs T hc
   rcases Lw h with ⟨L,rfl⟩ | ⟨id',o,h1,rfl⟩
   ·exact .inr ⟨_,_,L,rfl,rfl⟩
   ·simp only [pU,amo] at h1
    subst h1;refine .inr ⟨_,o,[],rfl,by rw [apo];simp⟩
  ·cases h
 ·exact H6 h
 ·rcases H6 h with h | ⟨_,_,_,h1,_⟩
  ·exact .inl h
  ·simp [pU] at h1
 ·rcases H6 h with h | ⟨_,_,_,h1,_⟩
  ·exact .inl h
  ·simp [pU] at h1
 ·rcases Lw h with h | ⟨id,o,h1,rfl⟩
  ·exact .inl h
  ·exact .inr ⟨id,o,[],h1,by simp⟩
theorem WH{sz:Nat}{x y:RX}{v:AV}{H':List Y4}(h:Z1 a H (.st sz x y)=some (v,H')):∃ id o,u1 (rx a x)=some id∧H'=H.set id o:=by
 obtain ⟨h,_⟩:=wj h;unfold ES at h;split at h
 ·rename_i id off cs e1 e2
  split at h
  ·split at h
   ·cases h;exact ⟨id,_,by rw [e1];rfl,rfl⟩
   ·cases h
  ·cases h
 ·cases h
theorem PB{ops:Array Oper}{o:Oper}{d:Option Nat}{g:Option (Nat×Bool)}{s:RS}(h:Lr ops o=some g):Bt a ⟨d,g,s⟩=nr ops a o:=by
 unfold Lr at h;unfold Bt nr;split at h
 ·rename_i hg;cases h;rw [hg]
 ·rename_i j b hg
  rw [hg];split at h
  ·rename_i t ht
   cases h;simp only [ht];rfl
  ·cases h
theorem H7(hg:K.ZC=G)(hr:Rel N K a H act w):∀ (xs:List Operand) (ts:List TypeId),Vs K ((sO P G xs ts).map (rx a)) (xs.map act.eval).toArray
 |[],_=>⟨rfl,by simp [sO]⟩
 |x::xs,[]=>by
  have ih:=H7 hg hr xs []
  have h1:Vs K [rx a (ZQ G x)] #[act.eval x]:=⟨rfl,fun i av hi=>by
   cases i with
   |zero=>simp at hi;subst hi;simpa using oD hg hr x
   |succ i=>simp at hi⟩
  have:=h1.append ih;simpa [sO] using this
 |x::xs,t::ts=>by
  have ih:=H7 hg hr xs ts
  have h1:Vs K [rx a (cx P G t x)] #[act.eval x]:=⟨rfl,fun i av hi=>by
   cases i with
   |zero=>simp at hi;subst hi;simpa using Mz hg hr t x
   |succ i=>simp at hi⟩
  have:=h1.append ih;simpa [sO] using this
theorem Kd(hg:K.ZC=G)(hr:Rel N K a H act w)(xs:Array Operand)(ts:List TypeId):Vs K ((sO P G xs.toList ts).map (rx a)) (xs.map act.eval):=by
 have:=H7 (P:=P) hg hr xs.toList ts
 have e:(xs.toList.map act.eval).toArray=xs.map act.eval:=by
  apply apk;simp
 rwa [e] at this
theorem Inv.cut{K':aC}{H':List Y4}{w':World}(hi:Inv K H w)(hi':Inv K' H' w')(hk:K.le K')(hc:bY H H') :
  Inv (K'.Zy H.length) (H'.take H.length) w'∧K.le (K'.Zy H.length):=by
 have hn:H.length≤K'.loc.length:=by rw [hi'.len];exact hc.1
 constructor
 ·refine hi'.Zy H.length (fun i cs T0 hlt hcs j av v hj hv => ?_) (fun i es hlt hes j x y v hj => ?_) (fun g cs hg=>(hi.ZC g cs (by rw [← hk.ZC];exact hg)).Zy hi.len (hi'.ZC g cs hg))
  ·rcases hc.2 i _ hlt hcs with h | h
   ·obtain ⟨b,vs,T,h1,h2,h3,h4,h5,_⟩:=hi.obj i _ h
    exact (h5 j av hj).Zy hi.len hv
   ·exact h av (aml hj) K' v hn hv
  ·rcases hc.2 i _ hlt hes with h | h
   ·obtain ⟨b,me,cl,h1,h2,h3,h4,h5,_⟩:=hi.obj i _ h
    obtain ⟨e,_,h6,h7⟩:=h5 j x y hj;exact ⟨fun hv=>h6.Zy hi.len hv,fun hv=>h7.Zy hi.len hv⟩
   ·have:=h _ (aml hj)
    exact ⟨fun hv=>this.1 K' v hn hv,fun hv=>this.2 K' v hn hv⟩
 ·rw [← hi.len];exact aC.adQ hk hi.ae4
theorem Gc{dec:Dec}{mode:RM}{K':aC}{H' H'':List Y4}{w':World}{v v':AV}{cv:Value}(hi:Inv K H w)(hi':Inv K' H' w')(hk:K.le K')(hv:V K' v cv)
  (h:iZ dec mode H H' v=some (v',H'')):∃ K2,K.le K2∧V K2 v' cv∧Inv K2 H'' w':=by
 unfold iZ at h;split at h
 ·cases h;exact ⟨K',hk,hv,hi'⟩
 ·split at h
  ·rename_i hd _
   cases h;exact hd K K' w w' cv hi hi' hk hv
  ·cases h
 ·split at h
  ·rename_i x _
   cases h;exact x.2 K K' w w' cv hi hi' hk hv
  ·cases h
 ·split at h
  ·rename_i hd _
   cases h;obtain ⟨h1,h2⟩:=hi.cut hi' hk hd.1;exact ⟨_,h2,hd.2 K' cv (by rw [hi'.len];exact hd.1.1) hv,h1⟩
  ·cases h
theorem R5{r:ResultVar}{q:wZ}(h:AO P [r]=some [q]):yt a H q=rG P a H r:=by
 cases r with
 |tmp t=>simp [AO] at h;subst h;rfl
 |cell x t=>
  simp only [AO] at h;split at h
  ·rename_i g hgt
   cases h;simp only [yt,rG,Bq hgt]
  ·cases h
theorem H8:∀ {l:List ResultVar}{q:List wZ},AO P l=some q→xt a H q=l.mapM (rG P a H)
 |[],q,h=>by cases h;rfl
 |.tmp t::l,q,h=>by
  simp only [AO] at h;split at h
  ·rename_i r hr
   cases h;rw [aou,xt,← H8 hr];simp only [yt,rG];cases xt a H r<;>rfl
  ·cases h
 |.cell x t::l,q,h=>by
  simp only [AO] at h;split at h
  ·rename_i g hgt
   split at h
   ·rename_i r hr
    cases h;rw [aou,xt,← H8 hr];simp only [yt,rG,Bq hgt];cases qC g H (fh a x)<;>cases xt a H r<;>rfl
   ·cases h
  ·cases h
theorem abF:∀ {l:List ResultVar}{q:List wZ},AO P l=some q→q.length=l.length
 |[],q,h=>by cases h;rfl
 |.tmp t::l,q,h=>by
  simp only [AO] at h;split at h
  ·rename_i r hr;cases h;simp [abF hr]
  ·cases h
 |.cell x t::l,q,h=>by
  simp only [AO] at h;split at h
  ·split at h
   ·rename_i r hr;cases h;simp [abF hr]
   ·cases h
  ·cases h
theorem Of{fn:Func}{q:List wZ}{v:AV}(hq:AO P fn.results.toList=some q)(h:HX a H q=some v):UD P fn a H=some v:=by
 have hl:=abF hq;unfold UD;simp only;split
 ·rename_i r hr
  rw [hr] at hq hl
  obtain ⟨q1,rfl⟩:∃ q1,q=[q1]:=by
   match q,hl with
   |[q1],_=>exact ⟨q1,rfl⟩
  have:=R5 (a:=a) (H:=H) hq;simp only [HX] at h;rw [this] at h;rw [← h];cases r<;>rfl
 ·rename_i hr
  have hne:∀ q1,q≠[q1]:=fun q1 e=>by
   rw [e] at hl
   match hh:fn.results.toList,hl with
   |[r],_=>exact hr r hh
  have h2:(match xt a H q with | some vs=>some (AV.tuple vs) | none=>none)=some v:=by
   unfold HX at h;split at h
   ·rename_i q1;exact absurd rfl (hne q1)
   ·exact h
  rw [H8 hq] at h2;change Option.map AV.tuple (fn.results.toList.mapM (rG P a H))=some v;cases hm:fn.results.toList.mapM (rG P a H) with
  |none=>rw [hm] at h2;cases h2
  |some vs=>rw [hm] at h2;exact h2
end
structure br.Ok (E:br):Prop where
 mixed:E.P.follows .mixedOrders=true
 fn:∀ f af,E.fn f=some af→Pz E.P E.G af.abu f=some (af.c.strip,af.n,af.res,af.Z7.map fun x=>(x.1,x.2.1,x.2.2.strip))
 dfn:∀ f d af,E.dfn f=some (d,af)→Kc E.P E.G f=some (d,af.c.strip,af.n,af.res,af.abu)∧af.Z7=none
 wo:∀ f args H v L,E.wo f args H=some (v,L)→∀ H2:List Y4,(∀ id∈L,id<H.length→H2[id]?=H[id]?)→dL E.P E.G f args H2 fun r H'=>r = .ret v∧H'=H2
 orc:∀ f args H r H',E.orc f args H=some (r,H')→dL E.P E.G f args H fun r2 H2=>r2=r∧H2=H'
 adv:∀ t m g,E.adv t m=some g→∀ (v:Value) (w:World),(method (E.P.types.size+Made.depth) t v m).run E.P w = .ok (g,v) w
theorem br.ok5{E:br}(mixed:E.P.follows .mixedOrders=true)(fn:∀ f af,E.fn f=some af→Pz E.P E.G af.abu f=some (af.c.strip,af.n,af.res,af.Z7.map fun x=>(x.1,x.2.1,x.2.2.strip)))
  (dfn:∀ f d af,E.dfn f=some (d,af)→Kc E.P E.G f=some (d,af.c.strip,af.n,af.res,af.abu)∧af.Z7=none)
  (wo:∀ f args H v L,E.wo f args H=some (v,L)→∀ H2:List Y4,(∀ id∈L,id<H.length→H2[id]?=H[id]?)→dL E.P E.G f args H2 fun r H'=>r = .ret v∧H'=H2)
  (orc:∀ f args H r H',E.orc f args H=some (r,H')→dL E.P E.G f args H fun r2 H2=>r2=r∧H2=H') (hm:E.adv=fun _ _=>none:=by rfl):E.Ok:=
 ⟨mixed,fn,dfn,wo,orc,fun t m g h=>(by rw [hm] at h;cases h)⟩
section
variable(dec:Dec)(E:br)
def Bu(n:Nat)(g:FuncId)(args:List AV)(H:List Y4):Option Out:=yu E (ev dec E n) g args H
def evX(m:Nat)(fn:Zj)(H0:List Y4)(x:kA)(k:List ZA)(a:Env)(H:List Y4):Option Out:=
 match x with
 |.normal=>ev dec E m fn H0 k a H
 |.exit id=>match unw id k with
  |some k'=>ev dec E m fn H0 k' a H
  |none=>if HW k=true then some (.ret (.int .i64 id),H) else none
 |.ret=>tP dec E (ev dec E m) fn H0 k a H
 |.panic v=>kG dec E (ev dec E m) fn H0 k a v H
 |.goto l=>match jmp l k with
  |some k'=>ev dec E m fn H0 k' a H
  |none=>none
def MI(n:Nat)(fn:Zj)(H0:List Y4)(k:List ZA)(r:Out):kA→Env→List Y4→Prop:=fun x a H => ∃ m,m<n∧evX dec E m fn H0 x k a H=some r
end
section
variable{P:Program}{G:Nat→Option (List AV)}{K:aC}{N:Fr}{a:Env}{H:List Y4}{act:Act}{w:World}
theorem UM{c:Code}{Q:kA→Env→List Y4→Prop}{a':Env}{H':List Y4}(hp:∀ K act w,Rel N K a H act w→∃ K',K.le K'∧Rel N K' a' H' act w)(h:AWP P G N c Q a' H'):AWP P G N c Q a H:=fun K act w hg hr=>by
 obtain ⟨K',hk,hr'⟩:=hp K act w hr;exact wpIn_mono (h K' act w (hk.ZC.trans hg) hr') fun _ _ _ hl=>hl.mono hk fun _ _ _ q=>q
def R6(N:Fr)(H:List Y4)(a':Env)(H':List Y4)(a2:Env)(H2:List Y4):Prop:=
 ∀ K K' act w0 w,Inv K H w0→K.le K'→Rel N K' a' H' act w→∃ K2,K.le K2∧Rel N K2 a2 H2 act w
theorem Ly{c:Code}{Q:kA→Env→List Y4→Prop}(I:Nat→Env→List Y4→Prop)(n₀:Nat)(h₀:I n₀ a H)
  (round:∀ n a H,I n a H→AWP P G N c (kA.then (fun a' H' => ∃ n' a2 H2,n'<n∧I n' a2 H2∧R6 N H a' H' a2 H2) Q) a H):AWP P G N (.loop c) Q a H:=fun K act w hg hr=>by
 refine wpIn_loop_ghost (fun n act w => ∃ K' a' H',K.le K'∧Rel N K' a' H' act w∧I n a' H') n₀ ⟨K,a,H,.refl K,hr,h₀⟩ ?_;rintro n act w ⟨K',a',H',hk,hr',hI⟩;refine wpIn_mono (round n a' H' hI K' act w (hk.ZC.trans hg) hr') fun e act' w' hl => ?_
 have h2:=J1 (nx:=fun act w => ∃ n',n'<n∧∃ K' a' H',K.le K'∧Rel N K' a' H' act w∧I n' a' H') hl fun K2 a2 H2 hk2 hr2 ⟨n',a3,H3,hlt,hI',hs⟩=>by
  obtain ⟨K3,hk3,hr3⟩:=hs K' K2 act' w w' hr'.inv hk2 hr2;exact ⟨n',hlt,K3,a3,H3,hk.trans hk3,hr3,hI'⟩
 cases e with
 |normal=>exact h2
 |exit id=>exact h2.mono hk fun _ _ _ q=>q
 |goto id=>exact h2.mono hk fun _ _ _ q=>q
 |ret=>exact h2.mono hk fun _ _ _ q=>q
 |panic ch=>exact h2.mono hk fun _ _ _ q=>q
 |outgrown=>exact h2.mono hk fun _ _ _ q=>q
theorem C1:∀ (l:List Nat) (a:Env) (t:Nat),fh (sP a l) t=if t∈l then fh a t else .ZW
 |[],a,t=>by simp [sP,EG]
 |x::l,a,t=>by
  rw [sP,oB,C1 l]
  by_cases h:t=x
  ·subst h;simp
  ·simp [h]
theorem Rel.Zn(hr:Rel N K a H act w)(l:List Nat):Rel N K (sP a l) H act w:=
 ⟨hr.inv,hr.defers,hr.size,fun t=>by
  rw [C1];split
  ·exact hr.tmps t
  ·exact .ZW _⟩
theorem Rel.ace(hr:Rel N K a H act w)(h:LH):Rel N K (ace h a) H act w:=by
 unfold Am.ace;split
 ·exact hr.Zn _
 ·exact hr
theorem wq:∀ (l:List (Nat×Nat×TypeId)) (a:Env) (H:List Y4) (K:aC),Rel N K a H act w→∃ K',K.le K'∧Rel N K' (yr l a H).1 (yr l a H).2 act w
 |[],a,H,K,hr=>⟨K,.refl K,hr⟩
 |(t,sz,e)::l,a,H,K,hr=>by
  have hle:=K.aaI 0;have hlen:H.length<(K.push 0).loc.length:=by simp [aC.push,aC.ZJ,hr.inv.len]
  have set:∀ (v:AV) (n:Nat),V (K.push 0) v (act.tmps.getD t undef)→Rel N (K.push 0) (qx a t v) (H++[.tok n e]) act w:=fun v n hv=>
   ⟨hr.inv.tok n e,hr.defers.mono hle,hr.size,fun t'=>by
    rw [oB];split
    ·rename_i e;rw [e];exact hv
    ·exact (hr.tmps t').mono hle⟩
  have ht:=hr.tmps t;rw [yr];split
  ·rename_i esz he
   rw [he] at ht
   have hv:V (K.push 0) (.slice (.own H.length) sz []) (act.tmps.getD t undef):=by
    generalize act.tmps.getD t undef=x at ht;cases ht with
    |Zk _ _ _ _ e=>simp at e
    |Zo _ _ a ht=>exact .Zo _ _ a ⟨fun t e=>(by cases e;exact ⟨hlen,ht.2.1 rfl⟩),fun e=>(by cases e),fun e=>(by cases e)⟩
    |slice _ _ _ b o cap vs hl hi hv hc ht=>exact (ht:False).elim
   obtain ⟨K',hk,h⟩:=wq l _ _ _ (set _ 0 hv);exact ⟨K',hle.trans hk,h⟩
  ·rename_i n rows he
   split
   ·rename_i hint
    rw [he] at ht
    have hv:V (K.push 0) (.slice (.own H.length) n rows) (act.tmps.getD t undef):=by
     generalize act.tmps.getD t undef=x at ht;have ht2:=ht.mono hle;clear ht;cases ht2 with
     |Zk _ _ _ _ e=>simp at e
     |Zo _ _ a ht=>cases hint
     |slice _ _ _ b o cap vs hl hi hv hc ht=>exact .slice _ _ _ b o cap vs hl hi hv hc ⟨hlen,.inl ⟨ht,hint⟩⟩
    obtain ⟨K',hk,h⟩:=wq l _ _ _ (set _ _ hv);exact ⟨K',hle.trans hk,h⟩
   ·exact wq l a H K hr
  ·exact wq l a H K hr
theorem Lz(h:LH)(hr:Rel N K a H act w):∃ K',K.le K'∧Rel N K' (sR h a H).1 (sR h a H).2 act w:=by
 obtain ⟨K',hk,h2⟩:=wq h.tks a H K hr;exact ⟨K',hk,h2.ace h⟩
theorem H9{dec:Dec}{h:LH}{He H':List Y4}{a' a2:Env}{H2:List Y4}(hb:sQ dec h He a' H'=some (a2,H2)):R6 N He a' H' a2 H2:=by
 intro K K' act w0 w hi hk hr;unfold sQ at hb;split at hb
 ·split at hb
  ·rename_i l hl
   split at hb
   ·rename_i hd _
    cases hb;obtain ⟨h1,h2⟩:=hi.cut hr.inv hk hd.1;refine ⟨_,h2,h1,(hr.defers:zo N K' act.defers),hr.size,fun t => ?_⟩;rw [C1];split
    ·rename_i ht
     exact hd.2 t ht K' _ (by rw [hr.inv.len];exact hd.1.1) (hr.tmps t)
    ·exact .ZW _
   ·cases hb
  ·cases hb
 ·cases hb
  exact ⟨K',hk,hr.ace h⟩
theorem sS {f:FuncId}{fn:Func} (hf:P.funcs[f]?=some fn) (h1:(fn.name == "runtime.NumGoroutine")=false) (h2:fn.body.isSome=true) (cargs:Array Value) (w:World) :
  (callFunc f cargs).run P w = .ok (.enter f cargs) w:=by
 have h3:fn.body≠none:=by intro e;rw [e] at h2;cases h2
 have h4:fn.name≠"runtime.NumGoroutine" := by simpa using h1
 simp [callFunc,hf,h4,h3]
end
section
variable{dec:Dec}{E:br}
def DY(dec:Dec)(E:br)(n:Nat):Prop:=
 ∀ (fn:Zj) (H0:List Y4) (ac:AC) (k:List ZA) (a:Env) (H:List Y4) (r:Out),ev dec E n fn H0 (.c ac::k) a H=some r →
  ∀ (N:Fr) (m:Nat→Bool) (nt:Nat) (c:Code),(fn.Z7=none→(N.rd=none∧N.mks=true)∨AF ac=true)→nt≤N.n→fw E.P E.G m nt c=some ac.strip→AWP E.P E.G N c (MI dec E n fn H0 k r) a H
theorem yv{fn':Zj}{fnc:Func}{rs:List wZ}(h3:rs=fn'.res)(hrs:AO E.P fnc.results.toList=some rs){N:Fr}{K K':aC}{H H2:List Y4}{w w':World}{a':Env}{act:Act}{r:uY}{H':List Y4}
  (hi:Inv K H w) (hk:K.le K') (hr:Rel N K' a' H2 act w') (hf:fin dec fn' H a' H2=some (r,H')) :
  ∃ cv,(results fnc act.tmps).run E.P w' = .ok cv w'∧Cz K (fun r2 H2=>r2=r∧H2=H') (.returned cv) w':=by
 unfold fin at hf;split at hf
 ·rename_i v hres
  split at hf
  ·rename_i v' H3 hh
   simp only [amo,anM] at hf;obtain ⟨e1,e2⟩:=hf;rw [← h3] at hres;obtain ⟨cv,h5,h6⟩:=N3 (P:=E.P) hr (Of hrs hres);obtain ⟨K2,h7,h8,h9⟩:=Gc hi hr.inv hk h6 hh;subst e1 e2;exact ⟨cv,h5,K2,.ret v',H3,h7,h8,h9,rfl,rfl⟩
  ·cases hf
 ·cases hf
def aC.abh(K:aC)(D:Nat):aC := { K with shape:=fun b=>if b=D then none else K.shape b }
theorem V.abh{K:aC}{D:Nat}{o:Obj}(hD:K.shape D=some (.fix o)){v:AV}{x:Value}(h:V K v x):V (K.abh D) v x:=by
 have sh:∀ b s,K.shape b=some s→(∀ o,s≠.fix o)→(K.abh D).shape b=some s:=fun b s h hs=>by
  show (if b=D then none else K.shape b)=some s;rw [if_neg (fun e=>by subst e;rw [hD] at h;cases h;exact hs _ rfl)];exact h
 induction h with
 |ZW v=>exact .ZW v
 |bool b=>exact .bool b
 |int k n=>exact .int k n
 |str s=>exact .str s
 |ZB=>exact .ZB
 |ptr id off b hb=>exact .ptr id off b hb
 |Zu esz rows i off b o vs hl hi hv ih=>exact .Zu esz rows i off b o vs hl hi ih
 |Zo tag esz a ht=>exact .Zo tag esz a ht
 |Zk tag esz a cap h=>exact .Zk tag esz a cap h
 |slice tag esz rows b o cap vs hl hi hv hc ht ih=>exact .slice tag esz rows b o cap vs hl hi ih hc (by cases tag<;>exact ht)
 |Za id off len esz room b cap hb hc hs=>exact .Za id off len esz room b cap hb hc (fun hr=>let ⟨n,h1,h2⟩:=hs hr;⟨n,sh _ _ h1 (fun _ e=>by cases e),h2⟩)
 |Z2 es b mes hb hl hk hv ih1 ih2=>exact .Z2 es b mes (sh _ _ hb (fun _ e=>by cases e)) hl ih1 ih2
 |ZG=>exact .ZG
 |map id b hb=>exact .map id b hb
 |aba t p=>exact .aba t p
 |sdp t rows b cap vs htl ho hl hi hv hc ih=>exact .sdp t rows b cap vs htl ho hl hi ih hc
 |fn f first captured vs us h1 h2 hv hu ih1 ih2=>exact .fn f first captured vs us h1 h2 ih1 ih2
 |Zw=>exact .Zw
 |iface t v x hx ih=>exact .iface t v x ih
 |Zr=>exact .Zr
 |agg cs vs h1 hv ih=>exact .agg cs vs h1 ih
 |tuple cs vs h1 hv ih=>exact .tuple cs vs h1 ih
theorem aC.agQ{K0 K:aC}{D:Nat}(h:K0.le K)(hb:K.base D)(hD:K0.shape D=none):K0.le (K.abh D):=
 ⟨h.ZO,h.own,h.loc,h.base,h.w0,h.ZC,fun b s hs=>by
  show (if b=D then none else K.shape b)=some s;rw [if_neg (fun e=>by subst e;rw [hD] at hs;cases hs)];exact h.shape b s hs,fun b hbb=>⟨(h.low b hbb).1,by
  show (if b=D then none else K.shape b)=_;rw [if_neg (fun e=>by subst e;exact hbb (by rw [← h.base];exact hb))];exact (h.low b hbb).2⟩⟩
theorem Inv.turn{K:aC}{H:List Y4}{w:World}(hi:Inv K H w){D:Nat}{o o':Obj}(hD:K.shape D=some (.fix o))(hb:K.base D):Inv (K.abh D) H (w.putObj D o'):=by
 obtain ⟨hD1,hD2⟩:=hi.shape D _ hD;have hheap:∀ b,b≠D→(w.putObj D o').heap[b]?=w.heap[b]? := fun b hb=>World.putObj_heap_other hb
 have hcell:∀ {b vs T f},w.heap[b]?=some (.cells vs T f)→b≠D:=fun h e=>by subst e;rw [h] at hD1;cases hD1;cases hD2
 have hsh:∀ {b},K.shape b=none→(K.abh D).shape b=none:=fun {b} h=>by
  show (if b=D then none else K.shape b)=none;split
  ·rfl
  ·exact h
 have hsz:(w.putObj D o').heap.size=w.heap.size:=by simp [World.putObj]
 refine ⟨hi.below.trans ⟨rfl,rfl,rfl,by rw [hsz];exact amp _,fun k hk=>hheap k (fun e=>hk (by rw [e];exact hb))⟩,fun b h=>hi.base b (by rwa [hsz] at h),fun b off v h => ?_,hi.len,fun id x hx => ?_,hi.inj,fun b t n h => ?_,fun g cs hg=>(hi.ZC g cs hg).abh hD,fun b s h => ?_⟩
 ·have hc:=hi.ZO b off v h
  obtain ⟨vs,T,f,h',_⟩:=zq hc;rw [mh (hheap b (hcell h'))];exact hc
 ·have:=hi.obj id x hx
  cases x with
  |dead=>trivial
  |tok=>trivial
  |cells cs T0=>
   obtain ⟨b,vs,T,h1,h2,h3,h4,h5,h6,h7,h8,h9⟩:=this;exact ⟨b,vs,T,h1,h2,(hheap b (hcell h3)).trans h3,h4,fun i av hiv=>(h5 i av hiv).abh hD,h6,h7,(if_neg (hcell h3)).trans h8,h9⟩
  |aaj s p=>
   obtain ⟨b,h1,h2,h3,h4⟩:=this;exact ⟨b,h1,h2,(hheap b (fun e=>by subst e;rw [hD] at h4;cases h4)).trans h3,hsh h4⟩
  |map es=>
   obtain ⟨b,me,cl,h1,h2,h3,h4,h5,h9⟩:=this;refine ⟨b,me,cl,h1,h2,(hheap b (fun e=>by subst e;rw [hD] at h9;cases h9)).trans h3,h4,fun i k v hiv => ?_,hsh h9⟩;obtain ⟨e,he,h6,h7⟩:=h5 i k v hiv;exact ⟨e,he,h6.abh hD,h7.abh hD⟩
 ·obtain ⟨h1,fr,vs,T,lo,hh,h2,h3,h4⟩:=hi.own b t n h
  exact ⟨h1,fr,vs,T,lo,hh,h2,(hheap b (hcell h3)).trans h3,h4⟩
 ·have h':(if b=D then none else K.shape b)=some s:=h
  split at h'
  ·cases h'
  ·rename_i hne
   have:=hi.shape b s h';cases s with
   |rows n=>obtain ⟨vs,T,f,h1,h2⟩:=this;exact ⟨vs,T,f,(hheap b hne).trans h1,h2⟩
   |ac0 es=>obtain ⟨c,h1⟩:=this;exact ⟨c,(hheap b hne).trans h1⟩
   |fix o=>exact ⟨(hheap b hne).trans this.1,this.2⟩
theorem Bv{P:Program}{fnc:Func}{tmps:Array Value}{R:Ending→World→Prop}{K0:aC}{H:List Y4}{u:FrameMode}(hu:u≠.run){ds:List Deferred}:∀ (ms:List Nat) (K:aC) (w:World),Inv K H w→ms.Nodup →
  (∀ D∈ms,K.shape D=some (.fix (.deferred (some [])))∧K.base D∧K0.shape D=none)→K0.le K →
  (∀ K' w',K0.le K'→Inv K' H w'→(∀ v x,V K v x→V K' v x)→LeavesInM Fence.wide 0 P fnc tmps R ds u w')→LeavesInM Fence.wide 0 P fnc tmps R (ms.map X6++ds) u w
 |[],K,w,hi,_,_,hk,fin=>fin K w hk hi fun _ _ h=>h
 |D::ms,K,w,hi,hnd,hms,hk,fin=>by
  obtain ⟨h1,h2,h3⟩:=hms D (by simp);rw [List.nodup_cons] at hnd;refine ⟨hu,.inl ⟨D,_,rfl,run_takeDeferred (hi.shape D _ h1).1, ?_⟩⟩;refine Bv hu ms (K.abh D) _ (hi.turn h1 h2) hnd.2 (fun D' hD' => ?_) (aC.agQ hk h2 h3) fun K' w' hk' hi' hv=>fin K' w' hk' hi' fun v x hx=>hv v x (hx.abh h1)
  obtain ⟨g1,g2,g3⟩:=hms D' (by simp [hD']);exact ⟨(if_neg (fun e:D'=D=>hnd.1 (by rw [← e];exact hD'))).trans g1,g2,g3⟩
theorem Og{n:Nat}(hc:DY dec E n){g:FuncId}{fn':Zj}{fnc:Func}{c:Code}{rs:List wZ}{args:List AV}{H:List Y4}{r:uY}{H':List Y4}(hdf:fn'.Z7=none)(hf:E.P.funcs[g]?=some fnc)
  (hname:(fnc.name == "runtime.NumGoroutine")=false) (hb:fnc.body=some c) (h3:rs=fn'.res) (hrs:AO E.P fnc.results.toList=some rs) (hac:fw E.P E.G (fn'.abu.contains ·) fnc.ntmps c=some fn'.c.strip)
  (h:ev dec E n fn' H [.c fn'.c] (env args) H=some (r,H')):dL E.P E.G g args H fun r2 H2=>r2=r∧H2=H':=by
 intro K w cargs hg hi hv;have hw:=hc fn' H fn'.c [] (env args) H (r,H') h { n:=args.length+(fnc.ntmps-args.length),free:=fun b=>K.shape b=none } _ fnc.ntmps c (fun _=>.inl ⟨rfl,rfl⟩) (show fnc.ntmps≤args.length+(fnc.ntmps-args.length) from by omega) hac;refine .inl ⟨sS hf hname (by simp [hb]) cargs w, ?_⟩;refine (callsIn_wide (n:=0)).1 (callsIn_of_wp_marks hf hb trivial (wpIn_mono (hw K _ w hg ⟨hi,.none fun _ h=>h,by simp [← hv.size],fun t=>ER hv _ t⟩) ?_))
 rintro e act w' ⟨K',x,a',H2,hk,he,hr,m,hm,hx⟩
 have fin:∀ (m:Nat),fin dec fn' H a' H2=some (r,H')→LeavesInM Fence.wide 0 E.P fnc act.tmps (Cz K fun r2 H2=>r2=r∧H2=H') act.defers .returning w':=fun _ hx=>by
  obtain ⟨⟨ms,h4,h5,_,h6⟩,_⟩:=hr.defers;rw [h6];refine Bv (by simp) ms K' w' hr.inv h4 h5 hk fun K2 w2 hk2 hi2 hv2 => ?_
  obtain ⟨cv,h7,h8⟩:=yv h3 hrs hi hk2 (N := { n:=args.length+(fnc.ntmps-args.length) }) (act := { act with defers:=[] }) ⟨hi2,.none fun _ _=>trivial,hr.size,fun t=>hv2 _ _ (hr.tmps t)⟩ hx;exact ⟨cv,h7,h8⟩
 cases x with
 |normal=>
  cases e<;>first | exact (he:False).elim | skip
  have hx':ev dec E m fn' H [] a' H2=some (r,H'):=hx;cases m with
  |zero=>cases hx'
  |succ m=>
   simp only [ev,hdf] at hx';exact fin 0 hx'
 |ret=>
  cases e<;>first | exact (he:False).elim | skip
  simp only [evX,tP,hdf] at hx;exact fin 0 hx
 |panic v=>
  cases e<;>first | exact (he:False).elim | skip
  simp only [evX,kG,hdf] at hx;unfold DV at hx;split at hx
  ·rename_i v' H3 hh
   simp only [amo,anM] at hx;obtain ⟨e1,e2⟩:=hx;obtain ⟨cv,rfl,h6⟩:=he;obtain ⟨⟨ms,h4,h5,_,h7⟩,_⟩:=hr.defers;show LeavesInM Fence.wide 0 E.P fnc act.tmps _ act.defers _ w';rw [h7];refine Bv (by simp) ms K' w' hr.inv h4 h5 hk fun K2 w2 hk2 hi2 hv2 => ?_
   obtain ⟨K3,h7,h8,h9⟩:=Gc hi hi2 hk2 (hv2 _ _ h6) hh;subst e1 e2;exact ⟨K3,.panic v',H3,h7,⟨cv,rfl,h8⟩,h9,rfl,rfl⟩
  ·cases hx
 |exit id=>simp [evX,unw,HW,si] at hx
 |goto l=>simp [evX,jmp] at hx
end
end Go.Am
