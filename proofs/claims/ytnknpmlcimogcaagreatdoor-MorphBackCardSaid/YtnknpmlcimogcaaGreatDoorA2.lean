import Derived.Test.YtnknpmlcimogcaaGreatDoorA1
import Derived.Still
import Derived.Lib.UnsafeStr
import Derived.Lib.Builder
import Derived.Laws.AppendOwn
import Derived.Laws.Cover4
import Derived.OrdersIn
import Derived.RangeFuncLeaves
import Derived.RangeFuncNested
/-
  Part 2 of the tool: an abstract machine over the model, proved sound, and what it says of the functions that the law reaches. Condition: none but those that each theorem names.
-/
set_option linter.unusedVariables false
set_option linter.unusedSimpArgs false
set_option maxRecDepth 100000
set_option maxHeartbeats 4000000
namespace Go.Am
open Go.RowKit
section
variable{P:Program}{G:Nat→Option (List AV)}{K:ak}{N:Fr}{a:Env}{H:List AObj}{act:Act}{w:World}
theorem AL{K:ak}:V K gH undef:=.tuple [] #[] rfl (by simp)
theorem Rel.put{K':ak}{H':List AObj}{w':World}(hr:Rel N K a H act w)(hk:K.le K')(hi:Inv K' H' w'){dst:Option Tmp}{v:AV}{cv:Value}(hv:V K' v cv)(hd:∀ d,dst=some d→d<N.n) :
  Rel N K' (iz a dst v) H' (act.put dst cv) w':=by
 cases dst with
 |none=>exact ⟨hi,hr.defers.mono hk,hr.size,fun t=>(hr.tmps t).mono hk⟩
 |some d=>
  have hdN:=hd d rfl;refine ⟨hi,hr.defers.mono hk,by simp [Act.put,hr.size],fun t => ?_⟩;simp only [iz,Act.put,jV];split
  ·rename_i e;subst e
   have:t<act.tmps.size:=by rw [hr.size];exact hdN
   simpa [Array.getD_eq_getD_getElem?,this] using hv
  ·rename_i e
   have:=(hr.tmps t).mono hk;simpa [Array.getD_eq_getD_getElem?,Array.getElem?_setIfInBounds_ne (fun h=>e h.symm)] using this
def Fs(P:Program)(K:ak)(r:Result Next)(v:AV)(H':List AObj):Prop:=
 ∃ K' cv w',K.le K'∧(r = .ok (.value cv) w'∨(r = .ok .skip w'∧cv=undef))∧V K' v cv∧Inv K' H' w'
theorem eo{s:Sem Value}{v:AV}(hi:Inv K H w)(h:∃ cv,s.run P w = .ok cv w∧V K v cv):Fs P K ((do pure (.value (← s)):Sem Next).run P w) v H:=by
 obtain ⟨cv,h1,h2⟩:=h;exact ⟨K,cv,w,.refl K,.inl (by simp [h1]),h2,hi⟩
theorem dO{s:Sem Value}{v:AV}{H':List AObj}(h:∃ K' cv w',K.le K'∧s.run P w = .ok cv w'∧V K' v cv∧Inv K' H' w'):Fs P K ((do pure (.value (← s)):Sem Next).run P w) v H':=by
 obtain ⟨K',cv,w',h0,h1,h2,h3⟩:=h;exact ⟨K',cv,w',h0,.inl (by simp [h1]),h2,h3⟩
theorem Vs.fn{f:Fn}{first cap:List AV}{vs us:Array Value}(h1:Vs K first vs)(h2:Vs K cap us):V K (.fn f first cap) (.func f vs us):=
 .fn f first cap vs us h1.size h2.size h1.at_ h2.at_
theorem V.fn_inv{f:Fn}{first cap:List AV}{v:Value}(h:V K (.fn f first cap) v):∃ vs us,v = .func f vs us∧Vs K first vs∧Vs K cap us:=by
 cases h with | fn _ _ _ vs us h1 h2 h3 h4=>exact ⟨vs,us,rfl,⟨h1,h3⟩,⟨h2,h4⟩⟩
theorem Vs.append{x y:List AV}{vs us:Array Value}(h1:Vs K x vs)(h2:Vs K y us):Vs K (x++y) (vs++us):=by
 refine ⟨by rw [List.length_append,Array.size_append,h1.size,h2.size],fun i av hi => ?_⟩
 by_cases hlt:i<x.length
 ·rw [List.getElem?_append_left hlt] at hi
  obtain ⟨v,h3,h4⟩:=h1.get hi;rw [mj (v:=v) (by rw [Array.getElem?_append_left (by rw [← h1.size];exact hlt)];exact h3)];exact h4
 ·rw [List.getElem?_append_right (by omega)] at hi
  obtain ⟨v,h3,h4⟩:=h2.get hi;rw [mj (v:=v) (by rw [Array.getElem?_append_right (by rw [← h1.size];omega),← h1.size];exact h3)];exact h4
theorem B8{α β:Type}{x:Option α}{y:β}{v:α}{z:β}(h:x.map (·,y)=some (v,z)):x=some v∧z=y:=by
 cases x with
 |none=>cases h
 |some x=>cases h;exact ⟨rfl,rfl⟩
def _root_.Go.Value.nilOk:Value→Bool
 |.pointer (some _)=>true
 |.func (.func _) _ _=>true
 |_=>false
theorem Je(hi:Inv K H w){t:TypeId}{x v:AV}{cx:Value}{H':List AObj}(hx:V K x cx)(h:Jd P H t x=some (v,H')) :
  ∃ K' cv w',K.le K'∧(Instr.range t cx).run P w = .ok cv w'∧V K' v cv∧Inv K' H' w':=by
 unfold Jd at h;split at h
 ·rename_i s hu
  cases h;cases hx;refine ⟨K.push w.heap.size,_,w.alloc (.stringIter ⟨s.toArray⟩ 0),K.le_push _,by simp [Instr.range,run_underlying' hu];rfl,.ptr _ _ _ (by simp [ak.push,ak.pushS,hi.len]), ?_⟩;exact hi.allocObj (.siter s 0) _ rfl none (fun s h=>by cases h) fun w' hw' _ _=>⟨w.heap.size,by simp [ak.pushS],hi.new,hw',hi.shape_new⟩
 ·cases h
theorem Ky(hi:Inv K H w){ty:TypeId}{x v:AV}{cx:Value}{H':List AObj}(hx:V K x cx)(h:Kx H x=some (v,H')) :
  ∃ K' cv w',K.le K'∧(Instr.next cx true ty).run P w = .ok cv w'∧V K' v cv∧Inv K' H' w':=by
 unfold Kx at h;split at h
 ·rename_i id
  split at h
  ·rename_i s pos hs
   obtain ⟨b,h1,h2,h3⟩:=hi.obj id _ hs;cases hx with
   |ptr _ _ b' hb=>
    rw [h1] at hb;cases hb;have hsz:(ByteArray.mk s.toArray).size=s.length:=by simp [ByteArray.size]
    have hg:(getObj b).run P w = .ok (.stringIter ⟨s.toArray⟩ pos) w:=by simp [getObj,Sem.run,h3]
    split at h
    ·rename_i hlt
     cases h;have hso:∀ p,(setObj b (.stringIter ⟨s.toArray⟩ p)).run P w = .ok () { w with heap:=w.heap.setIfInBounds b (.stringIter ⟨s.toArray⟩ p) }:=fun p=>by simp [setObj,Sem.run,h3]
     refine ⟨K,.tuple #[.bool true,goInt pos,.int .i32 (Utf8.decode ⟨s.toArray⟩ pos).1],_,.refl K, ?_, ?_,hi.iter hs h1⟩
     ·simp only [Instr.next,Sem.run_bind,hg,Result.andThen_ok]
      rw [if_pos (by rw [hsz];exact hlt)];simp only [Sem.run_bind,hso,Result.andThen_ok,Sem.run_pure]
     ·refine .tuple _ _ rfl fun i av hiv => ?_
      match i,hiv with
      |0,hiv=>cases hiv;exact .bool _
      |1,hiv=>cases hiv;exact .int _ _
      |2,hiv=>cases hiv;exact .int _ _
      |i+3,hiv=>simp at hiv
    ·rename_i hlt
     cases h;refine ⟨K,.tuple #[.bool false],w,.refl K, ?_, ?_,hi⟩
     ·simp only [Instr.next,Sem.run_bind,hg,Result.andThen_ok]
      rw [if_neg (by rw [hsz];exact hlt)];rfl
     ·refine .tuple _ _ rfl fun i av hiv => ?_
      match i,hiv with
      |0,hiv=>cases hiv;exact .bool _
      |i+1,hiv=>simp at hiv
  ·cases h
 ·cases h
end
section
variable{P:Program}{G:Nat→Option (List AV)}{K:ak}{N:Fr}{a:Env}{H:List AObj}{act:Act}{w:World}
theorem V.iface_inv{t:TypeId}{v:AV}{x:Value}(h:V K (.iface t v) x):∃ y,x = .iface t y∧V K v y:=by
 cases h with | iface _ _ y hy=>exact ⟨y,rfl,hy⟩
theorem vU{x y:AV}{cargs:Array Value}(hv:Vs K [x,y] cargs):∃ c d,cargs = #[c,d]∧V K x c∧V K y d:=by
 obtain ⟨c,hc1,hc2⟩:=hv.get (i:=0) (av:=x) rfl;obtain ⟨d,hd1,hd2⟩:=hv.get (i:=1) (av:=y) rfl;refine ⟨c,d, ?_,hc2,hd2⟩;apply Array.ext
 ·rw [← hv.size];rfl
 ·intro i h1 h2
  have hi0:i=0∨i=1:=by simp at h2;omega
  rcases hi0 with rfl | rfl
  ·exact (Array.getElem?_eq_some_iff.1 hc1).2
  ·exact (Array.getElem?_eq_some_iff.1 hd1).2
theorem B9{x:AV}{cargs:Array Value}(hv:Vs K [x] cargs):∃ c,cargs = #[c]∧V K x c:=by
 obtain ⟨c,hc1,hc2⟩:=hv.get (i:=0) (av:=x) rfl;refine ⟨c, ?_,hc2⟩;apply Array.ext
 ·rw [← hv.size];rfl
 ·intro i h1 h2
  have hi0:i=0:=by simp at h2;exact h2
  subst hi0;exact (Array.getElem?_eq_some_iff.1 hc1).2
theorem vV{α:Type}{ts:Array α}{l:List α}(h:ts.toList=l):ts=l.toArray:=by cases ts;simp at h;rw [h]
theorem V.nil_full{esz:Nat}{rows:List (List AV)}{x:Value}(h:V K (.slice .nil esz rows) x):V K (.slice .full esz rows) x:=by
 cases h with
 |sliceAny _ _ _ _ e=>simp at e
 |slice0 _ _ a ha=>exact .slice0 _ _ a ⟨fun _ e=>(by cases e),fun e=>(by cases e),fun e=>(by cases e)⟩
 |slice _ _ _ b o cap vs hl hi hv hc ht=>exact (ht:False).elim
theorem Inv.lend(hi:Inv K H w){id:Nat}{cs:List AV}{T:TypeId}(hx:H[id]?=some (.cells cs T)){b:Nat}(hb:K.loc[id]?=some b) :
  ∃ n K',K.le K'∧K.shape b=some (.rows n)∧K'.own b=some (id,n)∧Inv K' (H.set id (.tok 0 T)) w:=by
 have ho:=hi.obj id _ hx;obtain ⟨b2,vs,T2,h1,h2,h3,h4,h5,h6,h7,h8,h9⟩:=ho;rw [hb] at h1;cases h1;subst h9;have hid:id<H.length:=(List.getElem?_eq_some_iff.1 hx).1
 let K':ak := { K with own:=fun b'=>if b'=b then some (id,vs.size) else K.own b' }
 have hle:K.le K':=⟨fun _ _ _ h=>h,fun b' x h=>by
  show (if b'=b then _ else _)=_;rw [if_neg (fun e=>by subst e;rw [h7] at h;cases h)];exact h,fun _ _ h=>h,rfl,rfl,rfl,fun _ _ h=>h,fun _ _=>⟨fun _=>rfl,rfl⟩⟩
 refine ⟨vs.size,K',hle,h8,if_pos rfl,hi.below,hi.base,hi.imm,by simp;exact hi.len,fun i y hy => ?_,fun i j y z hy hz ly lz hij => ?_,fun b' t n h => ?_,fun g cs hg=>(hi.glob g cs hg).mono hle,hi.shape⟩
 ·rcases gS hy with ⟨_,rfl⟩ | ⟨hne,hy⟩
  ·trivial
  ·by_cases ly:y.live=true
   ·obtain ⟨by',hy1,_,_⟩:=hi.live_block hy ly
    have hne2:by'≠b:=fun e=>by
     subst e;exact hi.inj i id y _ hy hx ly rfl (fun e=>hne (by first | exact e | exact e.symm)) (by rw [hy1,hb])
    refine (hi.obj i y hy).mono hle (fun _ _ _ _=>rfl) (fun b'' hb'' _=>⟨fun o h=>h,fun h => ?_,fun h=>h⟩);rw [hy1] at hb'';cases hb'';show (if _=b then _ else _)=_;rw [if_neg hne2];exact h
   ·cases y<;>first | exact absurd rfl ly | trivial
 ·rcases gS hy with ⟨_,rfl⟩ | ⟨_,hy⟩
  ·cases ly
  ·rcases gS hz with ⟨_,rfl⟩ | ⟨_,hz⟩
   ·cases lz
   ·exact hi.inj i j y z hy hz ly lz hij
 ·have h':(if b'=b then some (id,vs.size) else K.own b')=some (t,n):=h
  split at h'
  ·rename_i e
   cases h';subst e;exact ⟨h2,0,vs,T2,0,0,by simp [hid],h3,rfl,Nat.le_refl _,fun o v hv=>by have:=h6 o;rw [this] at hv;cases hv⟩
  ·obtain ⟨g1,fr,us,T',lo,hh,g2,g3⟩:=hi.own b' t n h'
   refine ⟨g1,fr,us,T',lo,hh, ?_,g3⟩;rw [List.getElem?_set_ne (fun e=>by subst e;rw [hx] at g2;cases g2)];exact g2
theorem Ft(hi:Inv K H w){m:Bool}{sT xT:TypeId}{s x v:AV}{cs cx:Value}{H':List AObj}(hs:V K s cs)(hx:V K x cx)(h:zx m P H sT xT s x=some (v,H'))(ty:TypeId) :
  ∃ K' cv w',K.le K'∧(Builtin.append_ #[sT,xT] ty #[cs,cx]).run P w = .ok cv w'∧V K' v cv∧Inv K' H' w':=by
 unfold zx at h;split at h
 ·rename_i id esz
  split at h
  ·rename_i cs0 T hH
   cases hs with
   |rslice _ _ _ _ _ b cap hb hcap hro=>
    obtain ⟨n,K',hk,h1,h2,h3⟩:=hi.lend hH hb;obtain ⟨n',e1,e2⟩:=hro rfl;rw [h1] at e1;cases e1;have hn:cap*esz=n:=by omega
    subst hn;have hlt:id<K'.loc.length:=hk.lt (List.getElem?_eq_some_iff.1 hb).1;have hv:V K' (.slice (.own id) esz []) (.slice (some ⟨b,0,none⟩) 0 cap):=.slice (.own id) esz [] b 0 cap (fun _ _=>undef) (by simp) (by simp) (by simp) (Nat.zero_le _) ⟨hlt,.inr ⟨rfl,h2⟩⟩;obtain ⟨K2,cv,w',g1,g2,g3,g4⟩:=Be h3 hv (hx.mono hk) h ty;exact ⟨K2,cv,w',hk.trans g1,g2,g3,g4⟩
  ·cases h
 ·exact tI hi hs hx h ty
 ·exact tI hi hs hx h ty
 ·exact tI hi hs.nil_full hx h ty
 ·exact Be hi hs hx h ty
theorem dt(hi:Inv K H w){m:Bool}{b:Builtin}{ts:Array TypeId}{args:List AV}{cargs:Array Value}{v:AV}{H':List AObj}(hv:Vs K args cargs)(h:gP m P H b ts args=some (v,H'))(ty:TypeId)(cs:Array Bool) :
  Fs P K ((builtin b ts ty cs cargs).run P w) v H':=by
 unfold gP at h;split at h
 ·rename_i t x hts
  have h9:=B8 h;clear h;obtain ⟨h,rfl⟩:=h9;obtain ⟨c,rfl,hc2⟩:=B9 hv;obtain rfl:=vV hts;exact eo hi (Mg hi hc2 h)
 ·rename_i t x hts
  have h9:=B8 h;clear h;obtain ⟨h,rfl⟩:=h9;obtain ⟨c,rfl,hc2⟩:=B9 hv;obtain rfl:=vV hts;exact eo hi (Mh hc2 h ty)
 ·rename_i t u s x hts
  obtain ⟨c,d,rfl,hc2,hd2⟩:=vU hv;obtain rfl:=vV hts;exact dO (Ft hi hc2 hd2 h ty)
 ·rename_i t u s x hts
  obtain ⟨c,d,rfl,hc2,hd2⟩:=vU hv;obtain rfl:=vV hts;exact dO (Ku hi hc2 hd2 h ty)
 ·rename_i x y
  have h9:=B8 h;clear h;obtain ⟨h,rfl⟩:=h9;obtain ⟨c,d,rfl,hc2,hd2⟩:=vU hv;exact eo hi (Kq hc2 hd2 h ts ty)
 ·rename_i x y
  have h9:=B8 h;clear h;obtain ⟨h,rfl⟩:=h9;obtain ⟨c,d,rfl,hc2,hd2⟩:=vU hv;exact eo hi (Kr hc2 hd2 h ts ty)
 ·cases h
theorem nN(hr:Rel N K a H act w){ops:Array Oper}{o:Oper}{b:Bool}(h:ky ops a o=some b):Region.wanted o (yielded ops act.tmps)=b:=by
 unfold ky at h;unfold Region.wanted;split at h
 ·rename_i hg;cases h;rw [hg]
 ·rename_i j want hg
  rw [hg];split at h
  ·cases h
  ·rename_i d hdst
   have hd:=hr.tmps d;split at h
   ·rename_i b' hb
    cases h;rw [hb] at hd;have:=hd.bool_inv
    by_cases hlt:d<act.tmps.size
    ·have h2:act.tmps[d]?=some (.bool b'):=by
      rw [Array.getElem?_eq_getElem hlt];simpa [Array.getD_eq_getD_getElem?,hlt] using this
     simp [yielded,hdst,h2]
    ·simp [Array.getD_eq_getD_getElem?,hlt,undef] at this
   ·rename_i vs hb
    cases h;rw [hb] at hd;obtain ⟨us,hus,_⟩:=hd.tuple_inv
    have:yielded ops act.tmps j=none:=by
     unfold yielded;simp only [hdst,Option.bind_some]
     by_cases hlt:d<act.tmps.size
     ·have h2:act.tmps[d]?=some (.tuple us):=by
       rw [Array.getElem?_eq_getElem hlt];simpa [Array.getD_eq_getD_getElem?,hlt] using hus
      rw [h2]
     ·rw [Array.getElem?_eq_none (Nat.le_of_not_lt hlt)]
    simp [this]
   ·cases h
theorem If(ops:Array Oper):(List.range ops.size).map (ops[·]?)=ops.toList.map some:=by
 apply List.ext_getElem?;intro i
 by_cases h:i<ops.size
 ·simp [h]
 ·simp [h]
end
def PG(P:Program):Op→Bool
 |.move _ | .assign _ | .pick .. | .nilCheck _ | .binOp .. | .unOp .. | .makeInterface .. | .makeFunc .. | .slice .. | .fieldAddr .. | .field .. | .indexAddr .. | .index .. | .extract .. | .typeAssert .. => true
 |.build .. | .buildSlice .. => true
 |.convert s _ _=>match P.underlying s with
  |some (.slice _)=>false
  |_=>true
 |.call c=>match c.callee with
  |.builtin .cap | .builtin .min | .builtin .max=>true
  |_=>false
 |_=>false
def Ca(P:Program)(G:Nat→Option (List AV))(a:Env)(H:List AObj)(o:Oper)(v:AV)(H':List AObj):Prop:=
 match o.op with
 |.call c=>match c.callee with
  |.value f=>match db G a f with
   |.fn (.func g) first cap=>cT P G g (first++c.args.toList.map (db G a)++cap) H fun r H2=>r = .ret v∧H2=H'
   |_=>False
  |.builtin b => ∃ m,gP m P H b c.argTypes (c.args.toList.map (db G a))=some (v,H')
  |.invoke _ _=>False
 |.panic _=>False
 |op=>aop P G a H op=some (v,H')
inductive Cl where
 |pure
 |quiet
 |wide
 |keep
 |turn
 |stop
 |last
 |eff
 deriving DecidableEq,Inhabited
def Cl.keeps:Cl→Bool
 |.keep | .turn | .stop=>true
 |_=>false
def Cl.still:Cl→Bool
 |.quiet | .wide=>true
 |_=>false
def Cl.mixes:Cl→Cl→Bool
 |.pure,_=>true
 |_,.pure=>true
 |.wide,.keep=>true
 |.wide,.turn=>true
 |.wide,.stop=>true
 |x,y=>x.still&&y.still
section
variable{P:Program}{G:Nat→Option (List AV)}{K:ak}{N:Fr}{a:Env}{H:List AObj}{act:Act}{w:World}{ops:Array Oper}{cls:Nat→Cl}{Kp:List AObj→List AObj→Prop}{Q:iv→Env→List AObj→Prop}
theorem Ca.step{o:Oper}{v:AV}{H':List AObj}(h:Ca P G a H o v H'){Kv Kp:AV→List AObj→Prop}(hk:Kv v H'):TQ P G a H o Kv Kp:=by
 unfold Ca at h;unfold TQ;split at h
 ·rename_i c hop
  simp only [hop];split at h
  ·rename_i f hc
   simp only [hc];split at h
   ·rename_i g first cap he
    simp only [he];exact h.mono fun r H2 ⟨e1,e2⟩=>by subst e1;subst e2;exact hk
   ·exact h.elim
  ·rename_i b hc
   obtain ⟨m,h⟩:=h;simp only [hc];exact ⟨m,by rw [h];exact hk⟩
  ·exact h.elim
 ·exact h.elim
 ·rename_i hop1 hop2
  split
  ·rename_i c hop;exact absurd hop (hop1 c)
  ·rename_i x hop;exact absurd hop (hop2 x)
  ·rw [h];exact hk
structure Wp (P:Program) (G:Nat→Option (List AV)) (N:Fr) (ops:Array Oper) (Kp:List AObj→List AObj→Prop) (c:Cl) (a:Env) (H:List AObj) (o:Oper) (v:AV) (H':List AObj):Prop where
 dst:∀ d,o.dst=some d→d<N.n
 pure:c = .pure→PG P o.op=true
 still:c.still=true→H'=H
 keep:c.keeps=true→Kp H H'
 step:(ky ops a o=some true∧Ca P G a H o v H'∧(c = .wide→∀ H2,Kp H H2→Ca P G a H2 o v H2))∨(ky ops a o=some false∧v=gH∧H'=H)
theorem Ig:∀ (f g:Nat) (a:Env) (n m:Nat) (v u:AV),n<f→m<g→n≠m→vP g (vP f a n v) m u=vP f (vP g a m u) n v
 |0,_,_,_,_,_,_,h,_,_=>absurd h (Nat.not_lt_zero _)
 |_+1,0,_,_,_,_,_,_,h,_=>absurd h (Nat.not_lt_zero _)
 |f+1,g+1,a,n,m,v,u,hn,hm,hne=>by
  have half:∀ k:Nat,(Nat.beq (k % 2) 0)=decide (k % 2=0):=fun k=>by rw [Bool.eq_iff_iff];simp
  cases n with
  |zero=>
   cases m with
   |zero=>exact absurd rfl hne
   |succ m=>cases a<;>simp only [vP,half]<;>by_cases h:m % 2=0<;>simp [vP,half,h]
  |succ n=>
   cases m with
   |zero=>cases a<;>simp only [vP,half]<;>by_cases h:n % 2=0<;>simp [vP,half,h]
   |succ m=>
    have ih:=fun (b:Env) (h:n / 2≠m / 2)=>Ig f g b (n / 2) (m / 2) v u (by omega) (by omega) h
    cases a<;>simp only [vP,half]<;>by_cases h1:n % 2=0<;>by_cases h2:m % 2=0<;>simp [vP,half,h1,h2]
    all_goals exact ih _ (by omega)
theorem Oj(n m:Nat)(a:Env)(v u:AV)(h:n≠m):mE (mE a n v) m u=mE (mE a m u) n v:=Ig (n+1) (m+1) a n m v u (by omega) (by omega) h
theorem Ol(a:Env){x y:Option Tmp}(v u:AV)(h:∀ d,x=some d→y≠some d):iz (iz a x v) y u=iz (iz a y u) x v:=by
 cases x with
 |none=>rfl
 |some d=>
  cases y with
  |none=>rfl
  |some e=>exact Oj d e a v u (fun he=>h d rfl (by rw [he]))
theorem zy{o:Oper}{dst:Option Tmp}{u:AV}(h:∀ d,dst=some d→d ∉ o.looksAt ops):ky ops (iz a dst u) o=ky ops a o:=by
 cases dst with
 |none=>rfl
 |some d=>
  unfold ky;cases hg:o.guard with
  |none=>rfl
  |some gw=>
   obtain ⟨j,want⟩:=gw;simp only;cases ht:(ops[j]?).bind (·.dst) with
   |none=>rfl
   |some t=>
    have hne:t≠d:=fun e=>h d rfl (by subst e;simp [Oper.looksAt,hg,ht])
    simp only [iz,jV,if_neg hne]
inductive Dep (ops:Array Oper) (i:Nat):Nat→Prop where
 |one (j:Nat) (oj:Oper) (e:Edge):ops[j]?=some oj→e∈oj.after→Region.binds .any e=true→e.on=i→Dep ops i j
 |more (j:Nat) (oj:Oper) (e:Edge):ops[j]?=some oj→e∈oj.after→Region.binds .any e=true→Dep ops i e.on→Dep ops i j
def zA(ops:Array Oper)(listed:Array Bool):Prop:=∀ (j:Nat) (oj:Oper),ops[j]?=some oj→listed.getD j true=true→∀ e∈oj.after,Region.binds .any e=true→listed.getD e.on true=true
theorem zA.dep{listed:Array Bool}(hc:zA ops listed){i j:Nat}(hd:Dep ops i j):listed.getD j true=true→listed.getD i true=true:=by
 induction hd with
 |one j oj e h1 h2 h3 h4=>intro h;subst h4;exact hc j oj h1 h e h2 h3
 |more j oj e h1 h2 h3 _ ih=>intro h;exact ih (hc j oj h1 h e h2 h3)
theorem ni{listed:Array Bool}{k:Nat}(h:listed.getD k false=true):listed.getD k true=true:=by
 rcases Nat.lt_or_ge k listed.size with h' | h'
 ·simpa [h',Array.getD_eq_getD_getElem?] using h
 ·simp [Array.getD_eq_getD_getElem?,Array.getElem?_eq_none h'] at h
def Jf(i:Nat):List Oper→List Bool→List Bool
 |[],acc=>acc
 |o::os,acc=>Jf i os (acc++[o.after.any fun e=>Region.binds .any e&&(e.on == i||acc.getD e.on false)])
theorem tK{i:Nat}:∀ (l:List Oper) (acc:List Bool),(∀ j,l[j]?=ops[acc.length+j]?)→(∀ j,acc.getD j false=true→Dep ops i j)→∀ j,(Jf i l acc).getD j false=true→Dep ops i j
 |[],acc,_,h,j,hj=>h j hj
 |o::l,acc,hl,h,j,hj=>by
  refine tK l _ (fun k => ?_) (fun k hk => ?_) j hj
  ·have:=hl (k+1)
   simp only [List.getElem?_cons_succ] at this;rw [this,List.length_append];congr 1;simp;omega
  ·rcases Nat.lt_trichotomy k acc.length with hlt | heq | hgt
   ·refine h k ?_
    simpa [List.getD,List.getElem?_append_left hlt] using hk
   ·subst heq
    simp only [List.getD,List.getElem?_append_right (Nat.le_refl _),Nat.sub_self,List.getElem?_cons_zero,Option.getD_some,Array.any_eq_true',Bool.and_eq_true,Bool.or_eq_true,beq_iff_eq] at hk;obtain ⟨e,he,hb,hor⟩:=hk;have ho:ops[acc.length]?=some o:=by simpa using (hl 0).symm
    rcases hor with hor | hor
    ·exact .one _ o e ho he hb hor
    ·exact .more _ o e ho he hb (h _ hor)
   ·simp [List.getD,List.getElem?_append_right (Nat.le_of_lt hgt),List.getElem?_cons,show ¬ (k-acc.length=0) by omega] at hk
def PH(ops:Array Oper)(cls:Nat→Cl)(listed:Array Bool)(i:Nat):Bool:=
 match ops[i]? with
 |none=>false
 |some oi=>
  let dp:=Jf i ops.toList []
  (List.range ops.size).all fun j=>j == i||listed.getD j true||dp.getD j false||match ops[j]? with
   |some oj=>(cls i).mixes (cls j)&&oi.apart ops oj
   |none=>true
def xl(ops:Array Oper)(cls:Nat→Cl):List Nat→Array Bool→Bool
 |[],listed=>(Region.ready .any ops listed).isEmpty
 |k::ord,listed=>(Region.ready .any ops listed).contains k&&PH ops cls listed k&&xl ops cls ord (listed.setIfInBounds k true)
theorem Fu{cls:Nat→Cl}:∀ {ord:List Nat}{listed:Array Bool}{i:Nat},xl ops cls ord listed=true→i∈Region.ready .any ops listed→i∈ord
 |[],listed,i,h,hi=>by
  have:Region.ready .any ops listed=[]:=by simpa [xl] using h
  rw [this] at hi;cases hi
 |k::ord,listed,i,h,hi=>by
  simp only [xl,Bool.and_eq_true] at h
  by_cases e:i=k
  ·subst e;simp
  ·exact List.mem_cons_of_mem _ (Fu h.2 (ready_mono hi e))
theorem Mi{i:Nat}{oi:Oper}{listed:Array Bool}(hi:ops[i]?=some oi)(h:PH ops cls listed i=true)(j:Nat)(oj:Oper)
  (hj:ops[j]?=some oj) (hne:j≠i) (hun:listed.getD j true=false) (hno:¬ Dep ops i j):oi.apart ops oj=true∧(cls i).mixes (cls j)=true:=by
 simp only [PH,hi,List.all_eq_true,List.mem_range] at h;have h1:=h j (Array.getElem?_eq_some_iff.1 hj).1;simp only [hj,Bool.or_eq_true,beq_iff_eq,hne,false_or,hun,Bool.false_eq_true,Bool.and_eq_true] at h1;rcases h1 with h1 | h1
 ·exact absurd (tK ops.toList [] (fun j=>by simp) (fun j hj=>by simp at hj) j h1) hno
 ·exact ⟨h1.2,h1.1⟩
theorem Jg{listed:Array Bool}(hc:zA ops listed){i:Nat}(hr:i∈Region.ready .any ops listed):zA ops (listed.setIfInBounds i true):=by
 obtain ⟨_,oj,hoj,hall⟩:=mem_ready.1 hr;intro k ok hk hkl e he hb
 have up:∀ m,listed.getD m true=true→(listed.setIfInBounds i true).getD m true=true:=fun m hm=>by
  by_cases hjm:i=m
  ·subst hjm
   rcases Nat.lt_or_ge i listed.size with h' | h'
   ·simp [Array.getD_eq_getD_getElem?,h']
   ·simp [Array.getD_eq_getD_getElem?,Array.getElem?_eq_none h']
  ·rw [getD_set_ne true hjm];exact hm
 by_cases hjk:i=k
 ·subst hjk
  rw [hoj] at hk;cases hk;exact up _ (ni (hall e he hb))
 ·rw [getD_set_ne true hjk] at hkl
  exact up _ (hc k ok hk hkl e he hb)
theorem Jh:zA ops (Array.replicate ops.size false):=fun j oj hj hl=>by
 have:=(Array.getElem?_eq_some_iff.1 hj).1;simp [Array.getD_eq_getD_getElem?,this] at hl
end
def Wk(n:Nat)(v v':AV):Prop:=∀ (K:ak) (x:Value),n≤K.loc.length→V K v x→V (K.trunc n) v' x
section
variable{P:Program}{G:Nat→Option (List AV)}{K:ak}{N:Fr}{a:Env}{H:List AObj}{act:Act}{w:World}
def Fv(tmps:Array Value):ResultVar→Sem Value
 |.tmp t=>pure (tmps.getD t undef)
 |.cell a t=>do loadVar t (← asAddr (tmps.getD a undef))
def n7(P:Program)(a:Env)(H:List AObj):ResultVar→Option AV
 |.tmp t=>some (dR a t)
 |.cell x t=>uS P H t (dR a x)
theorem Cb(hr:Rel N K a H act w){r:ResultVar}{v:AV}(h:n7 P a H r=some v):∃ cv,(Fv act.tmps r).run P w = .ok cv w∧V K v cv:=by
 cases r with
 |tmp t=>cases h;exact ⟨_,rfl,hr.tmps t⟩
 |cell x t=>
  simp only [n7,Fv] at h ⊢;have hx:=hr.tmps x;generalize act.tmps.getD x undef=cx at hx;obtain ⟨cv,h1,h2⟩:=BY (P:=P) hr.inv hx h;refine ⟨cv, ?_,h2⟩
  have hp:∃ ad,cx = .pointer (some ad):=by
   unfold uS at h;generalize dR a x=y at hx h;split at h
   ·cases hx with | ptr _ _ b hb=>exact ⟨_,rfl⟩
   ·cases hx with | vptr _ _ _ _ b o vs _ _ _=>exact ⟨_,rfl⟩
   ·cases h
  obtain ⟨ad,rfl⟩:=hp;simpa [Instr.loadAt,Instr.sureAddr,asAddr] using h1
theorem Cc(hr:Rel N K a H act w):∀ (rs:List ResultVar) (vs:List AV),rs.mapM (n7 P a H)=some vs →
  ∃ cvs:List Value,(rs.mapM (Fv act.tmps)).run P w = .ok cvs w∧Vs K vs cvs.toArray∧cvs.length=rs.length
 |[],vs,h=>by cases h;exact ⟨[],rfl,⟨rfl,by simp⟩,rfl⟩
 |r::rs,vs,h=>by
  rw [List.mapM_cons] at h;simp only [Option.bind_eq_bind,Option.bind_eq_some_iff,Option.pure_def,Option.some.injEq] at h;obtain ⟨v,h1,vs',h2,rfl⟩:=h;obtain ⟨cv,h3,h4⟩:=Cb (P:=P) hr h1;obtain ⟨cvs,h5,h6,h7⟩:=Cc hr rs vs' h2;refine ⟨cv::cvs, ?_, ?_,by simp [h7]⟩
  ·rw [List.mapM_cons]
   simp only [Sem.run_bind,h3,h5,Result.andThen_ok,Sem.run_pure]
  ·have:Vs K [v] #[cv]:=⟨rfl,fun i av hi=>by
    cases i with
    |zero=>simp at hi;subst hi;exact h4
    |succ i=>simp at hi⟩
   have:=this.append h6;simpa using this
theorem Mj(fn:Func)(tmps:Array Value):results fn tmps=(do let vs ← fn.results.toList.mapM (Fv tmps);pure (if h:vs.toArray.size=1 then vs.toArray[0] else .tuple vs.toArray):Sem Value):=by
 unfold results;rw [Array.mapM_eq_mapM_toList]
 have:(fun x=>match x with | .tmp t=>pure (tmps.getD t undef) | .cell a t=>do let __do_lift ← asAddr (tmps.getD a undef);loadVar t __do_lift:ResultVar→Sem Value)=Fv tmps:=by
  funext r;cases r<;>rfl
 simp only [bind_map_left];congr 1
theorem Mk(hr:Rel N K a H act w){fn:Func}{v:AV}(h:So P fn a H=some v):∃ cv,(results fn act.tmps).run P w = .ok cv w∧V K v cv:=by
 unfold So at h;simp only at h;rw [Mj];split at h
 ·rename_i r hrs
  have h':n7 P a H r=some v:=by rw [← h];cases r<;>rfl
  obtain ⟨cv,h1,h2⟩:=Cb (P:=P) hr h';refine ⟨cv, ?_,h2⟩;rw [hrs];simp only [List.mapM_cons,List.mapM_nil,Sem.run_bind,h1,Result.andThen_ok,Sem.run_pure];rfl
 ·rename_i hrs
  rw [Option.map_eq_some_iff] at h;obtain ⟨vs,h1,rfl⟩:=h
  have h1':fn.results.toList.mapM (n7 P a H)=some vs:=by
   rw [← h1];congr 1
  obtain ⟨cvs,h2,h3,h4⟩:=Cc (P:=P) hr _ vs h1';refine ⟨.tuple cvs.toArray, ?_,.tuple _ _ h3.size h3.at_⟩;simp only [Sem.run_bind,h2,Result.andThen_ok,Sem.run_pure]
  have hne:¬ cvs.toArray.size=1:=by
   intro e;simp at e;have e2:fn.results.toList.length=1:=by omega
   match hl:fn.results.toList,e2 with
   |[r],_=>exact hrs r hl
  rw [dif_neg hne]
theorem C2{args:List AV}{cargs:Array Value}(hv:Vs K args cargs)(n:Nat)(t:Nat):V K (dR (env args) t) ((cargs++Array.replicate n undef).getD t undef):=by
 rw [Py];cases h:args[t]? with
 |none=>exact .unk _
 |some v=>
  obtain ⟨c,h1,h2⟩:=hv.get h;rw [mj (v:=c) (by rw [Array.getElem?_append_left (Array.getElem?_eq_some_iff.1 h1).1];exact h1)];exact h2
end
mutual
def rq:AV→Bool
 |.unk | .bool _ | .int .. | .str _ | .nilp | .nilmap | .nilfn | .nilif=>true
 |.ptr .. | .rslice .. | .map _ | .sdp .. => false
 |.vmap es=>pureM es
 |.vptr _ rows _ _=>pureLL rows
 |.slice tag _ rows=>(match tag with | .own _=>false | _=>true)&&pureLL rows
 |.fn _ x y=>pureL x&&pureL y
 |.iface _ v=>rq v
 |.agg cs=>pureL cs
 |.tuple cs=>pureL cs
def pureM:List (AV×AV)→Bool
 |[]=>true
 |e::l=>rq e.1&&rq e.2&&pureM l
def pureL:List AV→Bool
 |[]=>true
 |v::l=>rq v&&pureL l
def pureLL:List (List AV)→Bool
 |[]=>true
 |v::l=>pureL v&&pureLL l
end
theorem tB{l:List AV}(h:pureL l=true){i:Nat}{v:AV}(hi:l[i]?=some v):rq v=true:=by
 induction l generalizing i with
 |nil=>simp at hi
 |cons x l ih=>
  simp only [pureL,Bool.and_eq_true] at h;cases i with
  |zero=>simp at hi;subst hi;exact h.1
  |succ i=>exact ih h.2 (by simpa using hi)
theorem Fw{l:List (List AV)}(h:pureLL l=true){i:Nat}{v:List AV}(hi:l[i]?=some v):pureL v=true:=by
 induction l generalizing i with
 |nil=>simp at hi
 |cons x l ih=>
  simp only [pureLL,Bool.and_eq_true] at h;cases i with
  |zero=>simp at hi;subst hi;exact h.1
  |succ i=>exact ih h.2 (by simpa using hi)
theorem Ih{l:List (AV×AV)}(h:pureM l=true){i:Nat}{k v:AV}(hi:l[i]?=some (k,v)):rq k=true∧rq v=true:=by
 induction l generalizing i with
 |nil=>simp at hi
 |cons x l ih=>
  simp only [pureM,Bool.and_eq_true] at h;cases i with
  |zero=>simp at hi;subst hi;exact h.1
  |succ i=>exact ih h.2 (by simpa using hi)
theorem V.pure{K K':ak}(hs:∀ b s,K.shape b=some s→K'.shape b=some s)(hk:∀ b o v,K.imm b o=some v→K'.imm b o=some v){v:AV}{x:Value}(h:V K v x)(hp:rq v=true):V K' v x:=by
 induction h with
 |unk v=>exact .unk v
 |bool b=>exact .bool b
 |int k n=>exact .int k n
 |str s=>exact .str s
 |nilp=>exact .nilp
 |ptr=>cases hp
 |vptr esz rows i off b o vs hl hi hv ih=>exact .vptr esz rows i off b o vs hl (fun i j r av h1 h2=>hk _ _ _ (hi i j r av h1 h2)) (fun i j r av h1 h2=>ih i j r av h1 h2 (tB (Fw (by simpa [rq] using hp) h1) h2))
 |slice0 tag esz a ht=>exact .slice0 tag esz a ⟨fun t e=>(by subst e;simp [rq] at hp),ht.2⟩
 |sliceAny tag esz a cap h=>exact .sliceAny tag esz a cap h
 |slice tag esz rows b o cap vs hl hi hv hc ht ih=>
  simp only [rq,Bool.and_eq_true] at hp;refine .slice tag esz rows b o cap vs hl (fun i j r av h1 h2=>hk _ _ _ (hi i j r av h1 h2)) (fun i j r av h1 h2=>ih i j r av h1 h2 (tB (Fw hp.2 h1) h2)) hc ?_;cases tag with
  |any=>trivial
  |some=>trivial
  |nil=>exact ht
  |full=>exact ht
  |own t=>cases hp.1
 |rslice=>cases hp
 |nilmap=>exact .nilmap
 |vmap es b mes hb hl hk hv ih1 ih2=>
  exact .vmap es b mes (hs _ _ hb) hl (fun i k v hi=>ih1 i k v hi (Ih (by simpa [rq] using hp) hi).1) (fun i k v hi=>ih2 i k v hi (Ih (by simpa [rq] using hp) hi).2)
 |map=>cases hp
 |sdp0=>cases hp
 |sdp=>cases hp
 |fn f first captured vs us h1 h2 hv hu ih1 ih2=>
  simp only [rq,Bool.and_eq_true] at hp;exact .fn f first captured vs us h1 h2 (fun i av hi=>ih1 i av hi (tB hp.1 hi)) (fun i av hi=>ih2 i av hi (tB hp.2 hi))
 |nilfn=>exact .nilfn
 |iface t v x hx ih=>exact .iface t v x (ih (by simpa [rq] using hp))
 |nilif=>exact .nilif
 |agg cs vs h1 hv ih=>exact .agg cs vs h1 (fun i av hi=>ih i av hi (tB (by simpa [rq] using hp) hi))
 |tuple cs vs h1 hv ih=>exact .tuple cs vs h1 (fun i av hi=>ih i av hi (tB (by simpa [rq] using hp) hi))
section
variable{P:Program}{K:ak}{H:List AObj}{w:World}
theorem Inv.junk(hi:Inv K H w)(o:Obj):Inv K H (w.alloc o):=by
 have hheap:∀ b,b<w.heap.size→(w.alloc o).heap[b]?=w.heap[b]? := fun b hb=>by rw [heap_alloc,if_neg (by omega)]
 refine ⟨hi.below.alloc hi.base _,fun b h=>hi.base b (by simp at h;omega),fun b off v h => ?_,hi.len,fun id y hy => ?_,hi.inj,fun b t n h => ?_,hi.glob,fun b s h=>(rp.alloc w _).shp (hi.shape b s h)⟩
 ·rw [iB (hheap b (hi.imm_lt h))];exact hi.imm _ _ _ h
 ·exact (hi.obj id y hy).mono (.refl K) (fun b _ _ hb=>hheap b hb) (fun _ _ _=>⟨fun _ h=>h,fun h=>h,fun h=>h⟩)
 ·obtain ⟨hb,fr,us,T',lo,hh,h1,h2,h3,h4,h5⟩:=hi.own b t n h
  exact ⟨hb,fr,us,T',lo,hh,h1,by rw [hheap b (Array.getElem?_eq_some_iff.1 h2).1];exact h2,h3,h4,h5⟩
theorem Inv.freeze(hi:Inv K H w){b t cap fr n:Nat}{T:TypeId}(ho:K.own b=some (t,cap))(ht:H[t]?=some (.tok fr T))(hn:n≤fr):Inv K H (w.freeze ⟨b,0,none⟩ n):=by
 obtain ⟨hb,fr',us,T',lo,hh,g1,g2,g3,g4,g5⟩:=hi.own b t cap ho;rw [ht] at g1;cases g1
 by_cases h0:n=0
 ·subst h0;simpa [World.freeze] using hi
 have hbl:=(Array.getElem?_eq_some_iff.1 g2).1
 obtain ⟨lo2,hh2,hle2,heq⟩:∃ lo2 hh2,hh2≤fr∧(w.freeze ⟨b,0,none⟩ n).heap[b]?=some (.cells us T (lo2,hh2)):=by
  by_cases e:lo=hh
  ·refine ⟨0,0+n,by omega, ?_⟩
   simp only [World.freeze,if_neg h0,Array.getElem?_modify,g2];simp [e]
  ·refine ⟨min lo 0,max hh (0+n),by omega, ?_⟩
   simp only [World.freeze,if_neg h0,Array.getElem?_modify,g2];simp [e]
 have hother:∀ b',b'≠b→(w.freeze ⟨b,0,none⟩ n).heap[b']?=w.heap[b']? := fun b' hne=>by
  simp only [World.freeze,if_neg h0,Array.getElem?_modify];rw [if_neg (fun e=>hne e.symm)]
 have hnobj:∀ (id:Nat) (y:AObj) (b':Nat),H[id]?=some y→y.live=true→K.loc[id]?=some b'→b'≠b:=fun id y b' hy hl hb' e=>by
  subst e;have:=hi.obj id y hy;cases y with
  |dead=>cases hl
  |tok=>cases hl
  |cells cs T0=>
   obtain ⟨b2,vs,T2,h1,h2,h3,h4,h5,h6,h7,h8,h9⟩:=this;rw [hb'] at h1;cases h1;rw [ho] at h7;cases h7
  |siter s p=>obtain ⟨b2,h1,h2,h3,_⟩:=this;rw [hb'] at h1;cases h1;rw [g2] at h3;cases h3
  |map es=>obtain ⟨b2,me,cl,h1,h2,h3,_⟩:=this;rw [hb'] at h1;cases h1;rw [g2] at h3;cases h3
 refine ⟨hi.below.trans ⟨by simp [World.freeze,if_neg h0],by simp [World.freeze,if_neg h0],by simp [World.freeze,if_neg h0],by simp [World.freeze,if_neg h0],fun k hk=>hother k (fun e=>hk (by rw [e];exact hb))⟩,fun b h=>hi.base b (by simpa [World.freeze,if_neg h0] using h),fun b' o v h => ?_,hi.len,fun id y hy => ?_,hi.inj,fun b' t' n' h => ?_,hi.glob,fun b' s h => ?_⟩
 ·have hc:=hi.imm _ _ _ h
  by_cases e:b'=b
  ·subst e
   rw [cu heq];rw [cu g2] at hc;exact hc
  ·rw [iB (w:=w) (hother b' e)];exact hc
 ·by_cases hl:y.live=true
  ·exact (hi.obj id y hy).mono (.refl K) (fun b' hb' _ _=>hother b' (hnobj id y b' hy hl hb')) (fun _ _ _=>⟨fun _ h=>h,fun h=>h,fun h=>h⟩)
  ·cases y<;>first | exact absurd rfl hl | trivial
 ·obtain ⟨hb',fr',us',T',lo',hh',k1,k2,k3,k4,k5⟩:=hi.own b' t' n' h
  by_cases e:b'=b
  ·subst e
   rw [ho] at h;cases h;rw [ht] at k1;cases k1;rw [g2] at k2;cases k2;exact ⟨hb',fr,us,T,lo2,hh2,ht,heq,k3,hle2,k5⟩
  ·exact ⟨hb',fr',us',T',lo',hh',k1,by rw [hother b' e];exact k2,k3,k4,k5⟩
 ·refine rp.shp (w:=w) ⟨fun b2 vs T2 f h => ?_,fun b2 es c h => ?_,fun b2 o h hf => ?_⟩ (hi.shape b' s h)
  ·by_cases e:b2=b
   ·subst e
    rw [g2] at h;cases h;exact ⟨us,(lo2,hh2),heq,rfl⟩
   ·exact ⟨vs,f,by rw [hother b2 e];exact h,rfl⟩
  ·by_cases e:b2=b
   ·subst e;rw [g2] at h;cases h
   ·rw [hother b2 e];exact h
  ·by_cases e:b2=b
   ·subst e;rw [g2] at h;cases h;cases hf
   ·rw [hother b2 e];exact h
def AM:List (List AV)→Bool
 |[]=>true
 |[.int .u8 n]::l=>decide (0≤n)&&decide (n<256)&&AM l
 |_=>false
theorem DT:∀ {rows:List (List AV)},AM rows=true→∀ (i:Nat) (n:Int),rows[i]?=some [.int .u8 n]→0≤n∧n<256
 |[],_,i,n,h=>by simp at h
 |r::rows,hb,i,n,h=>by
  unfold AM at hb;split at hb<;>rename_i he<;>first | (cases he;done) | (cases hb;done) | skip
  rename_i m l;cases he;simp only [Bool.and_eq_true,decide_eq_true_eq] at hb;cases i with
  |zero=>simp at h;subst h;exact hb.1
  |succ i=>exact DT hb.2 i n (by simpa using h)
theorem DU{u:TypeId}{count:Nat}(hc:P.cellsOf u≠0)(h:1≤count):liesAt P P.depth u count 0 u 1=true:=by
 have hd:P.depth=(2*(P.types.size+Made.depth)+1)+1:=rfl;rw [hd];simp only [liesAt,Bool.or_eq_true];left;rw [hd];simp [rowAt,hc,h,sameLayout]
end
inductive RX where
 |t (n:Nat)
 |c (v:AV)
 deriving Inhabited
def rx(a:Env):RX→AV
 |.t n=>dR a n
 |.c v=>v
inductive CK where
 |bool
 |int (k:IntKind)
 |str
 |agg (fs:List (Nat×CK))
 |bad
 deriving Inhabited
inductive EK where
 |bool
 |ptr
 |fn
 |ifc (c:Bool)
 |st (fs:List (Nat×CK))
 |sl
 |bad
 deriving Inhabited
inductive LK where
 |str
 |sl
 |mp
 deriving Inhabited
inductive ROp where
 |mv (x:RX)
 |pk (c x y:RX)
 |nw (cs:List AV) (e:TypeId)
 |bx (e:TypeId) (x:RX)
 |bd (z:List AV) (pl:List (Nat×Nat)) (ps:List (Nat×RX))
 |bs (sz:Nat) (z:List AV) (len:Nat) (ps:List (Nat×RX))
 |ld (g:Option Nat) (x:RX)
 |st (sz:Nat) (x v:RX)
 |nc (x:RX)
 |ar (op:BinOp) (x y:RX)
 |sh (op:BinOp) (x y:RX)
 |an (x y:RX)
 |eq (neg:Bool) (k:EK) (x y:RX)
 |un (op:UnOp) (x:RX)
 |cvi (k:IntKind) (x:RX)
 |cvs (x:RX)
 |cvbs (x:RX)
 |cvsb (x:RX)
 |mi (t:TypeId) (x:RX)
 |ta (T:TypeId) (z:Option AV) (ok:Bool) (x:RX)
 |mf (f:Fn) (xs ys:List RX)
 |sls (x:RX) (l h:Option RX)
 |sll (sz:Nat) (x:RX) (l h m:Option RX)
 |sla (n sz:Nat) (x:RX) (l h:Option RX)
 |fa (o:Nat) (x:RX)
 |fd (g:Option Nat) (o:Nat) (x:RX)
 |ias (sz:Nat) (x i:RX)
 |iaa (n sz:Nat) (x i:RX)
 |ixs (x i:RX)
 |ixa (n:Nat) (g:Option Nat) (sz:Nat) (x i:RX)
 |ex (x:RX) (i:Nat)
 |mm
 |ms (e:TypeId) (bytes:Nat) (cs:List AV) (l c:RX)
 |mu (k:CK) (m k v:RX)
 |lk (k:CK) (z:Option AV) (ok:Bool) (x k:RX)
 |rg (x:RX)
 |nx (x:RX)
 |len (k:LK) (x:RX)
 |cap (x:RX)
 |ap (m:Bool) (e:TypeId) (sz bytes:Nat) (str:Bool) (s x:RX)
 |cp (sz:Nat) (str:Bool) (d s:RX)
 |mx (x y:RX)
 |mn (x y:RX)
 |nwb (cs:List AV) (e:TypeId) (j:Nat) (T:TypeId)
 |usl (x:RX)
 |ust (e:TypeId) (x n:RX)
 |cvu (x:RX)
 |cvf (u:TypeId) (sz:Nat) (x:RX)
 |cvg (u:TypeId) (us:List TypeId) (sz:Nat) (x:RX)
 |apz (e:TypeId) (sz bytes:Nat) (z:List AV) (s n:RX)
 |cl (sz:Nat) (z:List AV) (x:RX)
 |cvsr (x:RX)
 |cvrs (x:RX)
 |ba (sz:Nat) (z:List AV) (ps:List (Nat×RX))
 |bm (e:TypeId) (sz:Nat) (z:List AV) (len:Nat) (ps:List (Nat×RX))
 deriving Inhabited
def bJ(g:Option Nat)(cs:List AV)(off:Nat):Option AV:=
 match g with
 |some n=>if off+n≤cs.length then some (.agg ((cs.drop off).take n)) else none
 |none=>cs[off]?
def nj(g:Option Nat)(H:List AObj):AV→Option AV
 |.ptr id off=>match H[id]? with
  |some (.cells cs _)=>bJ g cs off
  |_=>none
 |.vptr _ rows i off=>match rows[i]? with
  |some r=>bJ g r off
  |none=>none
 |_=>none
def C3(sz:Nat)(H:List AObj)(x v:AV):Option (List AObj):=
 match x,dD v with
 |.ptr id off,some cs=>match H[id]? with
  |some (.cells old T)=>if cs.length=sz∧off+sz≤old.length∧cs.all AV.cell=true then some (H.set id (.cells (aU old off cs) T)) else none
  |_=>none
 |_,_=>none
def rar(op:BinOp)(x y:AV):Option AV:=
 match x,y with
 |.int k m,.int k' n=>if k=k' then mF op k m n else none
 |.str s,.str u=>mG op s u
 |_,_=>none
def rsh(op:BinOp)(x y:AV):Option AV:=
 match x,y with
 |.int k m,.int _ n=>Fk op k m n
 |_,_=>none
def ran(x y:AV):Option AV:=
 match x,y with
 |.int k m,.int k' n=>if k=k' then some (.int k (k.wrap (BitVec.ofInt k.bits m &&& ~~~ BitVec.ofInt k.bits n).toNat)) else none
 |_,_=>none
def xm(k:CK)(x y:AV):Option Bool:=
 match k,x,y with
 |.bool,.bool a,.bool b=>some (a == b)
 |.int _,.int k a,.int k' b=>if k=k' then some (a == b) else none
 |.str,.str a,.str b=>some (a == b)
 |_,_,_=>none
def tC(xs ys:List AV):List (Nat×CK)→Option Bool
 |[]=>some true
 |(o,k)::fs=>
  match xs[o]?,ys[o]? with
  |some x,some y=>match xm k x y with
   |some true=>tC xs ys fs
   |some false=>some false
   |none=>none
  |_,_=>none
def req(k:EK)(x y:AV):Option Bool:=
 match k,x,y with
 |.bool,.bool a,.bool b=>some (a == b)
 |.ptr,.nilp,.nilp=>some true
 |.ptr,.nilp,.ptr _ _=>some false
 |.ptr,.ptr _ _,.nilp=>some false
 |.ptr,.nilp,.vptr .. => some false
 |.ptr,.vptr ..,.nilp=>some false
 |.ptr,.ptr i o,.ptr j p=>if i=j then some (o == p) else none
 |.fn,.nilfn,.nilfn=>some true
 |.fn,.nilfn,.fn .. => some false
 |.fn,.fn ..,.nilfn=>some false
 |.ifc c,.nilif,.nilif=>if c then some true else none
 |.ifc _,.nilif,.iface _ _=>some false
 |.ifc _,.iface _ _,.nilif=>some false
 |.st fs,.agg xs,.agg ys=>tC xs ys fs
 |.sl,x,y=>DN x y
 |_,_,_=>none
def rfa(o:Nat)(x:AV):Option AV:=
 match x with
 |.ptr id off=>some (.ptr id (off+o))
 |.vptr esz rows i off=>some (.vptr esz rows i (off+o))
 |_=>none
def rfd(g:Option Nat)(o:Nat)(x:AV):Option AV:=
 match x with
 |.agg cs=>bJ g cs o
 |_=>none
def qi(sz:Nat)(x ix:AV):Option AV:=
 match x,ix with
 |.slice _ esz rows,.int _ n=>if sz=esz∧0≤n∧n<rows.length then some (.vptr esz rows n.toNat 0) else none
 |.rslice id off len esz _,.int _ n=>if sz=esz∧0≤n∧n<len then some (.ptr id (off+n.toNat*esz)) else none
 |_,_=>none
def Uh(len sz:Nat)(x ix:AV):Option AV:=
 match x,ix with
 |.ptr id off,.int _ n=>if 0≤n∧n<len then some (.ptr id (off+n.toNat*sz)) else none
 |.vptr esz rows i off,.int _ n=>if 0≤n∧n<len then some (.vptr esz rows i (off+n.toNat*sz)) else none
 |_,_=>none
def Kz(x ix:AV):Option AV:=
 match x,ix with
 |.str s,.int _ n=>if 0≤n then (match s[n.toNat]? with | some b=>some (.int .u8 b.toNat) | none=>none) else none
 |_,_=>none
def Ui(len:Nat)(g:Option Nat)(sz:Nat)(x ix:AV):Option AV:=
 match x,ix with
 |.agg cs,.int _ n=>if 0≤n∧n<len then bJ g cs (n.toNat*sz) else none
 |_,_=>none
def Fx(x:AV)(lo hi:Option AV):Option AV:=
 match x with
 |.str s=>match eF lo 0,eF hi s.length with
  |some l,some h=>if l≤h∧h≤s.length then some (.str ((s.drop l).take (h-l))) else none
  |_,_=>none
 |_=>none
def zB(sz:Nat)(x:AV)(lo hi mx:Option AV):Option AV:=
 match x with
 |.slice tag esz rows=>match eF lo 0,eF hi rows.length,eF mx rows.length with
  |some l,some h,some m=>
   if sz=esz∧l≤h∧h≤m∧m≤rows.length then some (.slice (if rows.isEmpty=true∧tag = .nil∧mx.isNone=true then .nil else if mx.isSome=true∧m=h then .full else .any) esz ((rows.drop l).take (h-l))) else none
  |_,_,_=>none
 |.rslice id off len esz room=>match eF lo 0,eF hi len,mx with
  |some l,some h,none=>if sz=esz∧(l<h∨(l=0∧h=0))∧h≤len then some (.rslice id (off+l*esz) (h-l) esz room) else if sz=esz∧l=h∧h≤len then some (.slice .any esz []) else none
  |_,_,_=>none
 |_=>none
def Uj(n sz:Nat)(x:AV)(lo hi:Option AV):Option AV:=
 match x with
 |.ptr id off=>match eF lo 0,eF hi n with
  |some l,some h=>if l<h∧h≤n then some (.rslice id (off+l*sz) (h-l) sz false) else none
  |_,_=>none
 |_=>none
def Uk(k:IntKind)(x:AV):Option AV:=
 match x with
 |.int _ n=>some (.int k (k.wrap n))
 |_=>none
def Ul(x:AV):Option AV:=
 match x with
 |.int _ n=>some (.str (Utf8.encode n).data.toList)
 |.str s=>some (.str s)
 |_=>none
def KA(H:List AObj)(x:AV):Option AV:=
 match x with
 |.slice _ _ rows=>(n6 rows).map .str
 |.rslice id off len 1 _=>match H[id]? with
  |some (.cells cs _)=>if off+len≤cs.length then (Bm ((cs.drop off).take len)).map .str else none
  |_=>none
 |_=>none
def PI(x:AV):Option AV:=
 match x with
 |.str s=>some (.slice .any 1 (s.map fun b=>[.int .u8 b.toNat]))
 |_=>none
def Nu(x:AV):Option AV:=
 match x with
 |.str s=>if s.length≤70368744177664 then some (.slice .any 1 ((gT s).map fun n=>[.int .i32 n])) else none
 |_=>none
def Nv(x:AV):Option AV:=
 match x with
 |.slice _ 1 rows=>(Ja rows).map fun ns=>.str (runeStr ns)
 |_=>none
def rta(T:TypeId)(z:Option AV)(ok:Bool)(x:AV):Option AV:=
 match x with
 |.iface t v=>if t=T then some (if ok then .tuple [v,.bool true] else v) else if ok then z.map fun z=>.tuple [z,.bool false] else none
 |.nilif=>if ok then z.map fun z=>.tuple [z,.bool false] else none
 |_=>none
def rms(H:List AObj)(e:TypeId)(bytes:Nat)(cs:List AV)(l c:AV):Option (AV×List AObj):=
 match l,c with
 |.int _ l,.int _ c=>if 0≤l∧l≤c∧c.toNat*bytes≤140737488355328∧c≤4611686018427387904 then
   some (.rslice H.length 0 l.toNat cs.length true,H++[.cells (List.replicate c.toNat cs).flatten e])
  else none
 |_,_=>none
def DV(k:CK)(v:AV):Bool:=
 match k,v with
 |.int k,.int k' _=>k'=k
 |.str,.str _=>true
 |.bool,.bool _=>true
 |_,_=>false
def Bp(xs:List AV)(f:Nat×CK):Bool:=
 match xs[f.1]? with
 |some x=>(xm f.2 x x).isSome
 |none=>false
def Ml(fs:List (Nat×CK))(xs ys:List AV):Option Bool:=
 match tC xs ys fs with
 |some true=>if B5 ys xs=true then some true else none
 |r=>r
def Ji(fs:List (Nat×CK))(xs:List AV):List (AV×AV)→Nat→Option (Option (Nat×AV))
 |[],_=>some none
 |e::es,i=>match e.1 with
  |.agg ys=>match Ml fs xs ys with
   |some true=>some (some (i,e.2))
   |some false=>Ji fs xs es (i+1)
   |none=>none
  |_=>none
def Fy(k:CK)(kv:AV)(es:List (AV×AV)):Option (Option (Nat×AV)):=
 if DV k kv=true then mH kv es 0
 else match k,kv with
  |.agg fs,.agg xs=>if fs.all (Bp xs)=true then Ji fs xs es 0 else none
  |_,_=>none
def rlk (H:List AObj) (k:CK) (z:Option AV) (ok:Bool) (x kv:AV):Option AV:=
    match Bo H x with
    |some es=>match Fy k kv es with
     |some (some (_,v))=>some (if ok then .tuple [v,.bool true] else v)
     |some none=>z.map fun z=>if ok then .tuple [z,.bool false] else z
     |none=>none
    |none=>none
def rmu(H:List AObj)(kk:CK)(m k v:AV):Option (List AObj):=
 match m with
 |.map id=>
   match H[id]? with
   |some (.map es)=>match Fy kk k es with
    |some (some (i,_))=>some (H.set id (.map (es.set i (k,v))))
    |some none=>some (H.set id (.map (es++[(k,v)])))
    |none=>none
   |_=>none
 |_=>none
def rrg(H:List AObj)(x:AV):Option (AV×List AObj):=
 match x with
 |.str s=>some (.ptr H.length 0,H++[.siter s 0])
 |_=>none
def Bq(H:List AObj)(k:LK)(x:AV):Option AV:=
 match k,x with
 |.str,.str s=>some (.int .i64 s.length)
 |.sl,.slice _ _ rows=>some (.int .i64 rows.length)
 |.sl,.rslice _ _ len _ _=>some (.int .i64 len)
 |.mp,.nilmap=>some (.int .i64 0)
 |.mp,.map id=>match H[id]? with
  |some (.map es)=>some (.int .i64 es.length)
  |_=>none
 |_,_=>none
def PJ(x:AV):Option AV:=
 match x with
 |.slice .full _ rows=>some (.int .i64 rows.length)
 |.slice .nil _ rows=>some (.int .i64 rows.length)
 |_=>none
def yF(H:List AObj)(sz:Nat)(str:Bool)(x:AV):Option (List (List AV)):=
 match str,x with
 |false,.slice _ esz rows=>if rows=[]∨esz=sz then some rows else none
 |true,.str s=>if sz=1 then some (s.map fun b=>[.int .u8 b.toNat]) else none
 |false,.rslice id off len esz _=>match H[id]? with
  |some (.cells cs _)=>if esz=sz∧off+len*esz≤cs.length then some (fI esz len (cs.drop off)) else none
  |_=>none
 |_,_=>none
def r9(sz:Nat)(new:List (List AV)):Bool:=new.all (fun r=>r.length == sz&&r.all AV.cell)
def zC(H:List AObj)(e:TypeId)(sz bytes:Nat)(str:Bool)(s x:AV):Option (AV×List AObj):=
 match yF H sz str x with
 |some new=>match s with
  |.slice tag esz rows=>
   if (rows=[]∨esz=sz)∧(rows.length+new.length)*bytes≤140737488355328∧rows.length+new.length≤4611686018427387904∧r9 sz new=true then
    match new with
    |[]=>some (s,H)
    |_::_=>match tag with
     |.any=>none
     |.some=>none
     |.full=>some (.slice (.own H.length) sz (rows++new.map (·.map AV.strip)),H++[.tok ((rows.length+new.length)*sz) e])
     |.nil=>some (.slice (.own H.length) sz (rows++new.map (·.map AV.strip)),H++[.tok ((rows.length+new.length)*sz) e])
     |.own t=>match H[t]? with
      |some (.tok fr T)=>if fr=rows.length*sz∧esz=sz∧T=e then some (.slice (.own t) sz (rows++new.map (·.map AV.strip)),H.set t (.tok (fr+new.length*sz) T)) else none
      |_=>none
   else none
  |_=>none
 |none=>none
def Cd(H:List AObj)(e:TypeId)(sz bytes:Nat)(str:Bool)(s x:AV):Option (AV×List AObj):=
 match yF H sz str x with
 |some new=>
  if r9 sz new=true then
   match s with
   |.slice .full esz rows=>
    if (rows=[]∨esz=sz)∧(rows.length+new.length)*bytes≤140737488355328∧rows.length+new.length≤4611686018427387904∧new≠[] then
     some (.rslice H.length 0 (rows.length+new.length) sz true,H++[.cells (rows++new).flatten e])
    else if new=[] then some (s,H) else none
   |.rslice id 0 len esz true=>match H[id]? with
    |some (.cells cs T)=>
     if esz=sz∧T=e∧len*esz≤cs.length∧(len+new.length)*bytes≤140737488355328∧len+new.length≤4611686018427387904 then
      some (.rslice H.length 0 (len+new.length) esz true,H.set id .dead++[.cells (cs.take (len*esz)++new.flatten) e])
     else none
    |_=>none
   |_=>none
  else none
 |none=>none
def rcp(H:List AObj)(sz:Nat)(str:Bool)(d s:AV):Option (AV×List AObj):=
 match d,yF H sz str s with
 |.rslice id off len esz _,some rows=>match H[id]? with
  |some (.cells cs T)=>
   if esz=sz∧off+len*esz≤cs.length∧rows.length≤len∧r9 sz rows=true then
    some (.int .i64 rows.length,H.set id (.cells (aU cs off rows.flatten) T))
   else none
  |_=>none
 |_,_=>none
def rap(m:Bool)(H:List AObj)(e:TypeId)(sz bytes:Nat)(str:Bool)(s x:AV):Option (AV×List AObj):=
 match m,s with
 |false,.rslice id 0 0 esz true=>match H[id]? with
  |some (.cells _ T)=>zC (H.set id (.tok 0 T)) e sz bytes str (.slice (.own id) esz []) x
  |_=>none
 |_,.rslice .. => Cd H e sz bytes str s x
 |true,.slice .full _ _=>Cd H e sz bytes str s x
 |true,.slice .nil esz rows=>Cd H e sz bytes str (.slice .full esz rows) x
 |_,_=>zC H e sz bytes str s x
def bH(H:List AObj)(x:Option AV):Option (AV×List AObj):=
 match x with
 |some v=>some (v,H)
 |none=>none
def Ce(x:Option (List AObj)):Option (AV×List AObj):=
 match x with
 |some H=>some (gH,H)
 |none=>none
def Om(x:AV):Option AV:=
 match x with
 |.slice (.own t) 1 rows=>if E7 rows=true then some (.sdp t rows) else none
 |.slice .nil _ []=>some (.sdp 0 [])
 |_=>none
def Mm(H:List AObj)(e:TypeId)(x n:AV):Option AV:=
 match x,n with
 |.sdp _ [],.int .i64 n=>if n=0 then some (.str []) else none
 |.sdp t (r::rows),.int .i64 n=>match H[t]?,n6 (r::rows) with
  |some (.tok fr T),some bs=>if T=e∧n=bs.length∧bs.length≤fr∧bs.length≤9223372036854775807∧AM (r::rows)=true then some (.str bs) else none
  |_,_=>none
 |_,_=>none
def PK(H:List AObj)(x:AV):Option AV:=
 match x with
 |.ptr id off=>match H[id]? with
  |some (.cells cs _)=>if off<cs.length then some (.ptr id off) else none
  |_=>none
 |_=>none
def Um(H:List AObj)(u:TypeId)(sz:Nat)(x:AV):Option AV:=
 match x with
 |.ptr id 0=>match H[id]? with
  |some (.cells cs T)=>if T=u∧sz≤cs.length then some (.ptr id 0) else none
  |_=>none
 |_=>none
def PL(H:List AObj)(u:TypeId)(us:List TypeId)(sz:Nat)(x:AV):Option AV:=
 match x with
 |.ptr id 0=>match H[id]? with
  |some (.cells cs T)=>if (Nat.beq T u||us.any (Nat.beq T))=true∧sz≤cs.length then some (.ptr id 0) else none
  |_=>none
 |_=>none
def PM(H:List AObj)(e:TypeId)(sz bytes:Nat)(z:List AV)(s n:AV):Option (AV×List AObj):=
 match s,n with
 |.slice .nil esz [],.int .i64 n=>
  if n=0 then some (.slice .nil esz [],H)
  else if 0<n∧n.toNat*bytes≤140737488355328∧n≤4611686018427387904 then some (.rslice H.length 0 n.toNat sz true,H++[.cells (List.replicate n.toNat z).flatten e])
  else none
 |_,_=>none
def rcl(H:List AObj)(sz:Nat)(z:List AV)(x:AV):Option (List AObj):=
 match x with
 |.slice _ _ []=>some H
 |.rslice id off len esz _=>match H[id]? with
  |some (.cells cs T)=>if esz=sz∧off+len*esz≤cs.length then some (H.set id (.cells (aU cs off (List.replicate len z).flatten) T)) else none
  |_=>none
 |_=>none
def rbm(H:List AObj)(e:TypeId)(sz len:Nat)(cs:Option (List AV)):Option (AV×List AObj):=
 match cs with
 |some cs=>some (.rslice H.length 0 len sz true,H++[.cells cs e])
 |none=>none
def rop(a:Env)(H:List AObj):ROp→Option (AV×List AObj)
 |.mv x=>some (rx a x,H)
 |.pk c x y=>match rx a c with
  |.bool b=>some (if b then rx a x else rx a y,H)
  |_=>none
 |.nw cs e=>some (.ptr H.length 0,H++[.cells cs e])
 |.bx e x=>match dD (rx a x) with
  |some cs=>some (.ptr H.length 0,H++[.cells cs e])
  |none=>none
 |.bd z pl ps=>bH H ((jd (pl[·]?) z (ps.map fun p=>(p.1,rx a p.2))).map .agg)
 |.bs sz z len ps=>bH H ((jd (fun i=>some (i*sz,sz)) (zo len z) (ps.map fun p=>(p.1,rx a p.2))).map fun cs=>.slice .full sz (vR sz len (cs.map AV.strip)))
 |.ld g x=>bH H (nj g H (rx a x))
 |.st sz x v=>Ce (C3 sz H (rx a x) (rx a v))
 |.nc x=>match rx a x with
  |.ptr i o=>some (.ptr i o,H)
  |.vptr e r i o=>some (.vptr e r i o,H)
  |.fn (.func f) x y=>some (.fn (.func f) x y,H)
  |_=>none
 |.ar op x y=>bH H (rar op (rx a x) (rx a y))
 |.sh op x y=>bH H (rsh op (rx a x) (rx a y))
 |.an x y=>bH H (ran (rx a x) (rx a y))
 |.eq neg k x y=>bH H ((req k (rx a x) (rx a y)).map fun b=>.bool (if neg then !b else b))
 |.un op x=>bH H (Ib op (rx a x))
 |.cvi k x=>bH H (Uk k (rx a x))
 |.cvs x=>bH H (Ul (rx a x))
 |.cvbs x=>bH H (KA H (rx a x))
 |.cvsb x=>bH H (PI (rx a x))
 |.mi t x=>some (.iface t (rx a x),H)
 |.ta T z ok x=>bH H (rta T z ok (rx a x))
 |.mf f xs ys=>some (.fn f (xs.map (rx a)) (ys.map (rx a)),H)
 |.sls x l h=>bH H (Fx (rx a x) (l.map (rx a)) (h.map (rx a)))
 |.sll sz x l h m=>bH H (zB sz (rx a x) (l.map (rx a)) (h.map (rx a)) (m.map (rx a)))
 |.sla n sz x l h=>bH H (Uj n sz (rx a x) (l.map (rx a)) (h.map (rx a)))
 |.fa o x=>bH H (rfa o (rx a x))
 |.fd g o x=>bH H (rfd g o (rx a x))
 |.ias sz x i=>bH H (qi sz (rx a x) (rx a i))
 |.iaa n sz x i=>bH H (Uh n sz (rx a x) (rx a i))
 |.ixs x i=>bH H (Kz (rx a x) (rx a i))
 |.ixa n g sz x i=>bH H (Ui n g sz (rx a x) (rx a i))
 |.ex x i=>bH H (pa (rx a x) i)
 |.mm=>some (.map H.length,H++[.map []])
 |.ms e bytes cs l c=>rms H e bytes cs (rx a l) (rx a c)
 |.mu kk m k v=>Ce (rmu H kk (rx a m) (rx a k) (rx a v))
 |.lk kk z ok x k=>bH H (rlk H kk z ok (rx a x) (rx a k))
 |.rg x=>rrg H (rx a x)
 |.nx x=>Kx H (rx a x)
 |.len k x=>bH H (Bq H k (rx a x))
 |.cap x=>bH H (PJ (rx a x))
 |.ap m e sz bytes str s x=>rap m H e sz bytes str (rx a s) (rx a x)
 |.cp sz str d s=>rcp H sz str (rx a d) (rx a s)
 |.mx x y=>bH H (Ko (rx a x) (rx a y))
 |.mn x y=>bH H (B2 (rx a x) (rx a y))
 |.nwb cs e j T=>some (.ptr (H.length+1) 0,H++[.tok 0 T,.cells (cs.set j (.slice (.own H.length) 1 [])) e])
 |.usl x=>bH H (Om (rx a x))
 |.ust e x n=>bH H (Mm H e (rx a x) (rx a n))
 |.cvu x=>bH H (PK H (rx a x))
 |.cvf u sz x=>bH H (Um H u sz (rx a x))
 |.cvg u us sz x=>bH H (PL H u us sz (rx a x))
 |.apz e sz bytes z s n=>PM H e sz bytes z (rx a s) (rx a n)
 |.cl sz z x=>Ce (rcl H sz z (rx a x))
 |.cvsr x=>bH H (Nu (rx a x))
 |.cvrs x=>bH H (Nv (rx a x))
 |.ba sz z ps=>bH H ((jd (fun i=>some (i*sz,sz)) z (ps.map fun p=>(p.1,rx a p.2))).map .agg)
 |.bm e sz z len ps=>rbm H e sz len (jd (fun i=>some (i*sz,sz)) (zo len z) (ps.map fun p=>(p.1,rx a p.2)))
section
variable{P:Program}{K:ak}{H:List AObj}{w:World}
theorem FA{z:Value}{cs:List AV}{size:Nat}(hcs:dD (ji z)=some cs)(h5:cs.length=size)(n:Nat):nM K size (List.replicate n cs) (Builtin.zeroCells z.cells n).toList:=by
 have hvs:Vs K cs z.cells:=(nJ K z).cells hcs;have hzs:z.cells.size=size:=by rw [← hvs.size];exact h5
 refine ⟨fun r hr=>by rw [(List.mem_replicate.1 hr).2];exact h5,by simp [size_zeroCells,hzs],fun i j r av h1 h2 => ?_⟩;obtain rfl:r=cs:=(List.mem_replicate.1 (List.mem_of_getElem? h1)).2;have hj:j<size:=by rw [← h5];exact (List.getElem?_eq_some_iff.1 h2).1
 have hi:i<n:=by have:=(List.getElem?_eq_some_iff.1 h1).1;simpa using this
 obtain ⟨x,x1,x2⟩:=hvs.get h2
 have hlt:i*size+j<n*size:=by
  have:(i+1)*size≤n*size:=Nat.mul_le_mul_right _ hi
  rw [Nat.add_mul] at this;omega
 refine ⟨x, ?_,x2⟩;simp only [Builtin.zeroCells,hzs,Array.toList_map,List.getElem?_map,Array.getElem?_toList,Array.getElem?_range,hlt,if_true,Option.map_some];rw [Nat.mul_comm,Nat.mul_add_mod,Nat.mod_eq_of_lt hj,getElem!_def,x1]
theorem Mn(hi:Inv K H w){t u e:TypeId}{k:IntKind}{i:TypeInfo}{zv:Value}{z:List AV}(ht:P.underlying t=some (.slice e))(hu:P.underlying u=some (.int k))(hinfo:P.info? e=some i)
  (hz:i.zero=some zv) (hcs:dD (ji zv)=some z) (h5:z.length=i.size) {s x v:AV}{cs cx:Value}{H':List AObj} (hs:V K s cs) (hx:V K x cx) (h:PM H e i.size i.bytes z s x=some (v,H')) (ty:TypeId) :
  ∃ K' cv w',K.le K'∧(Builtin.append_ #[t,u] ty #[cs,cx]).run P w = .ok cv w'∧V K' v cv∧Inv K' H' w':=by
 unfold PM at h;split at h<;>try (cases h;done)
 rename_i esz n
 obtain rfl:cs = .slice none 0 0:=by
  cases hs with
  |sliceAny _ _ _ _ e=>simp at e
  |slice0 _ _ a ha=>rw [ha.2.1 rfl]
  |slice _ _ _ b o cap vs hl him hv hcap ht=>exact (ht:False).elim
 cases hx;split at h
 ·rename_i h0
  subst h0;cases h;refine ⟨K,.slice none 0 0,w,.refl K, ?_,.slice0 _ _ _ ⟨fun _ e=>(by cases e),fun _=>rfl,fun e=>(by cases e)⟩,hi⟩;have w0:IntKind.i64.wrap 0=0:=by decide
  simp [Builtin.append_,run_underlying' ht,run_underlying' hu,sizeOf,typeInfo,hinfo,asInt,asIntOf,w0]
 ·split at h
  ·rename_i hc
   obtain ⟨h1,h2,h3⟩:=hc;cases h;obtain ⟨m,rfl⟩:∃ m:Nat,n=(m:Int):=⟨n.toNat,by omega⟩
   simp only [Int.toNat_natCast] at h2;have w0:IntKind.i64.wrap (m:Int)=m:=IntWalk.i64_in _ ⟨by omega,by omega⟩;have hm:0<m:=by omega
   have hf:=FA (K:=K) hcs h5 m;obtain ⟨hfl,hfc⟩:=hf.cells;have hvs:Vs K z zv.cells:=(nJ K zv).cells hcs;have hzs:zv.cells.size=i.size:=by rw [← hvs.size];exact h5
   have hns:Builtin.nextslicecap m 0=m:=by unfold Builtin.nextslicecap;simp;omega
   have hg:(Builtin.append_ #[t,u] ty #[.slice none 0 0,.int .i64 m]).run P w = .ok (.slice (some ⟨w.heap.size,0,none⟩) m (grownCap w m 0 e)) (w.drew.alloc (.cells (Builtin.zeroCells zv.cells m++Builtin.zeroCells zv.cells (grownCap w m 0 e-m)) e)):=by
    have e1:¬ (281474976710656<m*i.bytes):=by omega
    have e2:¬ (281474976710656<(m:Int)*(i.bytes:Int)):=by omega
    have e3:¬ (9223372036854775807<(m:Int)):=by omega
    have e4:¬ ((m:Int)<0):=by omega
    by_cases hsz:i.size=0
    ·have:Builtin.zeroCells zv.cells m = #[]:=by apply Array.eq_empty_of_size_eq_zero;simp [size_zeroCells,hzs,hsz]
     simp [Builtin.append_,run_underlying' ht,run_underlying' hu,sizeOf,typeInfo,zeroValue,hinfo,hz,asInt,asIntOf,w0,e1,e2,e3,e4,hns,Question.forced,newRow,grownCap,Builtin.firstCells,hsz,this,Nat.ne_of_gt hm]
    ·simp [Builtin.append_,run_underlying' ht,run_underlying' hu,sizeOf,typeInfo,zeroValue,hinfo,hz,asInt,asIntOf,w0,e1,e2,e3,e4,hns,Question.forced,newRow,grownCap,Builtin.firstCells,hsz,Nat.ne_of_gt hm]
     intro h;rcases Nat.mul_eq_zero.1 h with h | h<;>omega
   generalize hC:grownCap w m 0 e=C at hg;have hC2:m≤C:=by rw [← hC];have:=o9 w m 0 e;exact this
   have hsz2:(Builtin.zeroCells zv.cells m++Builtin.zeroCells zv.cells (C-m)).size=C*i.size:=by
    rw [Array.size_append,size_zeroCells,size_zeroCells,hzs,← Nat.add_mul];congr 1;omega
   have hgetm:∀ k,k<m*i.size→(Builtin.zeroCells zv.cells m++Builtin.zeroCells zv.cells (C-m))[k]?=(Builtin.zeroCells zv.cells m)[k]? := fun k hk=>by
    rw [Array.getElem?_append_left (by rw [size_zeroCells,hzs];exact hk)]
   generalize hvs2:Builtin.zeroCells zv.cells m++Builtin.zeroCells zv.cells (C-m)=vs at hg hsz2 hgetm;have hi2:=hi.drew;have hflat:(List.replicate m z).flatten.length=m*i.size:=by rw [hfl];simp [size_zeroCells,hzs]
   have hal:=hi2.allocObj (.cells (List.replicate m z).flatten e) (.cells vs e) rfl (some (.rows vs.size)) (fun s h=>by cases h;exact ⟨vs,e,(0,0),by rw [heap_alloc,if_pos rfl],rfl⟩) fun w' hw' g1 g2=>
    ⟨w.drew.heap.size,vs,e,by simp [ak.pushS],hi2.new,hw',by rw [hflat,hsz2];exact Nat.mul_le_mul_right _ hC2,fun k av hk=>by
     obtain ⟨v,e1,e2⟩:=hfc k av hk;have hkl:k<m*i.size:=by rw [← hflat];exact (List.getElem?_eq_some_iff.1 hk).1
     have:vs[k]?=some v:=by rw [hgetm k hkl];simpa using e1
     rw [mj this];exact e2.mono (K.le_pushS _ _ hi2.shape_base),g1,g2,by simp [ak.pushS],rfl⟩
   refine ⟨K.pushS w.drew.heap.size (some (.rows vs.size)),_,_,K.le_pushS _ _ hi2.shape_base,hg, ?_,by simpa using hal⟩;refine .rslice _ _ _ _ _ _ _ (by simp [ak.pushS,← hi.len]) (by omega) (fun _=>⟨vs.size,by simp [ak.pushS],by rw [hsz2];omega⟩)
  ·cases h
theorem On(hi:Inv K H w){t e:TypeId}{i:TypeInfo}{zv:Value}{z:List AV}(ht:P.underlying t=some (.slice e))(hinfo:P.info? e=some i)
  (hz:i.zero=some zv) (hcs:dD (ji zv)=some z) (h5:z.length=i.size) (hzc:z.all AV.cell=true) {x:AV}{cx:Value}{H':List AObj} (hx:V K x cx) (h:rcl H i.size z x=some H') (ty:TypeId) :
  ∃ w',(Builtin.clear_ #[t] ty #[cx]).run P w = .ok (.tuple #[]) w'∧Inv K H' w':=by
 unfold rcl at h;split at h
 ·cases h
  refine ⟨w, ?_,hi⟩;cases hx with
  |slice0=>cases ‹Option Addr› <;> simp [Builtin.clear_,run_underlying' ht]
  |sliceAny _ _ a cap _=>cases a<;>simp [Builtin.clear_,run_underlying' ht]
  |slice=>simp [Builtin.clear_,run_underlying' ht]
 ·rename_i id off len esz room
  split at h<;>try (cases h;done)
  rename_i old T hold;split at h<;>try (cases h;done)
  rename_i hc;obtain ⟨rfl,h1⟩:=hc;cases h;cases hx with
  |rslice _ _ _ _ _ b cap hb hcap hro=>
  have hf:=FA (K:=K) hcs h5 len;obtain ⟨hfl,hfc⟩:=hf.cells;obtain ⟨b',vs,T',g1,g2,g3,g4,g5,g6,g7,g8⟩:=hi.obj id _ hold;rw [hb] at g1;cases g1;have hflat:(List.replicate len z).flatten.length=len*i.size:=by rw [List.length_flatten];simp [h5]
  cases len with
  |zero=>
   refine ⟨w, ?_, ?_⟩
   ·simp [Builtin.clear_,run_underlying' ht]
   ·simp only [List.replicate_zero,List.flatten_nil,aU]
    rw [Fc hold];exact hi
  |succ len=>
   have hst:=run_storeCells_cells (P:=P) b off (Builtin.zeroCells zv.cells (len+1)).toList 0 w (fun j hj=>by
    rw [Nat.add_zero,cu g3]
    have:j<(len+1)*i.size:=by rw [← hflat,hfl];exact hj
    have h2:off+j<vs.size:=by omega
    simp [h2]) (fun j hj=>by simp [World.frozen?,g3]) (hf.one fun r hr=>by rw [(List.mem_replicate.1 hr).2];exact hzc)
   refine ⟨w.setCells b off (Builtin.zeroCells zv.cells (len+1)).toList, ?_, ?_⟩
   ·simp only [Nat.add_zero] at hst
    simp [Builtin.clear_,run_underlying' ht,zeroValue,typeInfo,hinfo,hz,hst]
   ·refine Inv.stores hb _ _ off H w old T hi hold hfl (by rw [hflat];exact h1) hfc
 ·cases h
end
section
variable(P:Program)(G:Nat→Option (List AV))
def Nw(t:TypeId)(v:AV):AV:=
 match v with
 |.slice .nil 0 []=>match P.underlying t with
  |some (.slice e)=>.slice .nil ((fM P e).getD 0) []
  |_=>v
 |_=>v
def pg:List TypeId→List AV→List AV
 |_,[]=>[]
 |[],v::l=>v::pg [] l
 |t::ts,v::l=>Nw P t v::pg ts l
def Cf:Nat→TypeId→List TypeId
 |0,t=>[t]
 |n+1,t=>match P.underlying t with
  |some (.struct fields)=>(fields.toList.map fun f=>Cf n f.type).flatten
  |some (.array k e)=>(List.replicate k (Cf n e)).flatten
  |_=>[t]
def Jj(t:TypeId):Option (List AV):=(yy P t).map (pg P (Cf P 20 t))
def cx0:Operand→RX
 |.tmp n=>.t n
 |.const v=>.c (ji v)
 |.global g=>.c (match G g with
  |some cs=>.vptr cs.length [cs] 0 0
  |none=>.unk)
 |.func f=>.c (.fn (.func f) [] [])
def cx(t:TypeId)(x:Operand):RX:=
 match cx0 G x with
 |.c v=>.c (Nw P t v)
 |r=>r
def Mo(t:TypeId):Option (Option Nat):=
 match Ki P t,fM P t with
 |some true,some n=>some (some n)
 |some false,some _=>some none
 |_,_=>none
def cck(t:TypeId):CK:=
 match P.underlying t with
 |some .bool=>.bool
 |some (.int k)=>.int k
 |some .string=>.str
 |_=>.bad
def Jk(u T:TypeId):Bool:=
 match P.underlying T with
 |some (.struct fs) => !P.stoodInHeld T&&Nat.beq (P.cellsOf T) (P.cellsOf u)&&(match fs[0]? with | some f=>Nat.beq f.type u&&Nat.beq f.offset 0 | none=>false)
 |_=>false
def firsts(u:TypeId):List TypeId:=(List.range P.types.size).filter (Jk P u)
def ckk(t:TypeId):CK:=
 match P.underlying t with
 |some (.struct fs)=>if P.stoodInHeld t=false then .agg (fs.toList.map fun f=>(f.offset,if f.name = "_" then .bad else cck P f.type)) else .bad
 |_=>cck P t
def cek(t:TypeId)(c:Bool):EK:=
 match P.underlying t with
 |some .bool=>.bool
 |some (.pointer e)=>match fM P e with
  |some (_+1)=>.ptr
  |_=>.bad
 |some (.func ..)=>.fn
 |some (.interface _)=>.ifc c
 |some (.struct fields)=>if P.eqGuardType P.depth t=false∧P.stoodInHeld t=false then .st (fields.toList.map fun f=>(f.offset,if f.name = "_" then .bad else cck P f.type)) else .bad
 |some (.slice _)=>.sl
 |_=>.bad
def VQ(e:TypeId):Option (Nat×TypeId):=
 match P.info? e with
 |some i=>if i.str == "strings.Builder" then (match (Cf P 20 e)[1]? with
   |some t=>match P.underlying t with
    |some (.slice b)=>some (1,b)
    |_=>none
   |none=>none)
  else match P.underlying e with
   |some (.struct fields)=>(fields.toList.findSome? fun f=>match P.info? f.type with
    |some j=>if j.str == "strings.Builder" then (match (Cf P 20 f.type)[1]? with
      |some t=>match P.underlying t with
       |some (.slice b)=>some (f.offset+1,b)
       |_=>none
      |none=>none) else none
    |none=>none)
   |_=>none
 |none=>none
def TR(P:Program)(e:TypeId):Bool:=
 match P.underlying e with
 |some (.slice _)=>true
 |_=>false
def cOp(m:Bool)(ty:TypeId)(op:Op):Option ROp:=
 match op with
 |.move x=>some (.mv (cx P G ty x))
 |.assign x=>some (.mv (cx P G ty x))
 |.pick c x y=>some (.pk (cx0 G c) (cx P G ty x) (cx P G ty y))
 |.alloc e=>match Jj P e with
  |some cs=>match VQ P e with
   |some (j,T)=>if m=true then some (.nw cs e) else if cs[j]? matches some (.slice .nil _ []) then some (.nwb cs e j T) else some (.nw cs e)
   |none=>some (.nw cs e)
  |none=>none
 |.box e x=>some (.bx e (cx P G e x))
 |.build t ps=>match Jj P t,I7 P t,P.underlying t with
  |some z,some pl,some (.struct fields)=>some (.bd z pl.toList (ps.toList.map fun p=>(p.1,match fields[p.1]? with | some f=>cx P G f.type p.2 | none=>cx0 G p.2)))
  |some z,none,some (.array _ e)=>match fM P e with
   |some sz=>some (.ba sz z (ps.toList.map fun p=>(p.1,cx P G e p.2)))
   |none=>none
  |_,_,_=>none
 |.buildSlice t l ps=>match P.underlying t with
  |some (.slice e)=>match fM P e,yy P e with
   |some sz,some z=>if l*sz≤16777216∧z.length=sz then some (if (m&&TR P e)=true then .bm e sz z l (ps.toList.map fun p=>(p.1,cx P G e p.2)) else .bs sz z l (ps.toList.map fun p=>(p.1,cx P G e p.2))) else none
   |_,_=>none
  |_=>none
 |.load t x=>match Mo P t with
  |some g=>some (.ld g (cx0 G x))
  |none=>none
 |.store t x v=>match fM P t with
  |some n=>some (.st n (cx0 G x) (cx P G t v))
  |none=>none
 |.nilCheck x=>some (.nc (cx0 G x))
 |.binOp op t x y _=>match op with
  |.shl | .shr=>some (.sh op (cx0 G x) (cx0 G y))
  |.andNot=>some (.an (cx0 G x) (cx0 G y))
  |_=>match P.underlying t with
   |some (.int _) | some .string=>some (.ar op (cx0 G x) (cx0 G y))
   |_=>match op with
    |.eql=>some (.eq false (cek P t (jS x||jS y)) (cx0 G x) (cx0 G y))
    |.neq=>some (.eq true (cek P t (jS x||jS y)) (cx0 G x) (cx0 G y))
    |_=>none
 |.unOp op _ x=>some (.un op (cx0 G x))
 |.convert s d x=>match P.underlying s,P.underlying d with
  |some (.slice e),some .string=>match P.underlying e with
   |some (.int .u8)=>some (.cvbs (cx0 G x))
   |some (.int .i32)=>some (.cvrs (cx0 G x))
   |_=>none
  |some .string,some (.slice e)=>match P.underlying e with
   |some (.int .u8)=>some (.cvsb (cx0 G x))
   |some (.int .i32)=>some (.cvsr (cx0 G x))
   |_=>none
  |some (.slice _),_=>none
  |some _,some (.int k)=>some (.cvi k (cx0 G x))
  |some _,some .string=>some (.cvs (cx0 G x))
  |some (.pointer t),some .unsafePointer=>match P.info? t with
   |some j=>if j.size=0 then none else some (.cvu (cx0 G x))
   |none=>none
  |some .unsafePointer,some (.pointer u)=>match P.info? u with
   |some j=>if j.size=0∨P.cellsOf u=0 then none else (match firsts P u with
    |[]=>some (.cvf u (P.cellsOf u) (cx0 G x))
    |us=>some (.cvg u us (P.cellsOf u) (cx0 G x)))
   |none=>none
  |_,_=>none
 |.makeInterface t x=>match P.underlying t with
  |some (.interface _)=>none
  |some _=>some (.mi t (cx P G t x))
  |none=>none
 |.makeFunc f x y=>some (.mf f (x.toList.map (cx0 G)) (y.toList.map (cx0 G)))
 |.slice t x l h m=>if m.isNone=true∨h.isSome=true then
   match P.underlying t with
   |some .string=>if m.isNone=true then some (.sls (cx0 G x) (l.map (cx0 G)) (h.map (cx0 G))) else none
   |some (.slice e)=>match fM P e with
    |some sz=>some (.sll sz (cx P G t x) (l.map (cx0 G)) (h.map (cx0 G)) (m.map (cx0 G)))
    |none=>none
   |some (.array n e)=>if m.isNone=true then (match fM P e with
    |some sz=>some (.sla n sz (cx0 G x) (l.map (cx0 G)) (h.map (cx0 G)))
    |none=>none) else none
   |_=>none
  else none
 |.fieldAddr s x f=>match CY P s f with
  |some (t,o)=>match fM P t with
   |some (_+1)=>some (.fa o (cx0 G x))
   |_=>none
  |none=>none
 |.field s x f=>match CY P s f with
  |some (t,o)=>match Mo P t with
   |some g=>some (.fd g o (cx0 G x))
   |none=>none
  |none=>none
 |.indexAddr t x i=>match P.underlying t with
  |some (.slice e)=>match fM P e with
   |some sz=>some (.ias sz (cx0 G x) (cx0 G i))
   |none=>none
  |some (.array n e)=>match fM P e with
   |some sz=>some (.iaa n sz (cx0 G x) (cx0 G i))
   |none=>none
  |_=>none
 |.index t x i=>match P.underlying t with
  |some .string=>some (.ixs (cx0 G x) (cx0 G i))
  |some (.array n e)=>match fM P e,Mo P e with
   |some sz,some g=>some (.ixa n g sz (cx0 G x) (cx0 G i))
   |_,_=>none
  |_=>none
 |.extract x i=>some (.ex (cx0 G x) i)
 |.typeAssert x _ T ok=>match P.underlying T with
  |some (.interface _)=>none
  |some _=>some (.ta T (match P.info? T with | some i=>i.zero.map ji | none=>none) ok (cx0 G x))
  |none=>none
 |.makeMap _ none=>some .mm
 |.makeSlice t l c=>match P.underlying t with
  |some (.slice e)=>match P.info? e,yy P e with
   |some i,some cs=>if cs.length=i.size then some (.ms e i.bytes cs (cx0 G l) (cx0 G c)) else none
   |_,_=>none
  |_=>none
 |.insert t m k v=>match P.underlying t with
  |some (.map kt et)=>some (.mu (ckk P kt) (cx0 G m) (cx0 G k) (cx P G et v))
  |_=>none
 |.mapUpdate t m k v=>match P.underlying t with
  |some (.map kt et)=>some (.mu (ckk P kt) (cx0 G m) (cx0 G k) (cx P G et v))
  |_=>none
 |.lookup t x k ok=>match P.underlying t with
  |some (.map kt et)=>some (.lk (ckk P kt) (match P.info? et with | some i=>i.zero.map ji | none=>none) ok (cx0 G x) (cx0 G k))
  |_=>none
 |.range t x=>match P.underlying t with
  |some .string=>some (.rg (cx0 G x))
  |_=>none
 |.next x true=>some (.nx (cx0 G x))
 |.call c=>match c.callee with
  |.builtin b=>match b,c.argTypes.toList,c.args.toList with
   |.len,[t],[x]=>match P.underlying t with
    |some .string=>some (.len .str (cx0 G x))
    |some (.slice _)=>some (.len .sl (cx P G t x))
    |some (.array n _)=>some (.mv (.c (.int .i64 n)))
    |some (.map _ _)=>some (.len .mp (cx0 G x))
    |_=>none
   |.cap,[t],[x]=>match P.underlying t with
    |some (.slice _)=>some (.cap (cx P G t x))
    |some (.array n _)=>some (.mv (.c (.int .i64 n)))
    |_=>none
   |.append,[t,u],[s,x]=>match P.underlying t with
    |some (.slice e)=>match P.info? e with
     |some i=>match i.zero,P.underlying u with
      |some z,some (.slice _)=>if z.cells.size=i.size then some (.ap m e i.size i.bytes false (cx P G t s) (cx P G u x)) else none
      |some z,some .string=>if z.cells.size=i.size then some (.ap m e i.size i.bytes true (cx P G t s) (cx P G u x)) else none
      |some z,some (.int _)=>match dD (ji z) with
       |some cs=>if cs.length=i.size∧cs.all AV.cell=true then some (.apz e i.size i.bytes cs (cx P G t s) (cx0 G x)) else none
       |none=>none
      |_,_=>none
     |none=>none
    |_=>none
   |.clear,[t],[x]=>match P.underlying t with
    |some (.slice e)=>match P.info? e with
     |some i=>match i.zero with
      |some z=>match dD (ji z) with
       |some cs=>if cs.length=i.size∧cs.all AV.cell=true then some (.cl i.size cs (cx P G t x)) else none
       |none=>none
      |none=>none
     |none=>none
    |_=>none
   |.copy,[t,u],[d,s]=>match P.underlying t with
    |some (.slice e)=>match fM P e,P.underlying u with
     |some sz,some (.slice _)=>some (.cp sz false (cx P G t d) (cx P G u s))
     |some sz,some .string=>some (.cp sz true (cx P G t d) (cx P G u s))
     |_,_=>none
    |_=>none
   |.unsafeSliceData,[t],[x]=>match P.underlying t,P.underlying ty with
    |some (.slice _),some (.pointer _)=>some (.usl (cx0 G x))
    |_,_=>none
   |.unsafeString,[t,_],[x,n]=>match P.underlying t with
    |some (.pointer e)=>if P.cellsOf e=1 then some (.ust e (cx0 G x) (cx0 G n)) else none
    |_=>none
   |.max,_,[x,y]=>some (.mx (cx0 G x) (cx0 G y))
   |.min,_,[x,y]=>some (.mn (cx0 G x) (cx0 G y))
   |_,_,_=>none
  |_=>none
 |_=>none
end
section
variable{P:Program}{G:Nat→Option (List AV)}{K:ak}{N:Fr}{a:Env}{H:List AObj}{act:Act}{w:World}
def Le(v v':AV):Prop:=∀ (K:ak) (x:Value),V K v x→V K v' x
theorem KB(t:TypeId)(v:AV):Le v (Nw P t v):=by
 intro K x h;unfold Nw;split
 ·split
  ·cases h with
   |sliceAny _ _ _ _ e=>simp at e
   |slice0 _ _ a ht=>exact .slice0 _ _ a ht
   |slice _ _ _ b o cap vs hl hi hv hc ht=>exact (ht:False).elim
  ·exact h
 ·exact h
theorem ve:∀ (ts:List TypeId) (cs:List AV),(pg P ts cs).length=cs.length
 |[],[]=>rfl
 |_::_,[]=>rfl
 |[],v::l=>by simp [pg,ve [] l]
 |t::ts,v::l=>by simp [pg,ve ts l]
theorem Br:∀ (ts:List TypeId) (cs:List AV) (i:Nat) (v:AV),(pg P ts cs)[i]?=some v→∃ u,cs[i]?=some u∧Le u v
 |[],[],_,_,h=>by simp [pg] at h
 |_::_,[],_,_,h=>by simp [pg] at h
 |[],u::l,0,v,h=>by simp [pg] at h;subst h;exact ⟨u,rfl,fun _ _ h=>h⟩
 |t::ts,u::l,0,v,h=>by simp [pg] at h;subst h;exact ⟨u,rfl,KB t u⟩
 |[],u::l,i+1,v,h=>by
  simp only [pg,List.getElem?_cons_succ] at h ⊢;exact Br [] l i v h
 |t::ts,u::l,i+1,v,h=>by
  simp only [pg,List.getElem?_cons_succ] at h ⊢;exact Br ts l i v h
structure LeL (xs ys:List AV):Prop where
 len:xs.length=ys.length
 at_:∀ (i:Nat) (y:AV),ys[i]?=some y→∃ x,xs[i]?=some x∧Le x y
theorem LeL.vs{xs ys:List AV}(h:LeL xs ys){vs:Array Value}(hv:Vs K xs vs):Vs K ys vs:=
 ⟨by rw [← h.len];exact hv.size,fun i av hi=>by
  obtain ⟨x,h1,h2⟩:=h.at_ i av hi;exact h2 _ _ (hv.at_ i x h1)⟩
theorem Oo(ts:List TypeId)(cs:List AV):LeL cs (pg P ts cs):=⟨(ve ts cs).symm,fun i v h=>Br ts cs i v h⟩
theorem xn{t:TypeId}{cs:List AV}(h:Jj P t=some cs):∃ cs0,yy P t=some cs0∧LeL cs0 cs:=by
 unfold Jj at h;rw [Option.map_eq_some_iff] at h;obtain ⟨cs0,h1,rfl⟩:=h;exact ⟨cs0,h1,Oo _ _⟩
theorem KC(x:Operand):rx a (cx0 G x)=db G a x:=by
 cases x<;>rfl
theorem jX(hg:K.glob=G)(hr:Rel N K a H act w)(x:Operand):V K (rx a (cx0 G x)) (act.eval x):=by
 rw [KC];exact hr.eval hg x
theorem KD(hg:K.glob=G)(hr:Rel N K a H act w)(t:TypeId)(x:Operand):V K (rx a (cx P G t x)) (act.eval x):=by
 have h:=jX hg hr x;unfold cx;split
 ·rename_i v hv
  rw [hv] at h;exact KB t v K _ h
 ·exact h
theorem Jl(hg:K.glob=G)(hr:Rel N K a H act w)(x:Option Operand):OV K ((x.map (cx0 G)).map (rx a)) (x.map act.eval):=by
 cases x with
 |none=>exact .none
 |some x=>exact .some _ _ (jX hg hr x)
theorem PN(hg:K.glob=G)(hr:Rel N K a H act w)(xs:Array Operand):Vs K ((xs.toList.map (cx0 G)).map (rx a)) (xs.map act.eval):=
 ⟨by simp,fun i av hi=>by
  rw [List.map_map,List.getElem?_map,Option.map_eq_some_iff] at hi;obtain ⟨x,h1,rfl⟩:=hi;have h2:xs[i]?=some x:=by simpa using h1
  rw [mj (v:=act.eval x) (by simp [h2])];exact jX hg hr x⟩
theorem cagg_load{t:TypeId}{g:Option Nat}(h:Mo P t=some g)(cs:List AV)(o:Nat):zh P t cs o=bJ g cs o:=by
 unfold Mo at h;unfold zh bJ;split at h
 ·rename_i n h1 h2;cases h;rw [h1,h2]
 ·rename_i n h1 h2;cases h;rw [h1,h2]
 ·cases h
theorem zD{t:TypeId}{g:Option Nat}(h:Mo P t=some g)(x:AV):uS P H t x=nj g H x:=by
 have e:(fun cs o=>zh P t cs o)=bJ g:=by funext cs o;exact cagg_load h cs o
 unfold uS nj;rw [← e];rfl
theorem vf{t:TypeId}{x y:AV}{b:Bool}(h:xm (cck P t) x y=some b):s7 P t x y=some b:=by
 unfold xm cck at h;unfold s7;split at h<;>rename_i hc<;>(try (cases h;done))<;>split at hc<;>(try (cases hc;done))<;>rename_i hu<;>rw [hu]<;>exact h
theorem sa {xs ys:List AV}:∀ (fs:List Field) (b:Bool),tC xs ys (fs.map fun f=>(f.offset,if f.name = "_" then .bad else cck P f.type))=some b→nf P xs ys fs=some b
 |[],_,h=>h
 |f::fs,b,h=>by
  simp only [List.map_cons,tC] at h;unfold nf
  by_cases hn:f.name = "_"
  ·rw [if_pos hn] at h
   split at h
   ·simp [xm] at h
   ·cases h
  ·rw [if_neg hn] at h ⊢
   split at h
   ·rename_i x y hx hy
    rw [hx,hy];split at h
    ·rename_i he
     simp only [vf he];exact sa fs b h
    ·rename_i he
     simp only [vf he];exact h
    ·cases h
   ·cases h
theorem Oq{t:TypeId}{c:Bool}{x y:AV}{b:Bool}(h:req (cek P t c) x y=some b):zt P t c x y=some b∨((∀ b',zt P t c x y≠some b')∧aeq P t x y=some b∧(∀ k m k' n,¬ (x = .int k m∧y = .int k' n))∧∀ s u,¬ (x = .str s∧y = .str u)):=by
 unfold cek at h;split at h
 ·rename_i hu
  simp only [zt,hu];unfold req at h;split at h<;>rename_i hc<;>(try (cases hc;done))<;>(try (cases h;done))
  refine .inr ⟨by simp,by simp only [aeq,hu];exact h,by simp,by simp⟩
 ·rename_i e hu
  simp only [zt,hu];split at h
  ·rename_i n hsz
   unfold req at h;split at h<;>rename_i hc<;>(try (cases hc;done))<;>(try (cases h;done))<;>refine .inr ⟨by simp,by simp only [aeq,hu,hsz];exact h,by simp,by simp⟩
  ·unfold req at h
   split at h<;>rename_i hc<;>(try (cases hc;done))<;>cases h
 ·rename_i hu
  simp only [zt,hu];unfold req at h;split at h<;>rename_i hc<;>(try (cases hc;done))<;>(try (cases h;done))<;>refine .inr ⟨by simp,by simp only [aeq,hu];exact h,by simp,by simp⟩
 ·rename_i hu
  simp only [zt,hu];unfold req at h;split at h<;>rename_i hc<;>(try (cases hc;done))<;>(try (cases h;done))<;>first | exact .inl h | (cases hc;exact .inl h)
 ·rename_i fields hu
  simp only [zt,hu];split at h
  ·rename_i hg
   unfold req at h;split at h<;>rename_i hc<;>(try (cases hc;done))<;>(try (cases h;done))
   cases hc;refine .inr ⟨by simp, ?_,by simp,by simp⟩;simp only [aeq,hu];rw [if_pos hg];exact sa _ _ h
  ·unfold req at h
   split at h<;>rename_i hc<;>(try (cases hc;done))<;>cases h
 ·rename_i hu
  simp only [zt,hu];have h:DN x y=some b:=h;obtain ⟨z1,z2⟩:=Oi h;exact .inr ⟨by simp,by simp only [aeq,hu];exact h,z1,z2⟩
 ·unfold req at h
  split at h<;>rename_i hc<;>(try (cases hc;done))<;>cases h
end
section
variable{P:Program}{K:ak}{H:List AObj}{w:World}
theorem Ii(b:ByteArray):∀ (n i:Nat) (acc:Array Value),Conv.runesFrom b n i acc=acc++((Bn b n i).map (Value.int .i32)).toArray
 |0,_,acc=>by simp [Conv.runesFrom,Bn]
 |n+1,i,acc=>by
  unfold Conv.runesFrom Bn;split
  ·rcases Utf8.decode b i with ⟨r,wd⟩
   simp only;rw [Ii b n];simp
  ·simp
theorem Bf(b:ByteArray):∀ (n i:Nat),(Bn b n i).length≤n
 |0,_=>Nat.le_refl _
 |n+1,i=>by
  have:=Bf b n (i+(Utf8.decode b i).2);unfold Bn;split
  ·simp;omega
  ·simp
theorem FB(s:List UInt8):(gT s).length≤s.length:=Bf _ _ _
theorem KE(hi:Inv K H w){src dst e:TypeId}{x v:AV}{cx:Value}(hs:P.underlying src=some .string)(hd:P.underlying dst=some (.slice e))(he:P.underlying e=some (.int .i32))(hx:V K x cx)(h:Nu x=some v) :
  ∃ K' cv w',K.le K'∧(convert src dst cx).run P w = .ok cv w'∧V K' v cv∧Inv K' H w':=by
 unfold Nu at h;split at h
 ·rename_i s
  split at h
  ·rename_i hle
   cases h;cases hx
   have hrs:Conv.runesFrom ⟨s.toArray⟩ (ByteArray.mk s.toArray).size 0 #[]=((gT s).map (Value.int .i32)).toArray:=by
    rw [Ii];simp [gT,ByteArray.size]
   have hsz:(Conv.runesFrom ⟨s.toArray⟩ (ByteArray.mk s.toArray).size 0 #[]).size=(gT s).length:=by rw [hrs];simp
   have hrun:=run_runes_of_string (P:=P) w src dst e ⟨s.toArray⟩ hs hd he (by rw [hsz];have:=FB s;omega);rw [hsz,hrs] at hrun;generalize hcap:grownCap w (gT s).length 0 e=cap at hrun;have hge:(gT s).length≤cap:=by rw [← hcap];exact o9 _ _ _ _
   have hal:=hi.drew.allocImm (((gT s).map (Value.int .i32)).toArray++Array.replicate (cap-(gT s).length) (.int .i32 0)) e;refine ⟨_,_,_,K.le_ext _ _ hi.drew.new (fun o v h=>by rw [hi.drew.imm_new o] at h;cases h),hrun, ?_,hal⟩
   have hrow:∀ (i:Nat) (c:Int),(gT s)[i]?=some c→(((gT s).map (Value.int .i32)).toArray++Array.replicate (cap-(gT s).length) (.int .i32 0))[i]?=some (.int .i32 c):=fun i c hc=>by
    have hil:=(List.getElem?_eq_some_iff.1 hc).1;have hci:(gT s)[i]=c:=(List.getElem?_eq_some_iff.1 hc).2;simp [Array.getElem?_append,hil,hci]
   have:=V.slice (K:=K.ext w.drew.heap.size ((((gT s).map (Value.int .i32)).toArray++Array.replicate (cap-(gT s).length) (.int .i32 0))[·]?)) .any 1 ((gT s).map fun n=>[.int .i32 n]) w.heap.size 0 cap (fun i _=>.int .i32 ((gT s).getD i 0)) (fun r hr=>by
     obtain ⟨c,_,rfl⟩:=List.mem_map.1 hr;rfl) (fun i j r av h1 h2=>by
     rw [List.getElem?_map,Option.map_eq_some_iff] at h1;obtain ⟨c,h3,rfl⟩:=h1;cases j with
     |succ j=>simp at h2
     |zero=>
      have e1:(gT s).getD i 0=c:=by simp [List.getD,h3]
      rw [e1];exact ak.ext_some (by simpa using hrow i c h3)) (fun i j r av h1 h2=>by
     rw [List.getElem?_map,Option.map_eq_some_iff] at h1;obtain ⟨c,h3,rfl⟩:=h1;cases j with
     |succ j=>simp at h2
     |zero=>
      simp at h2;subst h2;have e1:(gT s).getD i 0=c:=by simp [List.getD,h3]
      rw [e1];exact .int _ _) (by simpa using hge) trivial
   simpa using this
  ·cases h
 ·cases h
theorem FC(ns:List Int):(ByteArray.mk (runeStr ns).toArray)=runesBytes ns:=by
 have key:∀ (ns:List Int) (r:ByteArray),ns.foldl (fun r n=>r++Utf8.encode n) r=r++ByteArray.mk (runeStr ns).toArray:=by
  intro ns;induction ns with
  |nil=>intro r;apply ByteArray.ext;simp [runeStr]
  |cons n ns ih=>
   intro r;rw [List.foldl_cons,ih];apply ByteArray.ext
   have:((Utf8.encode n).data.toList++runeStr ns).toArray=(Utf8.encode n).data++(runeStr ns).toArray:=Array.ext' (by simp)
   simp [runeStr,Array.append_assoc,this]
 unfold runesBytes;rw [key];apply ByteArray.ext;simp
theorem FD:∀ {rows:List (List AV)}{ns:List Int},Ja rows=some ns→rows=ns.map fun n=>[.int .i32 n]
 |[],ns,h=>by cases h;rfl
 |r::rows,ns,h=>by
  unfold Ja at h;split at h
  ·rename_i e;cases e
  ·rename_i e
   cases e;rw [Option.map_eq_some_iff] at h;obtain ⟨ms,h1,rfl⟩:=h;rw [FD h1];rfl
  ·cases h
theorem KF(hi:Inv K H w){src dst e:TypeId}{x v:AV}{cx:Value}(hs:P.underlying src=some (.slice e))(he:P.underlying e=some (.int .i32))(hd:P.underlying dst=some .string)(hx:V K x cx)(h:Nv x=some v) :
  ∃ cv,(convert src dst cx).run P w = .ok cv w∧V K v cv:=by
 unfold Nv at h;split at h
 ·rename_i tag rows
  rw [Option.map_eq_some_iff] at h;obtain ⟨ns,h1,rfl⟩:=h;have hr:=FD h1
  have nil:∀ (a:Option Addr) (cap:Nat),rows=[]→∃ cv,(convert src dst (.slice a 0 cap)).run P w = .ok cv w∧V K (.str (runeStr ns)) cv:=fun a cap e0=>by
   have hn:ns=[]:=by rw [e0] at hr;cases ns<;>first | rfl | cases hr
   subst hn;cases a with
   |none=>exact ⟨_,run_convert_runes_nil w src dst e 0 cap hs he hd,.str []⟩
   |some a=>
    have:=run_convert_runes (P:=P) w src dst e a 0 cap [] (Nat.le_refl _) hs he hd (fun j hj=>by simp at hj);exact ⟨_,this,by have:=V.str (K:=K) (runeStr []);rw [FC] at this;exact this⟩
  cases hx with
  |slice0 _ _ a _=>exact nil a 0 rfl
  |sliceAny _ _ a cap _=>exact nil a cap rfl
  |slice _ _ _ b o cap vs hl him hv hc ht=>
   subst hr
   have:=run_convert_runes (P:=P) w src dst e ⟨b,o,none⟩ (ns.map fun n=>[AV.int .i32 n]).length cap ns (by simp) hs he hd (fun j hj=>by
    have e1:(ns.map fun n=>[AV.int .i32 n])[j]?=some [.int .i32 ns[j]]:=by simp [hj]
    have g1:=hi.imm _ _ _ (him j 0 _ _ e1 rfl);have g2:=hv j 0 _ _ e1 rfl;rw [Nat.mul_one,Nat.add_zero] at g1;generalize hvs:vs j 0=x at g1 g2;cases g2
    by_cases hj0:j=0
    ·subst hj0;simpa [Addr.add,List.getD,hj] using g1
    ·simpa [Addr.add,List.getD,hj,hj0] using g1)
   refine ⟨_,this, ?_⟩;have h3:=V.str (K:=K) (runeStr ns);rw [FC] at h3;simpa using h3
 ·cases h
theorem Eh{t e:TypeId}{n sz:Nat}{z:List AV}{parts:List (Nat×AV)}{cparts:Array (Nat×Value)}{cs:List AV}(hu:P.underlying t=some (.array n e))(hsz:fM P e=some sz)(hz:yy P t=some z)(hl:parts.length=cparts.size)
  (hp:∀ (j i:Nat) (av:AV),parts[j]?=some (i,av)→∃ v,cparts[j]?=some (i,v)∧V K av v) (h:jd (fun i=>some (i*sz,sz)) z parts=some cs) :
  ∃ cv,(Instr.build t cparts).run P w = .ok cv w∧V K (.agg cs) cv:=by
 obtain ⟨cz,h1,h2,_⟩:=uT (w:=w) hz K
 obtain ⟨vs',h3,h4⟩:=xi (K:=K) _ parts cparts.toList z cs cz.cells h2 (by simpa using hl) (fun j i av hj=>by
  obtain ⟨v,e1,e2⟩:=hp j i av hj;exact ⟨v,by simpa using e1,e2⟩) h
 refine ⟨.agg vs', ?_,.agg _ _ h4.size h4.at_⟩;simp [Instr.build,h1,run_underlying' hu,cZ hsz];rw [h3];rfl
end
section
variable{P:Program}{G:Nat→Option (List AV)}{K:ak}{N:Fr}{a:Env}{H:List AObj}{act:Act}{w:World}
theorem aR{x:Option AV}{v:AV}{H':List AObj}(h:bH H x=some (v,H')):x=some v∧H'=H:=by
 unfold bH at h;split at h
 ·cases h;exact ⟨rfl,rfl⟩
 ·cases h
theorem tL{x:Option (List AObj)}{v:AV}{H':List AObj}(h:Ce x=some (v,H')):x=some H'∧v=gH:=by
 unfold Ce at h;split at h
 ·cases h;exact ⟨rfl,rfl⟩
 ·cases h
theorem Cg(ps:Array (Nat×Operand))(f:Nat×Operand→RX)(hf:∀ p,V K (rx a (f p)) (act.eval p.2))(j i:Nat)(av:AV)
  (h:((ps.toList.map fun p=>(p.1,f p)).map fun p=>(p.1,rx a p.2))[j]?=some (i,av)):∃ v,(ps.map fun (i,x)=>(i,act.eval x))[j]?=some (i,v)∧V K av v:=by
 rw [List.map_map,List.getElem?_map,Option.map_eq_some_iff] at h;obtain ⟨p,h1,h2⟩:=h;cases h2;have h3:ps[j]?=some p:=by simpa using h1
 exact ⟨act.eval p.2,by simp [h3],hf p⟩
theorem Sp{xs ys:List AV}(h:LeL xs ys)(o:Nat)(v:AV):LeL (xs.set o v) (ys.set o v):=by
 refine ⟨by simp [h.len],fun i y hy => ?_⟩;rw [List.getElem?_set] at hy;rw [List.getElem?_set];split at hy
 ·rename_i e
  rw [if_pos e];split at hy
  ·rename_i hl
   rw [if_pos (by rw [h.len];exact hl)];exact ⟨_,rfl,by cases hy;exact fun _ _ h=>h⟩
  ·cases hy
 ·rename_i e
  rw [if_neg e];exact h.at_ i y hy
theorem FE:∀ (l:List AV) {xs ys:List AV} (_:LeL xs ys) (o:Nat),LeL (aU xs o l) (aU ys o l)
 |[],_,_,h,_=>h
 |v::l,_,_,h,o=>by rw [aU,aU];exact FE l (Sp h o v) (o+1)
theorem FF{pl:Nat→Option (Nat×Nat)}:∀ (ps:List (Nat×AV)) {xs ys zs:List AV} (_:LeL xs ys) (_:jd pl ys ps=some zs),∃ us,jd pl xs ps=some us∧LeL us zs
 |[],_,_,_,h,hz=>by cases hz;exact ⟨_,rfl,h⟩
 |(i,v)::ps,xs,ys,zs,h,hz=>by
  rw [jd] at hz ⊢;split at hz
  ·rename_i off size cs h1 h2
   split at hz
   ·rename_i hc
    rw [if_pos (by rw [h.len];exact hc)];exact FF ps (FE cs h off) hz
   ·cases hz
  ·cases hz
theorem PO{xs ys:List AV}(h:LeL xs ys):Le (.agg xs) (.agg ys):=fun K x hx=>by
 obtain ⟨vs,rfl,hvs⟩:=hx.agg_inv;have:=h.vs hvs;exact .agg _ _ this.size this.at_
theorem Un{op:BinOp}{t:TypeId}{x y v:AV}(h1:op≠.shl)(h2:op≠.shr)(h3:op≠.andNot)(h:zk P op t x y=some v):B4 P op t x y=some v:=by
 unfold B4;cases op<;>first | exact absurd rfl h1 | exact absurd rfl h2 | exact absurd rfl h3 | exact h
theorem Ij{op:BinOp}{t:TypeId}{ox oy:Operand}{x y v:AV}(h1:op≠.shl)(h2:op≠.shr)(h3:op≠.andNot)(ht:∀ ms,P.underlying t≠some (.interface ms))(h:rar op x y=some v):pd P op t ox oy x y=some v:=by
 have hn:∀ c,zt P t c x y=none:=fun c=>by
  unfold zt;split<;>first | rfl | (rename_i hu;exact absurd hu (ht _))
 unfold pd;rw [hn]
 have h4:zk P op t x y=some v:=by
  unfold rar at h;unfold zk;split at h
  ·rename_i k m k' n
   simp only;rw [if_neg (by rintro (e | e)<;>contradiction)];exact h
  ·exact h
  ·cases h
 split
 ·rename_i b he;cases he
 ·rename_i b he;cases he
 ·exact Un h1 h2 h3 h4
theorem Nx{op:BinOp}{neg:Bool}(hop:op=if neg then .neq else .eql){t:TypeId}{ox oy:Operand}{x y v:AV}
  (h:(req (cek P t (jS ox||jS oy)) x y).map (fun b=>AV.bool (if neg then !b else b))=some v):pd P op t ox oy x y=some v:=by
 rw [Option.map_eq_some_iff] at h;obtain ⟨b,h1,rfl⟩:=h;unfold pd;rcases Oq h1 with h2 | ⟨h2,h3,h4,h5⟩
 ·rw [h2];subst hop;cases neg<;>rfl
 ·have hn:zt P t (jS ox||jS oy) x y=none:=by
   cases he:zt P t (jS ox||jS oy) x y with
   |none=>rfl
   |some b'=>exact absurd he (h2 b')
  rw [hn]
  have hab:zk P op t x y=some (.bool (if neg then !b else b)):=by
   unfold zk;split
   ·rename_i k m k' n;exact absurd ⟨rfl,rfl⟩ (h4 k m k' n)
   ·rename_i s u;exact absurd ⟨rfl,rfl⟩ (h5 s u)
   ·subst hop;cases neg<;>simp [h3]
  subst hop;cases neg<;>exact hab
theorem Bs{sz:Nat}{xT:TypeId}{x:AV}{str:Bool}{new:List (List AV)}(hu:∃ d,P.underlying xT=some d∧(str=false→∃ e,d = .slice e)∧(str=true→d = .string))(h:yF H sz str x=some new):Md P H sz xT x=some new:=by
 obtain ⟨d,hu,h1,h2⟩:=hu;unfold yF at h;unfold Md;cases str
 ·obtain ⟨e,rfl⟩:=h1 rfl
  rw [hu];split at h<;>rename_i hh<;>first | exact h | (cases h;done) | (cases hh)
 ·obtain rfl:=h2 rfl
  rw [hu];split at h<;>rename_i hh<;>first | exact h | (cases h;done) | (cases hh)
theorem rapp_sound{e sT xT:TypeId}{i:TypeInfo}{z:Value}{str:Bool}{s x v:AV}{H':List AObj}(hs:P.underlying sT=some (.slice e))(hi:P.info? e=some i)(hz:i.zero=some z)(hzs:z.cells.size=i.size)
  (hu:∃ d,P.underlying xT=some d∧(str=false→∃ e,d = .slice e)∧(str=true→d = .string)) (h:zC H e i.size i.bytes str s x=some (v,H')):AJ P H sT xT s x=some (v,H'):=by
 unfold zC at h;unfold AJ;simp only [hs,hi,hz];split at h
 ·rename_i new hn
  rw [Bs hu hn];simp only;split at h
  ·simp only
   split at h
   ·rename_i hc
    rw [if_pos ⟨hc.1,hzs,hc.2.1,hc.2.2.1,hc.2.2.2⟩];exact h
   ·cases h
  ·cases h
 ·cases h
theorem zE{e sT xT:TypeId}{i:TypeInfo}{z:Value}{str:Bool}{s x v:AV}{H':List AObj}(hs:P.underlying sT=some (.slice e))(hi:P.info? e=some i)(hz:i.zero=some z)(hzs:z.cells.size=i.size)
  (hu:∃ d,P.underlying xT=some d∧(str=false→∃ e,d = .slice e)∧(str=true→d = .string)) (h:Cd H e i.size i.bytes str s x=some (v,H')):tH P H sT xT s x=some (v,H'):=by
 unfold Cd at h;unfold tH;simp only [hs,hi,hz];split at h
 ·rename_i new hn
  rw [Bs hu hn];simp only;split at h
  ·rename_i hc
   rw [if_pos ⟨hzs,hc⟩];exact h
  ·cases h
 ·cases h
theorem Ik{m:Bool}{e sT xT:TypeId}{i:TypeInfo}{z:Value}{str:Bool}{s x v:AV}{H':List AObj}(hs:P.underlying sT=some (.slice e))(hi:P.info? e=some i)(hz:i.zero=some z)(hzs:z.cells.size=i.size)
  (hu:∃ d,P.underlying xT=some d∧(str=false→∃ e,d = .slice e)∧(str=true→d = .string)) (h:rap m H e i.size i.bytes str s x=some (v,H')):zx m P H sT xT s x=some (v,H'):=by
 unfold rap at h;unfold zx;split at h
 ·split at h
  ·rename_i hH;simp only [hH];exact rapp_sound hs hi hz hzs hu h
  ·cases h
 ·split<;>first | exact zE hs hi hz hzs hu h | (rename_i n1;exact (n1 _ _ _ _ _ rfl).elim) | (rename_i n1 _;exact (n1 _ _ _ _ _ rfl).elim) | (rename_i n1 _ _;exact (n1 _ _ _ _ _ rfl).elim) | (rename_i n1 _ _ _;exact (n1 _ _ _ _ _ rfl).elim) | (rename_i n1 _ _ _ _;exact (n1 _ _ _ _ _ rfl).elim) | (rename_i n1 _ _ _ _ _;exact (n1 _ _ _ _ _ rfl).elim) | (rename_i n1 _ _ _ _ _ _;exact (n1 _ _ _ _ _ rfl).elim) | (exfalso;simp_all;done)
 ·exact zE hs hi hz hzs hu h
 ·exact zE hs hi hz hzs hu h
 ·split<;>first | exact rapp_sound hs hi hz hzs hu h | (rename_i n1;exact (n1 _ _ _ _ _ rfl).elim) | (rename_i n1 _;exact (n1 _ _ _ _ _ rfl).elim) | (rename_i n1 _ _;exact (n1 _ _ _ _ _ rfl).elim) | (rename_i n1 _ _ _;exact (n1 _ _ _ _ _ rfl).elim) | (rename_i n1 _ _ _ _;exact (n1 _ _ _ _ _ rfl).elim) | (rename_i n1 _ _ _ _ _;exact (n1 _ _ _ _ _ rfl).elim) | (rename_i n1 _ _ _ _ _ _;exact (n1 _ _ _ _ _ rfl).elim) | (exfalso;simp_all;done)
theorem KG{t:TypeId}{c:Bool}{k k':IntKind}{m n:Int}:zt P t c (.int k m) (.int k' n)=none:=by
 unfold zt;split<;>first | rfl | (rename_i e;cases e) | (rename_i e _;cases e)
theorem Ny{r:Result Next}{v v':AV}{H':List AObj}(h:Fs P K r v H')(hl:Le v v'):Fs P K r v' H':=by
 obtain ⟨K',cv,w',h1,h2,h3,h4⟩:=h;exact ⟨K',cv,w',h1,h2,hl _ _ h3,h4⟩
theorem Jm{u T:TypeId}{n:Nat}(hc:P.cellsOf u≠0)(h:Jk P u T=true)(hn:P.cellsOf u≤n):liesAt P P.depth T (n / P.cellsOf T) 0 u 1=true:=by
 unfold Jk at h;split at h
 ·rename_i fs hu
  simp only [Bool.and_eq_true,Bool.not_eq_true',Nat.beq_eq] at h;obtain ⟨⟨h1,h2⟩,h3⟩:=h;split at h3
  ·rename_i f hf
   simp only [Bool.and_eq_true,Nat.beq_eq] at h3;have hcnt:0<n / P.cellsOf T:=by rw [h2];exact Nat.div_pos hn (Nat.pos_of_ne_zero hc)
   have hd:P.depth=((2*(P.types.size+Made.depth))+1)+1:=rfl;rw [hd];simp only [liesAt,Bool.or_eq_true];left;rw [hd]
   have hin:rowAt P (sameLayout P (2*(P.types.size+Made.depth)+1+1) · u) (2*(P.types.size+Made.depth)+1) u 1 0 1=true:=by
    simp [rowAt,hc,sameLayout]
   have hcT:P.cellsOf T≠0:=by rw [h2];exact hc
   rw [rowAt];simp only [hcT,if_false,Nat.zero_div,Nat.zero_mod,hu,h1,Bool.not_false,Bool.true_and,Bool.or_eq_true,Bool.and_eq_true,decide_eq_true_eq];right;refine ⟨hcnt, ?_⟩;rw [Array.any_eq_true];have hlt:=(Array.getElem?_eq_some_iff.1 hf).1;refine ⟨0,hlt, ?_⟩;have hfe:fs[0]=f:=(Array.getElem?_eq_some_iff.1 hf).2;rw [hfe];simp only [h3.1,h3.2,Bool.and_eq_true,decide_eq_true_eq];exact ⟨⟨by omega,by omega⟩,hin⟩
  ·cases h3
 ·cases h
theorem Jn{kt:TypeId}{k:AV}(h:DV (cck P kt) k=true):Fm P kt k=true:=by
 unfold DV cck at h;unfold Fm;split at h<;>rename_i hc<;>(try (cases h;done))<;>split at hc<;>(try (cases hc;done))<;>rename_i hu<;>rw [hu]<;>(try cases hc)<;>first | exact h | rfl
theorem Ot (kt:TypeId):(∃ fs,P.underlying kt=some (.struct fs)∧ckk P kt=if P.stoodInHeld kt=false then .agg (fs.toList.map fun f=>(f.offset,if f.name = "_" then .bad else cck P f.type)) else .bad)∨ckk P kt=cck P kt:=by
 unfold ckk;split
 ·rename_i fs hu;exact .inl ⟨fs,hu,rfl⟩
 ·exact .inr rfl
theorem C4 {xs:List AV}{f:Field} (h:Bp xs (f.offset,if f.name = "_" then .bad else cck P f.type)=true):qJ P xs f=true:=by
 unfold Bp at h;unfold qJ
 by_cases hn:f.name = "_"
 ·rw [if_pos hn] at h
  split at h
  ·simp [xm] at h
  ·cases h
 ·rw [if_neg hn] at h
  split at h
  ·rename_i x hx
   rw [hx];cases hr:xm (cck P f.type) x x with
   |none=>rw [hr] at h;cases h
   |some b=>simp [hn,vf hr]
  ·cases h
theorem rsameS_sound {fs:List Field}{xs ys:List AV}{b:Bool} (h:Ml (fs.map fun f=>(f.offset,if f.name = "_" then .bad else cck P f.type)) xs ys=some b):Fo P fs xs ys=some b:=by
 unfold Ml at h;unfold Fo;cases hr:tC xs ys (fs.map fun f=>(f.offset,if f.name = "_" then .bad else cck P f.type)) with
 |none=>rw [hr] at h;cases h
 |some c=>
  rw [sa fs c hr];rw [hr] at h;exact h
theorem rfindS_sound {fs:List Field}{xs:List AV}:∀ (es:List (AV×AV)) (n:Nat) (r:Option (Nat×AV)),Ji (fs.map fun f=>(f.offset,if f.name = "_" then .bad else cck P f.type)) xs es n=some r→C0 P fs xs es n=some r
 |[],_,_,h=>h
 |e::es,n,r,h=>by
  unfold Ji at h;unfold C0;split at h
  ·rename_i ys he
   rw [he];simp only;split at h
   ·rename_i hs;rw [rsameS_sound hs];exact h
   ·rename_i hs;rw [rsameS_sound hs];exact rfindS_sound es (n+1) r h
   ·cases h
  ·cases h
theorem rfind_sound{kt:TypeId}{k:AV}{es:List (AV×AV)}{r:Option (Nat×AV)}(h:Fy (ckk P kt) k es=some r):Ie P kt k es=some r:=by
 unfold Fy at h;unfold Ie;rcases Ot (P:=P) kt with ⟨fs,hu,e⟩ | e
 ·have hf:Fm P kt k=false:=by unfold Fm;rw [hu]
  rw [e] at h
  by_cases hst:P.stoodInHeld kt=false
  ·rw [if_pos hst] at h
   have hrf:∀ l,DV (.agg l) k=false:=fun l=>by unfold DV;rfl
   rw [hrf] at h;simp only [Bool.false_eq_true,if_false] at h;rw [hf];simp only [Bool.false_eq_true,if_false,hu];split at h
   ·rename_i fs2 xs hag
    injection hag with hag;subst hag;split at h
    ·rename_i hall
     have hall2:fs.toList.all (qJ P xs)=true:=by
      rw [List.all_eq_true] at hall ⊢;exact fun f hf=>C4 (hall _ (List.mem_map.2 ⟨f,hf,rfl⟩))
     simp only;rw [if_pos ⟨hst,hall2⟩];exact rfindS_sound es 0 r h
    ·cases h
   ·cases h
  ·rw [if_neg hst] at h
   have hrf:DV .bad k=false:=by unfold DV;rfl
   rw [hrf] at h;simp at h
 ·rw [e] at h
  split at h
  ·rename_i hf
   rw [if_pos (Jn hf)];exact h
  ·split at h
   ·rename_i hck _
    unfold cck at hck;split at hck<;>cases hck
   ·cases h
theorem Il{t kt et:TypeId}(hu:P.underlying t=some (.map kt et)){m k v:AV}{H':List AObj}(h:rmu H (ckk P kt) m k v=some H'):qL P H t m k v=some H':=by
 unfold rmu at h;unfold qL;rw [hu];split at h
 ·simp only
  split at h
  ·rename_i es hes
   rw [hes];simp only;split at h
   ·rename_i hk;rw [rfind_sound hk];exact h
   ·rename_i hk;rw [rfind_sound hk];exact h
   ·cases h
  ·cases h
 ·cases h
theorem Inv.tok(hi:Inv K H w)(n:Nat)(T:TypeId):Inv (K.push 0) (H++[.tok n T]) w:=by
 have:=(hi.tokNew T).tokUp (t:=H.length) (T:=T) (fr:=0) (fr':=n) (by simp) (Nat.zero_le _);have e1:(H++[AObj.tok 0 T]).set H.length (.tok n T)=H++[.tok n T]:=by simp
 rwa [e1] at this
theorem Mp(hi:Inv K H w){ts:Array TypeId}{ty e:TypeId}(hp:P.underlying ty=some (.pointer e)){x v:AV}{cx:Value}(hx:V K x cx)(h:Om x=some v) :
  ∃ K' cv w',K.le K'∧(Builtin.unsafeSliceData_ ts ty #[cx]).run P w = .ok cv w'∧V K' v cv∧Inv K' H w':=by
 unfold Om at h;split at h
 ·rename_i t rows
  split at h
  case isFalse=>cases h
  rename_i hint;cases h;cases hx with
  |sliceAny _ _ _ _ e=>simp at e
  |slice0 _ _ a ha=>
   have:=(ha.1 t rfl).2;subst this;exact ⟨K,_,w,.refl K,Lib.run_unsafeSliceData_nil w ts ty 0 0,.sdp0 t none,hi⟩
  |slice _ _ _ b o cap vs hl him hv hc ht=>
   obtain ⟨htl,⟨_,hni⟩ | ⟨rfl,hown⟩⟩:=ht
   ·rw [hni] at hint;cases hint
   rw [Nat.mul_one] at hown
   by_cases hcap:cap=0
   ·subst hcap
    have h0:rows=[]:=List.length_eq_zero_iff.1 (by omega);subst h0;obtain ⟨hb,fr,us,T,lo,hh,g1,g2,g3,g4,g5⟩:=hi.own b t _ hown;refine ⟨K,_,_,.refl K,Lib.run_unsafeSliceData_zero w ts ty e hp ⟨b,0,none⟩ _ (T,us.size) (by simp [World.shape?,g2]),.sdp0 t _,hi.junk _⟩
   ·exact ⟨K,_,w,.refl K,Lib.run_unsafeSliceData_row w ts ty ⟨b,0,none⟩ rows.length cap hcap,.sdp t rows b cap vs htl hown hl him hv hc,hi⟩
 ·cases h
  cases hx with
  |sliceAny _ _ _ _ e=>simp at e
  |slice0 _ _ a ha=>
   have:=ha.2.1 rfl;subst this;exact ⟨K,_,w,.refl K,Lib.run_unsafeSliceData_nil w ts ty 0 0,.sdp0 0 none,hi⟩
  |slice _ _ _ b o cap vs hl him hv hc ht=>exact (ht:False).elim
 ·cases h
theorem Mq(hi:Inv K H w){pt it ty e:TypeId}(hp:P.underlying pt=some (.pointer e))(hc1:P.cellsOf e=1){x n v:AV}{cx cn:Value}(hx:V K x cx)(hn:V K n cn)(h:Mm H e x n=some v) :
  ∃ K' cv w',K.le K'∧(Builtin.unsafeString_ #[pt,it] ty #[cx,cn]).run P w = .ok cv w'∧V K' v cv∧Inv K' H w':=by
 unfold Mm at h;split at h
 ·rename_i t n
  split at h
  ·rename_i h0
   subst h0;cases h;cases hn
   have key:∃ p,cx = .pointer p:=by
    cases hx with
    |sdp0 _ p=>exact ⟨p,rfl⟩
    |sdp _ _ b cap vs=>exact ⟨_,rfl⟩
   obtain ⟨p,rfl⟩:=key;exact ⟨K,_,w,.refl K,Lib.run_unsafeString_none w pt it ty p,.str [],hi⟩
  ·cases h
 ·rename_i t r rows n
  split at h
  ·rename_i fr T bs ht hbs
   split at h
   ·rename_i hc
    obtain ⟨rfl,rfl,hfr,h63,hby⟩:=hc;cases h;cases hn;cases hx with
    |sdp _ _ b cap vs htl hown hl him hv hcap=>
     obtain ⟨h2,h3⟩:=zu hbs;obtain ⟨hb,fr',us,T',lo,hh,g1,g2,g3,g4,g5⟩:=hi.own b t cap hown;rw [ht] at g1;cases g1;have hne:bs≠[]:=by intro e;rw [e] at h2;simp at h2
     have hrun:=Lib.run_unsafeString_row (P:=P) w pt it ty T hp hc1 b us.size (by simp [World.shape?,g2]) bs hne (by omega) (by omega) (fun j c hj=>by
      have hjl:j<(r::rows).length:=by rw [← h2];exact (List.getElem?_eq_some_iff.1 hj).1
      obtain ⟨m,e1,e2⟩:=h3 j hjl;have hb2:=DT hby j m e1;have g6:=hi.imm _ _ _ (him j 0 _ _ e1 rfl);have g7:=hv j 0 _ _ e1 rfl;rw [Nat.zero_add,Nat.mul_one,Nat.add_zero] at g6;generalize vs j 0=y at g6 g7;cases g7;rw [hj] at e2;cases e2
      have:(⟨b,0,none⟩:Addr).add j=⟨b,j,none⟩:=by rw [fN];simp
      rw [this,g6];congr 2
      have:(UInt8.ofNat m.toNat).toNat=m.toNat:=by
       simp;omega
      rw [this];omega)
     exact ⟨K,_,_,.refl K,hrun,.str bs,hi.freeze hown ht hfr⟩
   ·cases h
  ·cases h
 ·cases h
theorem Im(hg:K.glob=G)(hr:Rel N K a H act w){m:Bool}{o:Oper}{r:ROp}(hc:cOp P G m o.type o.op=some r){v:AV}{H':List AObj}(h:rop a H r=some (v,H')) :
  Fs P K ((execOp act.eval o).run P w) v H':=by
 have hi:=hr.inv;have h0:=fun x=>jX (a:=a) hg hr x
 have h1:=fun t x=>KD (P:=P) (a:=a) hg hr t x
 obtain ⟨dst,op,type,pos,after,guard⟩:=o;simp only at hc;cases op<;>simp only [cOp] at hc<;>try (cases hc;done)
 case move x=>cases hc;cases h;exact ⟨K,_,w,.refl K,.inl rfl,h1 _ x,hi⟩
 case assign x=>cases hc;cases h;exact ⟨K,_,w,.refl K,.inl rfl,h1 _ x,hi⟩
 case pick c x y=>
  cases hc;simp only [rop] at h;split at h
  ·rename_i b hb
   cases h;have hcv:=h0 c;rw [hb] at hcv;refine ⟨K,_,w,.refl K,.inl (by simp [execOp,hcv.bool_inv,asBool];rfl), ?_,hi⟩;cases b
   ·exact h1 _ y
   ·exact h1 _ x
  ·cases h
 case alloc e=>
  split at hc
  ·rename_i cs hcs
   obtain ⟨cs0,e1,e2⟩:=xn hcs;obtain ⟨z,g1,g2,_⟩:=uT (w:=w) e1 K
   have plain:r = .nw cs e→Fs P K ((execOp act.eval ⟨dst,.alloc e,type,pos,after,guard⟩).run P w) v H':=fun hr=>by
    subst hr;cases h;obtain ⟨K',ad,w',h3,h4,h5,h6⟩:=CZ (P:=P) hi e (e2.vs g2);exact dO ⟨K',_,w',h3,by simp [Instr.alloc,g1,h4],h5,h6⟩
   split at hc
   ·rename_i j T hj
    split at hc
    ·cases hc;exact plain rfl
    ·split at hc
     ·rename_i hm
      cases hc;cases h;have hv:=e2.vs g2;have hi1:=hi.tok 0 T;have hle:=K.le_push 0;have hlen:H.length<(K.push 0).loc.length:=by simp [ak.push,ak.pushS,hi.len]
      have hv':Vs (K.push 0) (cs.set j (.slice (.own H.length) 1 [])) z.cells:=by
       refine ⟨by simp [hv.size],fun i av hiv => ?_⟩;rcases gS hiv with ⟨rfl,rfl⟩ | ⟨_,hiv⟩
       ·have:=hv.at_ i _ hm
        generalize z.cells.getD i undef=x at this;cases this with
        |sliceAny _ _ _ _ e=>simp at e
        |slice0 _ _ a ha=>
         have:=ha.2.1 rfl;subst this;exact .slice0 _ _ _ ⟨fun t e=>(by cases e;exact ⟨hlen,rfl⟩),fun e=>(by cases e),fun e=>(by cases e)⟩
        |slice _ _ _ b o cap vs hl hi hv hc ht=>exact (ht:False).elim
       ·exact (hv.at_ i av hiv).mono hle
      obtain ⟨K',ad,w',h3,h4,h5,h6⟩:=CZ (P:=P) hi1 e hv';have e1:(H++[AObj.tok 0 T]).length=H.length+1:=by simp
      have e2:(H++[AObj.tok 0 T])++[AObj.cells (cs.set j (.slice (.own H.length) 1 [])) e]=H++[.tok 0 T,.cells (cs.set j (.slice (.own H.length) 1 [])) e]:=by simp
      rw [e1] at h5;rw [e2] at h6;exact dO ⟨K',_,w',hle.trans h3,by simp [Instr.alloc,g1,h4],h5,h6⟩
     ·cases hc;exact plain rfl
   ·cases hc;exact plain rfl
  ·cases hc
 case box e x=>
  cases hc;simp only [rop] at h;split at h
  ·rename_i cs hcs
   cases h;obtain ⟨K',ad,w',h3,h4,h5,h6⟩:=CZ (P:=P) hi e ((h1 _ x).cells hcs);exact dO ⟨K',_,w',h3,by simp [Instr.box,h4],h5,h6⟩
  ·cases h
 case build t ps=>
  split at hc
  ·rename_i z pl fields hz hpl hu
   cases hc;simp only [rop] at h;have h9:=aR h;clear h;obtain ⟨h,rfl⟩:=h9;rw [Option.map_eq_some_iff] at h;obtain ⟨cs,hcs,rfl⟩:=h;obtain ⟨z0,e1,e2⟩:=xn hz;obtain ⟨cs0,e3,e4⟩:=FF _ e2 hcs
   have hb:Fh P t ((ps.toList.map fun p=>(p.1,match fields[p.1]? with | some f=>cx P G f.type p.2 | none=>cx0 G p.2)).map fun p=>(p.1,rx a p.2))=some (.agg cs0):=by
    unfold Fh;rw [e1,hpl];simp only
    have:(fun i:Nat=>pl[i]?)=(fun i=>pl.toList[i]?):=by funext i;simp
    rw [this];exact congrArg (Option.map AV.agg) e3
   refine Ny (eo hi (I8 (by simp) (Cg ps _ fun p => ?_) hb)) (PO e4);split
   ·exact h1 _ _
   ·exact h0 _
  ·rename_i z n e hz hpl hu
   split at hc
   ·rename_i sz hsz
    cases hc;simp only [rop] at h;have h9:=aR h;clear h;obtain ⟨h,rfl⟩:=h9;rw [Option.map_eq_some_iff] at h;obtain ⟨cs,hcs,rfl⟩:=h;obtain ⟨z0,e1,e2⟩:=xn hz;obtain ⟨cs0,e3,e4⟩:=FF _ e2 hcs;exact Ny (eo hi (Eh hu hsz e1 (by simp) (Cg ps _ fun p=>h1 _ _) e3)) (PO e4)
   ·cases hc
  ·cases hc
 case buildSlice t l ps=>
  split at hc
  ·rename_i e hu
   split at hc
   ·rename_i sz z hsz hz
    split at hc
    ·rename_i hcond
     cases hmm:(m&&TR P e) with
     |true=>
      rw [hmm] at hc;simp only [if_true,Option.some.injEq] at hc;cases hc;simp only [rop,rbm] at h;split at h
      ·rename_i cs hcs
       cases h;obtain ⟨vs',hrun,h6,hcl⟩:=zq (K:=K) (w:=w) hu hsz hz hcond.1 hcond.2 (cparts:=ps.map fun p=>(p.1,act.eval p.2)) (by simp) (Cg ps _ fun p=>h1 _ _) hcs;have hal:=hi.allocCells cs vs' e h6;have hsz':vs'.size=l*sz:=by rw [← h6.size];exact hcl
       refine dO ⟨_,_,_,K.le_pushS _ _ hi.shape_base,hrun, ?_,hal⟩;refine .rslice _ 0 l sz true w.heap.size l (by simp [ak.pushS,hi.len]) (Nat.le_refl _) fun _=>⟨vs'.size,by simp [ak.pushS],by rw [hsz'];omega⟩
      ·cases h
     |false=>
      rw [hmm] at hc;simp only [Bool.false_eq_true,if_false,Option.some.injEq] at hc;cases hc;simp only [rop] at h;have h9:=aR h;clear h;obtain ⟨h,rfl⟩:=h9;refine dO (B1 hi (parts:=(ps.toList.map fun p=>(p.1,cx P G e p.2)).map fun p=>(p.1,rx a p.2)) (by simp) (Cg ps _ fun p=>h1 _ _) ?_);unfold uU;simp only [hu,hsz,hz];rw [if_pos hcond];exact h
    ·cases hc
   ·cases hc
  ·cases hc
 case load t x=>
  split at hc
  ·rename_i g hgt
   cases hc;have h9:=aR h;clear h;obtain ⟨h,rfl⟩:=h9;rw [← zD hgt] at h;exact eo hi (BY hi (h0 x) h)
  ·cases hc
 case store t x y=>
  split at hc
  ·rename_i n hn
   cases hc;have h9:=tL h;clear h;obtain ⟨h,rfl⟩:=h9
   have h2:zi P H t (rx a (cx0 G x)) (rx a (cx P G t y))=some H':=by
    unfold C3 at h;unfold zi;rw [hn];split at h
    ·rename_i e5 e6;rw [e5,e6];exact h
    ·cases h
   obtain ⟨w',h3,h4⟩:=Hu (P:=P) hi (h0 x) (h1 _ y) h2;exact ⟨K,undef,w',.refl K,.inr ⟨by simp [execOp,h3],rfl⟩,AL,h4⟩
  ·cases hc
 case nilCheck x=>
  cases hc;have hx:=h0 x
  have key:∀ cv,act.eval x=cv→(cv.nilOk=true)→(execOp act.eval ⟨dst,.nilCheck x,type,pos,after,guard⟩).run P w = .ok (.value cv) w:=by
   intro cv he hn;unfold execOp;simp only [he];cases cv<;>try (cases hn;done)
   case pointer ad=>cases ad<;>first | (cases hn;done) | rfl
   case func f u v=>cases f<;>first | (cases hn;done) | rfl
  simp only [rop] at h;split at h
  ·rename_i i o he
   cases h;rw [he] at hx;generalize hcv:act.eval x=c at hx;cases hx with
   |ptr _ _ b hb=>exact ⟨K,_,w,.refl K,.inl (key _ hcv rfl),.ptr _ _ _ hb,hi⟩
  ·rename_i i1 i2 i3 i4 he
   cases h;rw [he] at hx;generalize hcv:act.eval x=c at hx;cases hx with
   |vptr _ _ _ _ b o vs h1 h2 h3=>exact ⟨K,_,w,.refl K,.inl (key _ hcv rfl),.vptr _ _ _ _ _ _ _ h1 h2 h3,hi⟩
  ·rename_i f u v he
   cases h;rw [he] at hx;generalize hcv:act.eval x=c at hx;obtain ⟨vs,us,rfl,h1,h2⟩:=hx.fn_inv;exact ⟨K,_,w,.refl K,.inl (key _ hcv rfl),Vs.fn h1 h2,hi⟩
  ·cases h
 case binOp op t x y u=>
  have fin:∀ v,pd P op t x y (rx a (cx0 G x)) (rx a (cx0 G y))=some v→Fs P K ((execOp act.eval ⟨dst,.binOp op t x y u,type,pos,after,guard⟩).run P w) v H:=fun v h=>eo hi (Hx (h0 x) (h0 y) h)
  have sh:∀ v,op = .shl∨op = .shr→rsh op (rx a (cx0 G x)) (rx a (cx0 G y))=some v→pd P op t x y (rx a (cx0 G x)) (rx a (cx0 G y))=some v:=fun v ho h=>by
   unfold rsh at h;split at h
   ·rename_i k m k' n e1 e2
    unfold pd;rw [e1,e2,KG];rcases ho with rfl | rfl<;>exact h
   ·cases h
  split at hc
  ·cases hc;have h9:=aR h;clear h;obtain ⟨h,rfl⟩:=h9;exact fin v (sh v (.inl rfl) h)
  ·cases hc;have h9:=aR h;clear h;obtain ⟨h,rfl⟩:=h9;exact fin v (sh v (.inr rfl) h)
  ·cases hc;have h9:=aR h;clear h;obtain ⟨h,rfl⟩:=h9
   refine fin v ?_;unfold ran at h;split at h
   ·rename_i k m k' n e1 e2
    unfold pd;rw [e1,e2,KG];exact h
   ·cases h
  ·rename_i n1 n2 n3
   split at hc
   ·rename_i k hu
    cases hc;have h9:=aR h;clear h;obtain ⟨h,rfl⟩:=h9;exact fin v (Ij n1 n2 n3 (fun ms e=>by rw [hu] at e;cases e) h)
   ·rename_i hu
    cases hc;have h9:=aR h;clear h;obtain ⟨h,rfl⟩:=h9;exact fin v (Ij n1 n2 n3 (fun ms e=>by rw [hu] at e;cases e) h)
   ·split at hc
    ·cases hc;have h9:=aR h;clear h;obtain ⟨h,rfl⟩:=h9
     exact fin v (Nx (neg:=false) rfl h)
    ·cases hc;have h9:=aR h;clear h;obtain ⟨h,rfl⟩:=h9
     exact fin v (Nx (neg:=true) rfl h)
    ·cases hc
 case unOp op t x=>
  cases hc;have h9:=aR h;clear h;obtain ⟨h,rfl⟩:=h9;exact eo hi (Km (h0 x) h)
 case convert s d x=>
  have fin:∀ v,nh P H s d (rx a (cx0 G x))=some v→Fs P K ((execOp act.eval ⟨dst,.convert s d x,type,pos,after,guard⟩).run P w) v H:=fun v h=>dO (Eg hi (h0 x) h)
  split at hc
  ·rename_i e hs hd
   split at hc
   ·rename_i he
    cases hc;have h9:=aR h;clear h;obtain ⟨h,rfl⟩:=h9;refine fin v ?_;unfold nh;rw [hs,hd];simp only [Fl];rw [he];unfold KA at h;split at h<;>rename_i hx<;>first | (cases h;done) | (rw [hx];exact h) | exact h
   ·rename_i he
    cases hc;have h9:=aR h;clear h;obtain ⟨h,rfl⟩:=h9;exact eo hi (KF hi hs he hd (h0 x) h)
   ·cases hc
  ·rename_i e hs hd
   split at hc
   ·rename_i he
    cases hc;have h9:=aR h;clear h;obtain ⟨h,rfl⟩:=h9;refine fin v ?_;unfold PI at h;split at h
    ·rename_i s' hx
     unfold nh;rw [hs,hd,hx];simp only;rw [he];exact h
    ·cases h
   ·rename_i he
    cases hc;have h9:=aR h;clear h;obtain ⟨h,rfl⟩:=h9;exact dO (KE hi hs hd he (h0 x) h)
   ·cases hc
  ·cases hc
  ·rename_i ds k n1 hs hd
   have hns:∀ e,ds≠.slice e:=fun e he=>n1 e (by rw [he])
   cases hc;have h9:=aR h;clear h;obtain ⟨h,rfl⟩:=h9;refine fin v ?_;unfold Uk at h;split at h
   ·rename_i k' n hx
    unfold nh vS;rw [hx,hs,hd];cases ds<;>first | exact h | exact absurd rfl (hns _)
   ·cases h
  ·rename_i ds n1 hs hd
   have hns:∀ e,ds≠.slice e:=fun e he=>n1 e he
   cases hc;have h9:=aR h;clear h;obtain ⟨h,rfl⟩:=h9;refine fin v ?_;unfold Ul at h;split at h
   ·rename_i k' n hx
    unfold nh vS;rw [hx,hs,hd];cases ds<;>first | exact h | exact absurd rfl (hns _)
   ·rename_i k' hx
    unfold nh vS;rw [hx,hs,hd];cases ds<;>first | exact h | exact absurd rfl (hns _)
   ·cases h
  ·rename_i t hs hd
   split at hc
   ·rename_i j hj
    split at hc
    ·cases hc
    ·rename_i hsz
     cases hc;have h9:=aR h;clear h;obtain ⟨h,rfl⟩:=h9;unfold PK at h;split at h
     ·rename_i id off he
      split at h
      ·rename_i cs T hob
       split at h
       ·rename_i hlt
        cases h;have hx:=h0 x;rw [he] at hx;obtain ⟨b,vs,T2,g1,g2,g3,g4,g5⟩:=hi.obj id _ hob;generalize hcx:act.eval x=cx at hx;cases hx with
        |ptr _ _ b' hb=>
         rw [g1] at hb;cases hb;refine dO ⟨K,_,w,.refl K, ?_,.ptr _ _ _ g1,hi⟩;rw [hcx];exact Lib.run_to_unsafe (P:=P) w ⟨b,off,none⟩ hs hd hj hsz (by simp [World.shape?,g3];exact ⟨rfl,rfl⟩) (by simp;omega)
       ·cases h
      ·cases h
     ·cases h
   ·cases hc
  ·rename_i u hs hd
   split at hc
   ·rename_i j hj
    split at hc
    ·cases hc
    ·rename_i hsz
     split at hc
     ·cases hc;have h9:=aR h;clear h;obtain ⟨h,rfl⟩:=h9
      unfold Um at h;split at h
      ·rename_i id he
       split at h
       ·rename_i cs T hob
        split at h
        ·rename_i hlt
         obtain ⟨rfl,hle⟩:=hlt;cases h;have hx:=h0 x;rw [he] at hx;obtain ⟨b,vs,T2,g1,g2,g3,g4,g5,g6,g7,g8,rfl⟩:=hi.obj id _ hob;generalize hcx:act.eval x=cx at hx;cases hx with
         |ptr _ _ b' hb=>
          rw [g1] at hb;cases hb;have hc0:P.cellsOf T2≠0:=fun e=>hsz (.inr e)
          refine dO ⟨K,_,w,.refl K, ?_,.ptr _ _ _ g1,hi⟩;rw [hcx];exact Lib.run_from_unsafe (P:=P) (e:=T2) (cells:=vs.size) w ⟨b,0,none⟩ hs hd hj (by simp [World.shape?,g3]) (DU hc0 (Nat.div_pos (by omega) (Nat.pos_of_ne_zero hc0)))
        ·cases h
       ·cases h
      ·cases h
     ·rename_i us _
      cases hc;have h9:=aR h;clear h;obtain ⟨h,rfl⟩:=h9;unfold PL at h;split at h
      ·rename_i id he
       split at h
       ·rename_i cs T hob
        split at h
        ·rename_i hlt
         obtain ⟨hT,hle⟩:=hlt;cases h;have hx:=h0 x;rw [he] at hx;obtain ⟨b,vs,T2,g1,g2,g3,g4,g5,g6,g7,g8,rfl⟩:=hi.obj id _ hob;generalize hcx:act.eval x=cx at hx;cases hx with
         |ptr _ _ b' hb=>
          rw [g1] at hb;cases hb;have hc0:P.cellsOf u≠0:=fun e=>hsz (.inr e)
          have hlies:liesAt P P.depth T2 (vs.size / P.cellsOf T2) 0 u 1=true:=by
           rcases Bool.or_eq_true_iff.1 hT with e | e
           ·have e:=Nat.eq_of_beq_eq_true e
            subst e;exact DU hc0 (Nat.div_pos (by omega) (Nat.pos_of_ne_zero hc0))
           ·obtain ⟨T3,hm,e⟩:=List.any_eq_true.1 e
            have e:=Nat.eq_of_beq_eq_true e;subst e;exact Jm hc0 (List.mem_filter.1 hm).2 (by omega)
          refine dO ⟨K,_,w,.refl K, ?_,.ptr _ _ _ g1,hi⟩;rw [hcx];exact Lib.run_from_unsafe (P:=P) (e:=T2) (cells:=vs.size) w ⟨b,0,none⟩ hs hd hj (by simp [World.shape?,g3]) hlies
        ·cases h
       ·cases h
      ·cases h
   ·cases hc
  ·cases hc
 case makeInterface t x=>
  have hx:=h1 t x;split at hc
  ·cases hc
  ·rename_i d hnd hu
   cases hc;cases h
   exact eo hi (zr hx (by
    unfold pb;rw [hu];cases d<;>first | rfl | exact absurd rfl (hnd _)))
  ·cases hc
 case makeFunc f x y=>
  cases hc;cases h;exact eo hi ⟨_,rfl,Vs.fn (PN hg hr x) (PN hg hr y)⟩
 case slice t x l hh mx=>
  split at hc
  ·rename_i hcond
   have hms:((mx.map (cx0 G)).map (rx a)).isSome=true→((hh.map (cx0 G)).map (rx a)).isSome=true:=by
    intro hm;rcases hcond with hc | hc
    ·cases mx<;>simp at hc hm
    ·cases hh<;>simp at hc ⊢
   have fin:∀ (y v:AV),V K y (act.eval x)→Bk P t y ((l.map (cx0 G)).map (rx a)) ((hh.map (cx0 G)).map (rx a)) ((mx.map (cx0 G)).map (rx a))=some v→Fs P K ((execOp act.eval ⟨dst,.slice t x l hh mx,type,pos,after,guard⟩).run P w) v H:=
    fun y v hy h=>eo hi (I9 hy (Jl hg hr l) (Jl hg hr hh) (Jl hg hr mx) hms h)
   split at hc
   ·rename_i hu
    split at hc
    ·rename_i hm
     cases hc;have h9:=aR h;clear h;obtain ⟨h,rfl⟩:=h9;refine fin _ v (h0 x) ?_;unfold Fx at h;split at h
     ·rename_i s he
      unfold Bk;rw [hu,he];have hm0:mx=none:=by cases mx<;>simp at hm ⊢
      subst hm0;simp only [Option.map_none];split at h<;>rename_i e1 e2<;>first | (cases h;done) | (rw [e1,e2];exact h)
     ·cases h
    ·cases hc
   ·rename_i e hu
    split at hc
    ·rename_i sz hsz
     cases hc;have h9:=aR h;clear h;obtain ⟨h,rfl⟩:=h9;refine fin _ v (h1 t x) ?_;unfold zB at h;unfold Bk;rw [hu];split at h
     ·rename_i tag esz rows he
      rw [he];simp only;split at h<;>rename_i e1 e2 e3<;>first | (cases h;done) | (rw [e1,e2,e3,hsz];exact h)
     ·rename_i id off len esz room he
      rw [he];simp only;split at h<;>rename_i e1 e2 e3<;>first | (cases h;done) | (rw [e1,e2,e3,hsz];exact h)
     ·cases h
    ·cases hc
   ·rename_i n e hu
    split at hc
    ·rename_i hm
     split at hc
     ·rename_i sz hsz
      cases hc;have h9:=aR h;clear h;obtain ⟨h,rfl⟩:=h9;refine fin _ v (h0 x) ?_;unfold Uj at h;split at h
      ·rename_i id off he
       unfold Bk;rw [hu,he];have hm0:mx=none:=by cases mx<;>simp at hm ⊢
       subst hm0;simp only [Option.map_none];split at h<;>rename_i e1 e2<;>first | (cases h;done) | (rw [e1,e2,hsz];exact h)
      ·cases h
     ·cases hc
    ·cases hc
   ·cases hc
  ·cases hc
 case fieldAddr s x f=>
  split at hc
  ·rename_i t o hf
   split at hc
   ·rename_i n hsz
    cases hc;have h9:=aR h;clear h;obtain ⟨h,rfl⟩:=h9;refine eo hi (Hv (h0 x) (f:=f) ?_);unfold BX;simp only [hf,hsz];exact h
   ·cases hc
  ·cases hc
 case field s x f=>
  split at hc
  ·rename_i t o hf
   split at hc
   ·rename_i g hgt
    cases hc;have h9:=aR h;clear h;obtain ⟨h,rfl⟩:=h9;refine eo hi (Kk (h0 x) (f:=f) ?_);unfold rfd at h;unfold I3;rw [hf];split at h
    ·rename_i cs he
     rw [he];simp only [cagg_load hgt];exact h
    ·cases h
   ·cases hc
  ·cases hc
 case indexAddr t x i=>
  split at hc
  ·rename_i e hu
   split at hc
   ·rename_i sz hsz
    cases hc;have h9:=aR h;clear h;obtain ⟨h,rfl⟩:=h9;refine eo hi (Bc (h0 x) (h0 i) ?_);unfold qi at h;unfold zj;rw [hu];split at h<;>rename_i e1 e2<;>first | (cases h;done) | (rw [e1,e2];simp only [hsz];exact h)
   ·cases hc
  ·rename_i n e hu
   split at hc
   ·rename_i sz hsz
    cases hc;have h9:=aR h;clear h;obtain ⟨h,rfl⟩:=h9;refine eo hi (Bc (h0 x) (h0 i) ?_);unfold Uh at h;unfold zj;rw [hu];split at h<;>rename_i e1 e2<;>first | (cases h;done) | (rw [e1,e2];simp only [hsz];exact h)
   ·cases hc
  ·cases hc
 case index t x i=>
  split at hc
  ·rename_i hu
   cases hc;have h9:=aR h;clear h;obtain ⟨h,rfl⟩:=h9;refine eo hi (DO (h0 x) (h0 i) ?_);unfold Kz at h;unfold Fa;rw [hu];split at h<;>rename_i e1 e2<;>first | (cases h;done) | (rw [e1,e2];exact h)
  ·rename_i n e hu
   split at hc
   ·rename_i sz g hsz hgt
    cases hc;have h9:=aR h;clear h;obtain ⟨h,rfl⟩:=h9;refine eo hi (DO (h0 x) (h0 i) ?_);unfold Ui at h;unfold Fa;rw [hu];split at h<;>rename_i e1 e2<;>first | (cases h;done) | (rw [e1,e2];simp only [hsz,cagg_load hgt];exact h)
   ·cases hc
  ·cases hc
 case extract x i=>
  cases hc;have h9:=aR h;clear h;obtain ⟨h,rfl⟩:=h9;exact eo hi (Fi (h0 x) h)
 case typeAssert x X T ok=>
  have hx:=h0 x;split at hc
  ·cases hc
  ·rename_i d hnd hu
   cases hc;have h9:=aR h;clear h;obtain ⟨h,rfl⟩:=h9;refine eo hi (B3 hx (T:=T) ?_)
   have key:∀ v,((match P.info? T with | some i=>i.zero.map ji | none=>none:Option AV).map fun z=>AV.tuple [z,.bool false])=some v →
     (match P.info? T with | some i=>(match i.zero with | some z=>some (AV.tuple [ji z,.bool false]) | none=>none) | none=>none)=some v:=fun v hv=>by
    split
    ·rename_i i he
     simp only [he] at hv;split
     ·rename_i z hz;simp only [hz,Option.map_some] at hv;exact hv
     ·rename_i hz;simp [hz] at hv
    ·rename_i he;simp [he] at hv
   unfold rta at h;unfold uV;rw [hu];split at h
   ·rename_i t v' he
    rw [he]
    have:(if t=T then some (if ok then AV.tuple [v',.bool true] else v') else if ok then (match P.info? T with | some i=>(match i.zero with | some z=>some (AV.tuple [ji z,.bool false]) | none=>none) | none=>none) else none)=some v:=by
     split at h
     ·rename_i e;rw [if_pos e];exact h
     ·rename_i e
      rw [if_neg e];split at h
      ·rename_i e2;rw [if_pos e2];exact key v h
      ·cases h
    cases d<;>first | exact this | exact absurd rfl (hnd _)
   ·rename_i he
    rw [he]
    have:(if ok then (match P.info? T with | some i=>(match i.zero with | some z=>some (AV.tuple [ji z,.bool false]) | none=>none) | none=>none) else none)=some v:=by
     split at h
     ·rename_i e2;rw [if_pos e2];exact key v h
     ·cases h
    cases d<;>first | exact this | exact absurd rfl (hnd _)
   ·cases h
  ·cases hc
 case makeMap t r=>
  cases r with
  |some r=>cases hc
  |none=>
   cases hc;cases h;refine dO ⟨K.push w.heap.size,_,w.alloc (.map #[] 0),K.le_push _,by simp [Instr.makeMap];rfl,.map _ _ (by simp [ak.push,ak.pushS,hi.len]), ?_⟩;exact hi.allocObj (.map []) _ rfl none (fun s h=>by cases h) fun w' hw' _ _=>⟨w.heap.size,#[],0,by simp [ak.pushS],hi.new,hw',rfl,fun i k v h=>by simp at h,hi.shape_new⟩
 case makeSlice t l c=>
  split at hc
  ·rename_i e hu
   split at hc
   ·rename_i i cs hinfo hz
    split at hc
    ·rename_i hsz
     cases hc;refine dO (C1 hi (h0 l) (h0 c) (t:=t) ?_);unfold yy at hz;rw [hinfo] at hz;simp only at hz;split at hz
     ·rename_i z hz2
      simp only [rop,rms] at h;split at h
      ·rename_i k1 l1 k2 c1 e1 e2
       unfold xk;rw [hu,e1,e2];simp only [hinfo,hz2,hz];split at h
       ·rename_i hcond
        rw [if_pos ⟨hcond.1,hcond.2.1,hcond.2.2.1,hcond.2.2.2,hsz⟩,← hsz];exact h
       ·cases h
      ·cases h
     ·cases hz
    ·cases hc
   ·cases hc
  ·cases hc
 case insert t m k v'=>
  split at hc
  ·rename_i kt et hu
   cases hc;have h9:=tL h;clear h;obtain ⟨h,rfl⟩:=h9;obtain ⟨w',h3,h4⟩:=vT (P:=P) (t:=t) hi (h0 m) (h0 k) (h1 et v') (Il hu h);exact ⟨K,undef,w',.refl K,.inr ⟨by simp [execOp,h3],rfl⟩,AL,h4⟩
  ·cases hc
 case mapUpdate t m k v'=>
  split at hc
  ·rename_i kt et hu
   cases hc;have h9:=tL h;clear h;obtain ⟨h,rfl⟩:=h9;obtain ⟨w',h3,h4⟩:=vT (P:=P) (t:=t) hi (h0 m) (h0 k) (h1 et v') (Il hu h);exact ⟨K,undef,w',.refl K,.inr ⟨by simp [execOp,h3],rfl⟩,AL,h4⟩
  ·cases hc
 case lookup t x k ok=>
  split at hc
  ·rename_i kt et hu
   cases hc;have h9:=aR h;clear h;obtain ⟨h,rfl⟩:=h9;refine eo hi (HA (t:=t) (ok:=ok) hi (h0 x) (h0 k) ?_);unfold rlk at h;unfold ER;rw [hu];simp only;split at h
   ·rename_i es he
    rw [he];simp only;split at h
    ·rename_i i v' hk;rw [rfind_sound hk];exact h
    ·rename_i hk
     rw [rfind_sound hk];simp only;cases hinfo:P.info? et with
     |none=>rw [hinfo] at h;simp at h
     |some i=>
      rw [hinfo] at h;simp only at h ⊢;cases hz:i.zero with
      |none=>rw [hz] at h;simp at h
      |some z=>rw [hz] at h;simpa using h
    ·cases h
   ·cases h
  ·cases hc
 case range t x=>
  split at hc
  ·rename_i hu
   cases hc;refine dO (Je hi (h0 x) (t:=t) ?_);simp only [rop,rrg] at h;unfold Jd;rw [hu];split at h<;>rename_i he<;>first | (cases h;done) | (rw [he];exact h)
  ·cases hc
 case next x b=>
  cases b
  ·cases hc
  ·cases hc;exact dO (Ky hi (h0 x) h)
 case call c=>
  have hex:∀ b,c.callee = .builtin b→(execOp act.eval ⟨dst,.call c,type,pos,after,guard⟩).run P w=(builtin b c.argTypes type (c.args.map fun | .const _=>true | _=>false) (c.args.map act.eval)).run P w:=by
   intro b hcal;unfold execOp;simp only [resolve,hcal,pure_bind,invoke];rfl
  split at hc
  ·rename_i b hcal
   rw [hex b hcal]
   have one:∀ x,c.args.toList=[x]→∀ v,V K v (act.eval x)→Vs K [v] (c.args.map act.eval):=fun x hx v hv=>by
    rw [vV hx];exact ⟨by simp,fun i av hi=>by cases i with | zero=>simp at hi;subst hi;simpa using hv | succ i=>simp at hi⟩
   have two:∀ x y,c.args.toList=[x,y]→∀ v u,V K v (act.eval x)→V K u (act.eval y)→Vs K [v,u] (c.args.map act.eval):=fun x y hx v u hv hu=>by
    rw [vV hx];exact ⟨by simp,fun i av hi=>by
     match i,hi with
     |0,hi=>simp at hi;subst hi;simpa using hv
     |1,hi=>simp at hi;subst hi;simpa using hu
     |i+2,hi=>simp at hi⟩
   split at hc
   ·rename_i t x ht hx
    split at hc
    ·rename_i hu
     cases hc;have h9:=aR h;clear h;obtain ⟨h,rfl⟩:=h9;refine dt (m:=true) hi (one x hx _ (h0 x)) ?_ type _;simp only [gP,ht,Mf,hu];unfold Bq at h;split at h<;>rename_i e1 e2<;>first | (cases h;done) | (cases e1;done) | (rw [e2];simp only [Option.map_some];cases h;rfl)
    ·rename_i e hu
     cases hc;have h9:=aR h;clear h;obtain ⟨h,rfl⟩:=h9;refine dt (m:=true) hi (one x hx _ (h1 t x)) ?_ type _;simp only [gP,ht,Mf,hu];unfold Bq at h;split at h<;>rename_i e1 e2<;>first | (cases h;done) | (cases e1;done) | (rw [e2];simp only [Option.map_some];cases h;rfl)
    ·rename_i n e hu
     cases hc;cases h;refine dt (m:=true) hi (one x hx _ (h0 x)) ?_ type _;simp only [gP,ht,Mf,hu,rx];rfl
    ·rename_i k e hu
     cases hc;have h9:=aR h;clear h;obtain ⟨h,rfl⟩:=h9;refine dt (m:=true) hi (one x hx _ (h0 x)) ?_ type _;simp only [gP,ht,Mf,hu];unfold Bq at h;split at h<;>rename_i e1 e2<;>first | (cases h;done) | (cases e1;done) | (rw [e2];cases h;rfl) | (rw [e2];split at h<;>first | (cases h;done) | (rename_i e3;dsimp only;rw [e3];cases h;rfl))
    ·cases hc
   ·rename_i t x ht hx
    split at hc
    ·rename_i e hu
     cases hc;have h9:=aR h;clear h;obtain ⟨h,rfl⟩:=h9;refine dt (m:=true) hi (one x hx _ (h1 t x)) ?_ type _;simp only [gP,ht,PF,hu];unfold PJ at h;split at h<;>rename_i e1<;>first | (cases h;done) | (rw [e1];cases h;rfl)
    ·rename_i n e hu
     cases hc;cases h;refine dt (m:=true) hi (one x hx _ (h0 x)) ?_ type _;simp only [gP,ht,PF,hu,rx];rfl
    ·cases hc
   ·rename_i t u s x ht hx
    split at hc
    ·rename_i e hu
     split at hc
     ·rename_i i hinfo
      split at hc
      ·rename_i z e2 hz hu2
       split at hc
       ·rename_i hzs
        cases hc;exact dt (m:=m) hi (two s x hx _ _ (h1 t s) (h1 u x)) (by simp only [gP,ht];exact Ik hu hinfo hz hzs ⟨_,hu2,fun _=>⟨_,rfl⟩,fun e=>by cases e⟩ h) type _
       ·cases hc
      ·rename_i z hz hu2
       split at hc
       ·rename_i hzs
        cases hc;exact dt (m:=m) hi (two s x hx _ _ (h1 t s) (h1 u x)) (by simp only [gP,ht];exact Ik hu hinfo hz hzs ⟨_,hu2,fun e=>(by cases e),fun _=>rfl⟩ h) type _
       ·cases hc
      ·rename_i z kk hz hu2
       split at hc
       ·rename_i cs hcs
        split at hc
        ·rename_i hcc
         cases hc;have h3:c.args.map act.eval = #[act.eval s,act.eval x]:=by rw [vV hx];simp
         have h4:c.argTypes = #[t,u]:=by rw [vV ht]
         have:=dO (Mn (P:=P) hi hu hu2 hinfo hz hcs hcc.1 (h1 t s) (h0 x) h type);rw [h3,h4];exact this
        ·cases hc
       ·cases hc
      ·cases hc
     ·cases hc
    ·cases hc
   ·rename_i t x ht hx
    split at hc
    ·rename_i e hu
     split at hc
     ·rename_i i hinfo
      split at hc
      ·rename_i z hz
       split at hc
       ·rename_i cs hcs
        split at hc
        ·rename_i hcc
         cases hc;have h9:=tL h;clear h;obtain ⟨h,rfl⟩:=h9;have h3:c.args.map act.eval = #[act.eval x]:=by rw [vV hx];simp
         have h4:c.argTypes = #[t]:=by rw [vV ht]
         obtain ⟨w',g1,g2⟩:=On (P:=P) hi hu hinfo hz hcs hcc.1 hcc.2 (h1 t x) h type;have:=dO (P:=P) ⟨K,_,w',.refl K,g1,AL,g2⟩;rw [h3,h4];exact this
        ·cases hc
       ·cases hc
      ·cases hc
     ·cases hc
    ·cases hc
   ·rename_i t u d s ht hx
    split at hc
    ·rename_i e hu
     have fin:∀ sz str,fM P e=some sz→(∃ d,P.underlying u=some d∧(str=false→∃ e,d = .slice e)∧(str=true→d = .string))→rcp H sz str (rx a (cx P G t d)) (rx a (cx P G u s))=some (v,H')→Ks P H t u (rx a (cx P G t d)) (rx a (cx P G u s))=some (v,H'):=fun sz str hsz hu2 h=>by
      unfold rcp at h;unfold Ks;rw [hu];simp only [hsz];split at h
      ·rename_i id off len esz room rows e1 e2
       rw [e1,Bs hu2 e2];exact h
      ·cases h
     split at hc
     ·rename_i sz e2 hsz hu2
      cases hc;exact dt (m:=m) hi (two d s hx _ _ (h1 t d) (h1 u s)) (by simp only [gP,ht];exact fin sz false hsz ⟨_,hu2,fun _=>⟨_,rfl⟩,fun e=>by cases e⟩ h) type _
     ·rename_i sz hsz hu2
      cases hc;exact dt (m:=m) hi (two d s hx _ _ (h1 t d) (h1 u s)) (by simp only [gP,ht];exact fin sz true hsz ⟨_,hu2,fun e=>(by cases e),fun _=>rfl⟩ h) type _
     ·cases hc
    ·cases hc
   ·rename_i t x ht hx
    split at hc
    ·rename_i e1 e2 hu1 hu2
     cases hc;have h9:=aR h;clear h;obtain ⟨h,rfl⟩:=h9;have h3:c.args.map act.eval = #[act.eval x]:=by rw [vV hx];simp
     have:=dO (Mp (P:=P) hi (ts:=c.argTypes) hu2 (h0 x) h);rw [h3];exact this
    ·cases hc
   ·rename_i t it x n ht hx
    split at hc
    ·rename_i e hu
     split at hc
     ·rename_i hc1
      cases hc;have h9:=aR h;clear h;obtain ⟨h,rfl⟩:=h9;have h3:c.args.map act.eval = #[act.eval x,act.eval n]:=by rw [vV hx];simp
      have h4:c.argTypes = #[t,it]:=by rw [vV ht]
      have:=dO (Mq (P:=P) hi (pt:=t) (it:=it) (ty:=type) hu hc1 (h0 x) (h0 n) h);rw [h3,h4];exact this
     ·cases hc
    ·cases hc
   ·rename_i ts x y hx
    cases hc;have h9:=aR h;clear h;obtain ⟨h,rfl⟩:=h9;exact dt (m:=m) hi (two x y hx _ _ (h0 x) (h0 y)) (by simp only [gP,h];rfl) type _
   ·rename_i ts x y hx
    cases hc;have h9:=aR h;clear h;obtain ⟨h,rfl⟩:=h9;exact dt (m:=m) hi (two x y hx _ _ (h0 x) (h0 y)) (by simp only [gP,h];rfl) type _
   ·cases hc
  ·cases hc
end
section
variable{P:Program}{G:Nat→Option (List AV)}{K:ak}{N:Fr}{a:Env}{H:List AObj}{act:Act}{w:World}{ops:Array Oper}{cls:Nat→Cl}{Kp:List AObj→List AObj→Prop}{Q:iv→Env→List AObj→Prop}
 {D DP:Nat→Env→List AObj→AV→List AObj→Prop}
structure DW (P:Program) (G:Nat→Option (List AV)) (N:Fr) (ops:Array Oper) (cls:Nat→Cl) (D DP:Nat→Env→List AObj→AV→List AObj→Prop):Prop where
 putP:∀ (i:Nat) (o:Oper) (dst:Option Tmp) (u:AV) (a:Env) (H:List AObj) (v:AV) (H':List AObj),ops[i]?=some o→(∀ d,dst=some d→d ∉ o.looksAt ops)→(DP i (iz a dst u) H v H'↔DP i a H v H')
 panic:∀ (i:Nat) (o:Oper) (a:Env) (H:List AObj) (p:AV) (H':List AObj),ops[i]?=some o→DP i a H p H'→∀ (K:ak) (act:Act) (w:World) (next:Act→World→Prop) (Qx:Exit→Act→World→Prop),K.glob=G→Rel N K a H act w →
  (∀ K' act' w' cv,K.le K'→V K' p cv→Rel N K' a H' act' w'→Qx (.panic [{ v:=cv,recovered:=false }]) act' w')→o.wpIn N.F 0 P act w next Qx
 put:∀ (i:Nat) (o:Oper) (dst:Option Tmp) (u:AV) (a:Env) (H:List AObj) (v:AV) (H':List AObj),ops[i]?=some o→(∀ d,dst=some d→d ∉ o.looksAt ops)→(D i (iz a dst u) H v H'↔D i a H v H')
 pure:∀ (i:Nat) (a:Env) (H:List AObj) (v:AV) (H':List AObj),cls i = .pure→D i a H v H'→H'=H∧∀ H3,D i a H3 v H3
 step:∀ (i:Nat) (o:Oper) (a:Env) (H:List AObj) (v:AV) (H':List AObj),ops[i]?=some o→D i a H v H'→∀ (K:ak) (act:Act) (w:World) (next:Act→World→Prop) (Q:Exit→Act→World→Prop),K.glob=G→Rel N K a H act w →
  (∀ d,o.dst=some d→d<N.n)→(∀ K' act' w',K.le K'→Rel N K' (iz a o.dst v) H' act' w'→next act' w')→o.wpIn N.F 0 P act w next Q
def KH(ops:Array Oper)(i:Nat):Prop:=∀ j oj,ops[j]?=some oj→j≠i→Dep ops i j∨Dep ops j i
structure s8 (N:Fr) (ops:Array Oper) (Kp:List AObj→List AObj→Prop) (D:Nat→Env→List AObj→AV→List AObj→Prop) (i:Nat) (c:Cl) (a:Env) (H:List AObj) (o:Oper) (v:AV) (H':List AObj):Prop where
 dst:∀ d,o.dst=some d→d<N.n
 still:c.still=true→H'=H
 keep:c.keeps=true→Kp H H'
 step:(ky ops a o=some true∧D i a H v H'∧(c = .wide→∀ H2,Kp H H2→D i a H2 v H2))∨(ky ops a o=some false∧v=gH∧H'=H)
def dOp(N:Fr)(ops:Array Oper)(Kp:List AObj→List AObj→Prop)(D DP:Nat→Env→List AObj→AV→List AObj→Prop)(cls:Nat→Cl)(Q:iv→Env→List AObj→Prop)(i:Nat)(Kt:Env→List AObj→Prop)(a:Env)(H:List AObj):Prop:=
 match ops[i]? with
 |none=>Kt a H
 |some o=>(∃ v H',s8 N ops Kp D i (cls i) a H o v H'∧Kt (iz a o.dst v) H')∨(∃ p H',cls i≠.pure∧ky ops a o=some true∧DP i a H p H'∧((∀ a,Q (.panic p) a H')∨(KH ops i∧Q (.panic p) a H')))
def HB(N:Fr)(ops:Array Oper)(Kp:List AObj→List AObj→Prop)(D DP:Nat→Env→List AObj→AV→List AObj→Prop)(cls:Nat→Cl)(Q:iv→Env→List AObj→Prop):Nat→Array Bool→Env→List AObj→Prop
 |0,listed,a,H=>Region.ready .any ops listed=[]∧Q .normal a H
 |fuel+1,listed,a,H=>(Region.ready .any ops listed=[]→Q .normal a H) ∧
  ∀ i∈Region.ready .any ops listed,dOp N ops Kp D DP cls Q i (HB N ops Kp D DP cls Q fuel (listed.setIfInBounds i true)) a H
theorem xo(hD:DW P G N ops cls D DP)(hg0:K.glob=G):∀ (fuel:Nat) (listed:Array Bool) (K':ak) (a:Env) (H:List AObj) (act:Act) (w:World),K.le K'→Rel N K' a H act w →
  HB N ops Kp D DP cls Q fuel listed a H→wpAnyIn N.F 0 P .any ops (Ht N K Q) fuel listed act w
 |0,listed,K',a,H,act,w,hk,hr,h=>⟨h.1,K',.normal,a,H,hk,trivial,hr,h.2⟩
 |fuel+1,listed,K',a,H,act,w,hk,hr,h=>by
  refine ⟨fun h0=>⟨K',.normal,a,H,hk,trivial,hr,h.1 h0⟩,fun i hi => ?_⟩;have h1:=h.2 i hi;unfold dOp at h1;unfold wpOpIn;cases ho:ops[i]? with
  |none=>
   simp only [ho] at h1;exact xo hD hg0 fuel _ K' a H act w hk hr h1
  |some o=>
   simp only [ho] at h1;simp only;rcases h1 with ⟨v,H',⟨hd,_,_,hy⟩,hK⟩ | ⟨p,H',_,hw,hdp,hQ⟩
   rotate_left
   ·rw [nN hr hw]
    simp only [if_true];refine hD.panic i o a H p H' ho hdp K' act w _ _ (hk.glob.trans hg0) hr ?_;intro K2 act2 w2 cv hk2 hv hr2;exact ⟨K2,.panic p,a,H',hk.trans hk2,⟨cv,rfl,hv⟩,hr2,hQ.elim (fun h=>h a) (fun h=>h.2)⟩
   rcases hy with ⟨hw,hdet,_⟩ | ⟨hw,rfl,rfl⟩
   ·rw [nN hr hw]
    simp only [if_true];refine hD.step i o a H v H' ho hdet K' act w _ _ (hk.glob.trans hg0) hr hd ?_;intro K2 act2 w2 hk2 hr2;exact xo hD hg0 fuel _ K2 _ _ act2 w2 (hk.trans hk2) hr2 hK
   ·rw [nN hr hw]
    simp only [Bool.false_eq_true,if_false];exact ⟨fun f _=>N.fn f,xo hD hg0 fuel _ K' _ _ _ w hk (hr.put (.refl K') hr.inv AL hd) hK⟩
theorem uW(hD:DW P G N ops cls D DP){i:Nat}{o:Oper}(hoi:ops[i]?=some o){c:Cl}{dst:Option Tmp}{u v:AV}{H':List AObj}(h:∀ d,dst=some d→d ∉ o.looksAt ops)(hy:s8 N ops Kp D i c a H o v H'):s8 N ops Kp D i c (iz a dst u) H o v H':=by
 obtain ⟨h1,h3,h4,h5⟩:=hy;refine ⟨h1,h3,h4, ?_⟩;simp only [zy h,hD.put i o dst u a _ _ _ hoi h];exact h5
theorem Jo(hD:DW P G N ops cls D DP){i:Nat}{o:Oper}(hoi:ops[i]?=some o){c:Cl}{dst:Option Tmp}{u v:AV}{H':List AObj}(h:∀ d,dst=some d→d ∉ o.looksAt ops)(hy:s8 N ops Kp D i c (iz a dst u) H o v H'):s8 N ops Kp D i c a H o v H':=by
 obtain ⟨h1,h3,h4,h5⟩:=hy;simp only [zy h,hD.put i o dst u a _ _ _ hoi h] at h5;exact ⟨h1,h3,h4,h5⟩
theorem xp(hD:DW P G N ops cls D DP){i:Nat}(hc:cls i = .pure){o:Oper}{v:AV}{H1 H2:List AObj}(h:s8 N ops Kp D i .pure a H1 o v H2):H2=H1∧∀ H3,s8 N ops Kp D i .pure a H3 o v H3:=by
 obtain ⟨h1,h3,h4,h5⟩:=h;rcases h5 with ⟨hw,hd,_⟩ | ⟨hw,hv,hH⟩
 ·obtain ⟨e1,e2⟩:=hD.pure i _ _ _ _ hc hd
  exact ⟨e1,fun H3=>⟨h1,fun _=>rfl,fun h=>(by cases h),.inl ⟨hw,e2 H3,fun h=>by cases h⟩⟩⟩
 ·exact ⟨hH,fun H3=>⟨h1,fun _=>rfl,fun h=>(by cases h),.inr ⟨hw,hv,rfl⟩⟩⟩
theorem Mr(hD:DW P G N ops cls D DP)(htrans:∀ H1 H2 H3,Kp H1 H2→Kp H2 H3→Kp H1 H3){i:Nat}{oi:Oper}{v:AV}(hi:ops[i]?=some oi) :
  ∀ (fuel:Nat) (listed:Array Bool) (a:Env) (H H':List AObj),zA ops listed →
   (∀ j oj,ops[j]?=some oj→j≠i→listed.getD j true=false→¬ Dep ops i j→oi.apart ops oj=true∧(cls i).mixes (cls j)=true) →
   i∈Region.ready .any ops listed→s8 N ops Kp D i (cls i) a H oi v H' →
   HB N ops Kp D DP cls Q fuel (listed.setIfInBounds i true) (iz a oi.dst v) H'→HB N ops Kp D DP cls Q (fuel+1) listed a H:=by
 intro fuel;induction fuel with
 |zero=>
  intro listed a H H' _ _ hr hy hA;refine ⟨fun h=>(by rw [h] at hr;cases hr),fun j hj => ?_⟩
  by_cases hji:j=i
  ·subst hji;unfold dOp;rw [hi];exact .inl ⟨v,H',hy,hA⟩
  ·have:=ready_mono hj hji
   rw [hA.1] at this;cases this
 |succ fuel ih=>
  intro listed a H H' hcl hfree hr hy hA;refine ⟨fun h=>(by rw [h] at hr;cases hr),fun j hj => ?_⟩
  by_cases hji:j=i
  ·subst hji;unfold dOp;rw [hi];exact .inl ⟨v,H',hy,hA⟩
  ·have h1:=hA.2 j (ready_mono hj hji)
   obtain ⟨hjun,oj,hoj,hall⟩:=mem_ready.1 hj;have hiun:listed.getD i true=false:=(mem_ready.1 hr).1
   have hnot:¬ Dep ops i j:=fun hd=>by
    have key:∀ e∈oj.after,Region.binds .any e=true→listed.getD e.on true=true:=fun e he hb=>ni (hall e he hb)
    cases hd with
    |one _ oj' e g1 g2 g3 g4=>
     rw [hoj] at g1;cases g1;have:=key e g2 g3;rw [g4,hiun] at this;cases this
    |more _ oj' e g1 g2 g3 g4=>
     rw [hoj] at g1;cases g1;have:=hcl.dep g4 (key e g2 g3);rw [hiun] at this;cases this
   obtain ⟨hap,hmix⟩:=hfree j oj hoj hji hjun hnot;obtain ⟨ap1,ap2,ap3⟩:=Oper.apart_spec hap
   have hcl':zA ops (listed.setIfInBounds j true):=fun k ok hk hkl e he hb=>by
    have up:∀ m,listed.getD m true=true→(listed.setIfInBounds j true).getD m true=true:=fun m hm=>by
     by_cases hjm:j=m
     ·subst hjm
      rcases Nat.lt_or_ge j listed.size with h' | h'
      ·simp [Array.getD_eq_getD_getElem?,h']
      ·simp [Array.getD_eq_getD_getElem?,Array.getElem?_eq_none h']
     ·rw [getD_set_ne true hjm];exact hm
    by_cases hjk:j=k
    ·subst hjk
     rw [hoj] at hk;cases hk;exact up _ (ni (hall e he hb))
    ·rw [getD_set_ne true hjk] at hkl
     exact up _ (hcl k ok hk hkl e he hb)
   have hfree':∀ k ok,ops[k]?=some ok→k≠i→(listed.setIfInBounds j true).getD k true=false →
     ¬ Dep ops i k→oi.apart ops ok=true∧(cls i).mixes (cls k)=true:=fun k ok hk hki hun hno=>by
    refine hfree k ok hk hki ?_ hno
    by_cases hjk:j=k
    ·subst hjk;exact hjun
    ·rw [getD_set_ne true hjk] at hun;exact hun
   unfold dOp at h1 ⊢;rw [hoj] at h1 ⊢;rcases h1 with ⟨u,Hj,hyj,hK⟩ | ⟨p,Hp,hcp,hwp,hdp,hQp⟩
   rotate_left
   ·have hH:H'=H:=by
     cases hci:cls i<;>cases hcj:cls j<;>rw [hci,hcj] at hmix<;>first
      |exact absurd hcj hcp
      |(rw [hci] at hy;exact (xp hD hci hy).1)
      |exact hy.still (by rw [hci];rfl)
      |(cases hmix;done)
    subst hH;refine .inr ⟨p,Hp,hcp,by rw [← hwp];exact (zy (u:=v) ap1).symm,(hD.putP j oj oi.dst v a _ _ _ hoj ap1).1 hdp, ?_⟩;rcases hQp with hQp | ⟨hpv,_⟩
    ·exact .inl hQp
    ·exfalso
     rcases hpv i oi hi (Ne.symm hji) with hd | hd
     ·obtain ⟨_,oi',hoi',hall'⟩:=mem_ready.1 hr
      have key:∀ e∈oi'.after,Region.binds .any e=true→listed.getD e.on true=true:=fun e he hb=>ni (hall' e he hb)
      cases hd with
      |one _ oj' e g1 g2 g3 g4=>
       rw [hoi'] at g1;cases g1;have:=key e g2 g3;rw [g4,hjun] at this;cases this
      |more _ oj' e g1 g2 g3 g4=>
       rw [hoi'] at g1;cases g1;have:=hcl.dep g4 (key e g2 g3);rw [hjun] at this;cases this
     ·exact hnot hd
   have hyj2:=Jo hD hoj ap1 hyj;rw [Array.setIfInBounds_comm _ _ (Ne.symm hji)] at hK;rw [Ol a v u ap2] at hK
   have both:(cls i).still=true→(cls j).still=true→dOp N ops Kp D DP cls Q j (HB N ops Kp D DP cls Q (fuel+1) (listed.setIfInBounds j true)) a H:=fun s1 s2=>by
    have e1:=hy.still s1;subst e1;have e2:=hyj2.still s2;subst e2;unfold dOp;rw [hoj];exact .inl ⟨u,Hj,hyj2,ih (listed.setIfInBounds j true) _ Hj Hj hcl' hfree' (ready_mono hr (Ne.symm hji)) (uW hD hi ap3 hy) hK⟩
   have firstPure:cls i = .pure→dOp N ops Kp D DP cls Q j (HB N ops Kp D DP cls Q (fuel+1) (listed.setIfInBounds j true)) a H:=fun hp=>by
    have hy':=hy;rw [hp] at hy';obtain ⟨rfl,hall2⟩:=xp hD hp hy';unfold dOp;rw [hoj];exact .inl ⟨u,Hj,hyj2,ih (listed.setIfInBounds j true) _ Hj Hj hcl' hfree' (ready_mono hr (Ne.symm hji)) (by rw [hp];exact uW hD hi ap3 (hall2 Hj)) hK⟩
   have secondPure:cls j = .pure→dOp N ops Kp D DP cls Q j (HB N ops Kp D DP cls Q (fuel+1) (listed.setIfInBounds j true)) a H:=fun hp=>by
    have hyj':=hyj2;rw [hp] at hyj';obtain ⟨rfl,hall2⟩:=xp hD hp hyj';unfold dOp;rw [hoj];exact .inl ⟨u,H,by rw [hp];exact hall2 H,ih (listed.setIfInBounds j true) _ H Hj hcl' hfree' (ready_mono hr (Ne.symm hji)) (uW hD hi ap3 hy) hK⟩
   have wideKeep:cls i = .wide→(cls j).keeps=true→dOp N ops Kp D DP cls Q j (HB N ops Kp D DP cls Q (fuel+1) (listed.setIfInBounds j true)) a H:=fun s1 s2=>by
    have e1:=hy.still (by rw [s1];rfl);subst e1;have hkp:=hyj2.keep s2;unfold dOp;rw [hoj];refine .inl ⟨u,Hj,hyj2,ih (listed.setIfInBounds j true) _ Hj Hj hcl' hfree' (ready_mono hr (Ne.symm hji)) (uW hD hi ap3 ?_) hK⟩;obtain ⟨y1,y3,y4,y5⟩:=hy;refine ⟨y1,fun _=>rfl,(fun h=>by rw [s1] at h;cases h), ?_⟩;rcases y5 with ⟨hw,_,hwide⟩ | ⟨hw,hv,_⟩
    ·exact .inl ⟨hw,hwide s1 Hj hkp,fun _ H2 h2=>hwide s1 H2 (htrans _ _ _ hkp h2)⟩
    ·exact .inr ⟨hw,hv,rfl⟩
   have goal:dOp N ops Kp D DP cls Q j (HB N ops Kp D DP cls Q (fuel+1) (listed.setIfInBounds j true)) a H:=by
    cases hci:cls i<;>cases hcj:cls j<;>rw [hci,hcj] at hmix<;>first
     |exact firstPure hci
     |exact secondPure hcj
     |exact wideKeep hci (by rw [hcj];rfl)
     |exact both (by rw [hci];rfl) (by rw [hcj];rfl)
     |(cases hmix;done)
   have:=goal;unfold dOp at this;rw [hoj] at this;exact this
def Sq(N:Fr)(ops:Array Oper)(Kp:List AObj→List AObj→Prop)(D DP:Nat→Env→List AObj→AV→List AObj→Prop)(cls:Nat→Cl)(Q:iv→Env→List AObj→Prop):List Nat→Env→List AObj→Prop
 |[],a,H=>Q .normal a H
 |k::ord,a,H=>(∃ o v H',ops[k]?=some o∧s8 N ops Kp D k (cls k) a H o v H'∧Sq N ops Kp D DP cls Q ord (iz a o.dst v) H') ∨
  (∃ o p H',ops[k]?=some o∧cls k≠.pure∧ky ops a o=some true∧DP k a H p H'∧(((∀ j∈ord,Dep ops k j)∧∀ a,Q (.panic p) a H')∨(KH ops k∧Q (.panic p) a H')))
theorem KI(hD:DW P G N ops cls D DP)(htrans:∀ H1 H2 H3,Kp H1 H2→Kp H2 H3→Kp H1 H3):∀ (ord:List Nat) (listed:Array Bool) (a:Env) (H:List AObj),zA ops listed →
  xl ops cls ord listed=true→Sq N ops Kp D DP cls Q ord a H→HB N ops Kp D DP cls Q ord.length listed a H
 |[],_,_,_,_,hB,h=>⟨by simpa [xl] using hB,h⟩
 |k::ord,listed,a,H,hc,hB,h=>by
  simp only [xl,Bool.and_eq_true] at hB;have hBB:xl ops cls (k::ord) listed=true:=by simp only [xl,Bool.and_eq_true];exact hB
  obtain ⟨⟨hr,hf⟩,hB'⟩:=hB;have hr':k∈Region.ready .any ops listed:=by simpa using hr
  rcases h with ⟨o,v,H',ho,hy,h⟩ | ⟨o,p,H',ho,hcp,hwp,hdp,hQ⟩
  rotate_left
  ·refine ⟨fun h0=>(by rw [h0] at hr';cases hr'),fun i hi => ?_⟩
   by_cases hik:i=k
   ·subst hik;unfold dOp;rw [ho];exact .inr ⟨p,H',hcp,hwp,hdp,hQ.imp (fun h=>h.2) id⟩
   ·have him:i∈ord:=(List.mem_cons.1 (Fu hBB hi)).resolve_left hik
    exfalso;obtain ⟨_,oj,hoj,hdeps⟩:=mem_ready.1 hi;have hkun:listed.getD k true=false:=(mem_ready.1 hr').1;have key:∀ e∈oj.after,Region.binds .any e=true→listed.getD e.on true=true:=fun e he hb=>ni (hdeps e he hb)
    have hall:Dep ops k i:=by
     rcases hQ with hQ | ⟨hpv,_⟩
     ·exact hQ.1 i him
     ·rcases hpv i oj hoj hik with hd | hd
      ·exact hd
      ·exfalso
       have hiun:listed.getD i true=false:=(mem_ready.1 hi).1;obtain ⟨_,ok',hok',hall'⟩:=mem_ready.1 hr';have key2:∀ e∈ok'.after,Region.binds .any e=true→listed.getD e.on true=true:=fun e he hb=>ni (hall' e he hb)
       cases hd with
       |one _ oj' e g1 g2 g3 g4=>
        rw [hok'] at g1;cases g1;have:=key2 e g2 g3;rw [g4,hiun] at this;cases this
       |more _ oj' e g1 g2 g3 g4=>
        rw [hok'] at g1;cases g1;have:=hc.dep g4 (key2 e g2 g3);rw [hiun] at this;cases this
    cases hall with
    |one _ oj' e g1 g2 g3 g4=>
     rw [hoj] at g1;cases g1;have:=key e g2 g3;rw [g4,hkun] at this;cases this
    |more _ oj' e g1 g2 g3 g4=>
     rw [hoj] at g1;cases g1;have:=hc.dep g4 (key e g2 g3);rw [hkun] at this;cases this
  exact Mr hD htrans ho ord.length listed a H H' hc (Mi ho hf) hr' hy (KI hD htrans ord _ _ _ (Jg hc hr') hB' h)
theorem Ou{id:Nat}(cls:Nat→Cl)(hD:DW P G N ops cls D DP)(Kp:List AObj→List AObj→Prop)(ord:List Nat)(htrans:∀ H1 H2 H3,Kp H1 H2→Kp H2 H3→Kp H1 H3)(hm:P.follows .mixedOrders=true)
  (hl:ord.length=ops.size) (hB:xl ops cls ord (Array.replicate ops.size false)=true) (h:Sq N ops Kp D DP cls Q ord a H) :
  AWP P G N (.region id ops true) Q a H:=fun K act w hg hr=>by
 refine wpIn_region_any hm (xo (Kp:=Kp) (cls:=cls) hD hg ops.size _ K a H act _ (.refl K) ⟨hr.inv.drew,hr.defers,hr.size,hr.tmps⟩ ?_);have:=KI (P:=P) (G:=G) (N:=N) (Q:=Q) hD htrans ord (Array.replicate ops.size false) a H Jh hB h;rw [hl] at this;exact this
end
inductive RS where
 |op (o:ROp)
 |call (f:RX) (args:List RX)
 |panic (x:RX)
 |inv (x:RX) (m:String) (args:List RX)
 deriving Inhabited
structure RO where
 d:Option Nat
 g:Option (Nat×Bool)
 s:RS
 deriving Inhabited
structure LH where
 live:Option (List Nat):=none
 tks:List (Nat×Nat×TypeId):=[]
 cut:Bool:=false
 deriving Inhabited
inductive AC where
 |skip
 |exit (id:Nat)
 |ret
 |seq (x y:AC)
 |cond (c:RX) (x y:AC)
 |block (id:Nat) (x:AC)
 |loop (h:LH) (x:AC)
 |ops (l:List RO)
 |dops (s:Bool) (T L:List Nat) (l:List (RO×Cl))
 |lv (l:List Nat)
 |fz (t:Nat) (l:List Nat)
 |bad
 |lbl (l:Nat)
 |goto (l:Nat)
 |scope (x t:AC)
 |tab (l:Nat) (r t:AC)
 |rfn (x:RX) (ps:List Nat) (y:List (List RO)) (z:AC)
 deriving Inhabited
def RX.uses:RX→List Nat
 |.t n=>[n]
 |.c _=>[]
def Ch:Option RX→List Nat
 |some x=>x.uses
 |none=>[]
def DX:List RX→List Nat
 |[]=>[]
 |x::l=>x.uses++DX l
def DY:List (Nat×RX)→List Nat
 |[]=>[]
 |x::l=>x.2.uses++DY l
def ROp.uses:ROp→List Nat
 |.mv x | .bx _ x | .ld _ x | .nc x | .un _ x | .cvi _ x | .cvs x | .cvbs x | .cvsb x | .mi _ x | .ta _ _ _ x | .fa _ x | .fd _ _ x | .ex x _ | .rg x | .nx x | .len _ x | .cap x | .usl x | .cvu x | .cvf _ _ x | .cvg _ _ _ x | .cl _ _ x | .cvsr x | .cvrs x=>x.uses
 |.pk c x y=>c.uses++(x.uses++y.uses)
 |.nw _ _ | .mm | .nwb .. => []
 |.bd _ _ ps=>DY ps
 |.bs _ _ _ ps=>DY ps
 |.ba _ _ ps=>DY ps
 |.bm _ _ _ _ ps=>DY ps
 |.st _ x v=>x.uses++v.uses
 |.ar _ x y | .sh _ x y | .an x y | .eq _ _ x y | .ias _ x y | .iaa _ _ x y | .ixs x y | .ixa _ _ _ x y | .lk _ _ _ x y | .ap _ _ _ _ _ x y | .cp _ _ x y | .mx x y | .mn x y | .ms _ _ _ x y | .ust _ x y | .apz _ _ _ _ x y=>x.uses++y.uses
 |.mf _ xs ys=>DX xs++DX ys
 |.sls x l h=>x.uses++(Ch l++Ch h)
 |.sll _ x l h m=>x.uses++(Ch l++(Ch h++Ch m))
 |.sla _ _ x l h=>x.uses++(Ch l++Ch h)
 |.mu _ m k v=>m.uses++(k.uses++v.uses)
def RS.uses:RS→List Nat
 |.op o=>o.uses
 |.call f args=>f.uses++DX args
 |.panic x=>x.uses
 |.inv x _ args=>x.uses++DX args
def KJ:ROp→Bool
 |.mv _ | .pk .. | .nc _ | .ar .. | .sh .. | .an .. | .eq .. | .un .. | .cvi .. | .cvs _ | .cvsb _ | .mi .. | .ta .. | .mf .. | .sls .. | .sll .. | .sla .. | .fa .. | .fd .. | .ias .. | .iaa .. | .ixs .. | .ixa .. | .ex .. | .cap _ | .mx .. | .mn .. | .bd .. | .bs .. | .usl _ | .cvsr _ | .cvrs _ | .ba .. => true
 |_=>false
def Ci:ROp→Bool
 |.ld .. | .lk .. | .len .. | .cvbs _=>true
 |_=>false
def KK:ROp→Bool
 |.nw .. | .bx .. | .mm | .ms .. | .nwb .. | .bm .. | .apz .. | .ap false _ _ _ _ (.c (.slice .nil _ _)) _=>true
 |_=>false
def sb:AV→Option Nat
 |.ptr id _=>some id
 |.rslice id _ _ _ _=>some id
 |.map id=>some id
 |_=>none
def mI:AV→Option Nat
 |.rslice id _ _ _ _=>some id
 |.slice (.own t) _ _=>some t
 |_=>none
def xq(a:Env):ROp→Option Nat
 |.ld _ x | .lk _ _ _ x _ | .len _ x | .cvbs x=>sb (rx a x)
 |_=>none
def nO(q:Cl)(s:Bool):RS→Cl
 |.op o=>if KJ o then .pure else if Ci o then .wide else if KK o then .keep else match o with
  |.st .. => if s then .keep else .eff
  |.ap .. => if s then .keep else .eff
  |_=>.eff
 |.call .. => q
 |.inv .. => q
 |.panic _=>.eff
section
variable(P:Program)(G:Nat→Option (List AV))
def Jp(ops:Array Oper)(o:Oper):Option (Option (Nat×Bool)):=
 match o.guard with
 |none=>some none
 |some (j,b)=>match (ops[j]?).bind (·.dst) with
  |some d=>some (some (d,b))
  |none=>none
def ph:List Operand→List TypeId→List RX
 |[],_=>[]
 |x::xs,[]=>cx0 G x::ph xs []
 |x::xs,t::ts=>cx P G t x::ph xs ts
def cRS(m:Bool)(ty:TypeId)(op:Op):Option RS:=
 match op with
 |.call c=>match c.callee with
  |.value f=>some (.call (cx0 G f) (ph P G c.args.toList c.argTypes.toList))
  |.builtin _=>(cOp P G m ty op).map .op
  |.invoke x n=>some (.inv (cx0 G x) n (ph P G c.args.toList c.argTypes.toList))
 |.panic x=>some (.panic (cx0 G x))
 |op=>(cOp P G m ty op).map .op
def TS(n:Nat):Option Nat→Bool
 |some d=>d<n
 |none=>true
def cRO(m:Bool)(n:Nat)(ops:Array Oper)(o:Oper):Option RO:=
 match Jp ops o,cRS P G m o.type o.op with
 |some g,some s=>if TS n o.dst then some ⟨o.dst,g,s⟩ else none
 |_,_=>none
def Cj(m:Bool)(n:Nat)(ops:Array Oper):List Oper→Option (List RO)
 |[]=>some []
 |o::l=>match cRO P G m n ops o with
  |some r=>match Cj m n ops l with
   |some rs=>some (r::rs)
   |none=>none
  |none=>none
def zF(q:Cl)(s:Bool)(ros:List RO)(k:Nat):Cl:=
 match ros[k]? with
 |some r=>nO q s r.s
 |none=>.eff
def Ms(ops:Array Oper)(ros:List RO):Bool:=(ops.toList.zip ros).all fun p=>p.2.s.uses.all fun t=>(p.1.looksAt ops).contains t
def Sr:RS→Bool
 |.call .. => true
 |.inv .. => true
 |_=>false
def FG(ops:Array Oper)(ros:List RO):Nat→Array Bool→List Nat
 |0,_=>[]
 |f+1,listed=>
  let rd:=Region.ready .any ops listed
  match (rd.find? fun k=>match ros[k]? with | some o => !Sr o.s | none=>false) with
  |some k=>k::FG ops ros f (listed.setIfInBounds k true)
  |none=>match rd with
   |k::_=>k::FG ops ros f (listed.setIfInBounds k true)
   |[]=>[]
def FH(ops:Array Oper)(ros:List RO):Nat→Array Bool→List Nat
 |0,_=>[]
 |f+1,listed=>
  let rd:=Region.ready .any ops listed
  match (rd.find? fun k=>match ros[k]? with | some o=>(match o.s with | .op op=>KJ op||Ci op | _=>false) | none=>false) with
  |some k=>k::FH ops ros f (listed.setIfInBounds k true)
  |none=>match rd with
   |k::_=>k::FH ops ros f (listed.setIfInBounds k true)
   |[]=>[]
def VR(ros:List RO)(k:Nat):Bool:=
 match ros[k]? with
 |some r=>(match r.s with | .op _=>true | _=>false)
 |none=>false
def Mt(ops:Array Oper)(ros:List RO)(cl:Nat→Cl):List Nat→List Nat
 |[]=>[]
 |k::ord=>if cl k == .wide&&VR ros k&&ord.all (fun j=>(Jf k ops.toList []).getD j false||cl j == .pure||cl j == .wide) then k::Mt ops ros cl ord else Mt ops ros cl ord
def DZ(ros:List RO)(k:Nat):Bool:=
 match ros[k]? with
 |some r=>(match r.s with | .call .. => true | _=>false)
 |none=>false
def TT(ops:Array Oper)(ros:List RO)(q:Cl)(s:Bool)(ord:List Nat)(k:Nat):Bool:=
 DZ ros k&&ord.all fun j=>Nat.beq j k||zF q s ros j == .pure||(Jf j ops.toList []).getD k false||(Jf k ops.toList []).getD j false
def FI(m:Bool)(ops:Array Oper)(ros:List RO)(q:Cl)(s:Bool)(ord:List Nat)(k:Nat):Cl:=
 if m&&s&&(Mt ops ros (zF q s ros) ord).contains k then .quiet else if m&&TT ops ros q s ord k then .eff else zF q s ros k
def Jq(ord:List Nat)(k:Nat):List Nat:=(ord.dropWhile fun j => !Nat.beq j k).drop 1
def TU(ops:Array Oper)(ord:List Nat)(k:Nat):Bool:=(Jq ord k).all fun j=>(Jf k ops.toList []).getD j false
def Uo(ops:Array Oper)(k:Nat):Bool:=(List.range ops.size).all fun j=>Nat.beq j k||(Jf k ops.toList []).getD j false||(Jf j ops.toList []).getD k false
def HC(ops:Array Oper)(ros:List RO)(k:Nat):Cl:=
 if DZ ros k&&Uo ops k then .last else zF .eff false ros k
def Nz(ops:Array Oper)(ros:List RO):List (List Nat)→Option AC
 |[]=>none
 |ord::l=>
  if ord.length == ops.size&&xl ops (HC ops ros) ord (Array.replicate ops.size false) then some (.dops false [] [] (ord.map fun k=>(ros.getD k default,HC ops ros k)))
  else Nz ops ros l
def Jr(ops:Array Oper)(ros:List RO)(ord:List Nat)(k:Nat):Cl:=
 if DZ ros k then (if TU ops ord k then .stop else .turn) else zF .keep false ros k
def NA(ops:Array Oper)(ros:List RO):List (List Nat)→Option AC
 |[]=>none
 |ord::l=>
  if ord.length == ops.size&&xl ops (Jr ops ros ord) ord (Array.replicate ops.size false) then some (.dops true [] [] (ord.map fun k=>(ros.getD k default,Jr ops ros ord k)))
  else NA ops ros l
def Ss(m:Bool)(ops:Array Oper)(ros:List RO):List (Cl×Bool×List Nat)→Option AC
 |[]=>none
 |(q,s,ord)::l=>
  if ord.length == ops.size&&xl ops (FI m ops ros q s ord) ord (Array.replicate ops.size false) then some (.dops s [] [] (ord.map fun k=>(ros.getD k default,FI m ops ros q s ord k)))
  else Ss m ops ros l
def PP(m t u:Bool)(ops:Array Oper)(ros:List RO):Option AC:=
 if Ms ops ros then
  let r:=List.range ops.size
  let late:=FG ops ros ops.size (Array.replicate ops.size false)
  let wo:=FH ops ros ops.size (Array.replicate ops.size false)
  if u then Nz ops ros [r,late,wo] else
  if t then NA ops ros [r,late,wo] else
  Ss m ops ros [(.eff,false,r),(.keep,false,r),(.eff,false,late),(.keep,false,late),(.wide,false,r),(.wide,true,r),(.wide,true,late),(.quiet,true,r),(.eff,true,r),(.keep,true,r),(.eff,true,late),(.keep,true,late),(.eff,true,wo),(.keep,true,wo)]
 else none
def Ck:AC→Nat→Option AC
 |.seq a b,l=>match Ck a l with
  |some r=>some (.seq r b)
  |none=>Ck b l
 |.lbl l',l=>if l' == l then some .skip else none
 |_,_=>none
def Js:AC→List Nat
 |.goto l=>[l]
 |.seq x y=>Js x++Js y
 |.cond _ x y=>Js x++Js y
 |.block _ x=>Js x
 |.loop _ x=>Js x
 |.rfn _ _ _ z=>Js z
 |_=>[]
def KL(x:AC):List Nat→AC
 |[]=>.skip
 |l::ls=>match Ck x l with
  |some r=>.tab l r (KL x ls)
  |none=>KL x ls
def sX:AC→Nat→Option AC
 |.tab l r t,m=>if l=m then some r else sX t m
 |_,_=>none
def fZ:AC→Bool
 |.seq x y=>fZ x&&fZ y
 |.cond _ x y=>fZ x&&fZ y
 |.block _ x=>fZ x
 |.loop _ x=>fZ x
 |.scope x t=>fZ x&&fZ t
 |.tab _ r t=>fZ r&&fZ t
 |.rfn .. => false
 |_=>true
def Jt:AC→Option (List (List RO))
 |.ops l=>some [l]
 |.seq x y=>match Jt x,Jt y with
  |some l,some m=>some (l++m)
  |_,_=>none
 |_=>none
def cO(m:Nat→Bool)(n:Nat):Code→Option AC
 |.skip=>some .skip
 |.label l=>some (.lbl l)
 |.goto l=>some (.goto l)
 |.scope x=>match cO m n x with
  |some x'=>some (.scope x' (KL x' (Js x').eraseDups))
  |none=>none
 |.rangeFunc g ps y z=>match cO m n y with
  |some y'=>match Jt y',cO m n z with
   |some l,some z'=>if ps.all (· < n) then some (.rfn (cx0 G g) ps.toList l z') else none
   |_,_=>none
  |none=>none
 |.exit id=>some (.exit id)
 |.ret=>some .ret
 |.refuse _=>some .bad
 |.seq x y=>match cO m n x with
  |some x'=>match cO m n y with
   |some y'=>some (.seq x' y')
   |none=>none
  |none=>none
 |.cond c x y=>match cO m n x with
  |some x'=>match cO m n y with
   |some y'=>some (.cond (cx0 G c) x' y')
   |none=>none
  |none=>none
 |.block id x=>match cO m n x with
  |some x'=>some (.block id x')
  |none=>none
 |.loop x=>match cO m n x with
  |some x'=>some (.loop {} x')
  |none=>none
 |.region id ops draw=>match Cj P G (m id) n ops ops.toList with
  |some ros=>if draw then PP (m id||m (id+1000000)) (m (id+2000000)) (m (id+3000000)) ops ros else some (.ops ros)
  |none=>none
end
def AC.strip:AC→AC
 |.seq x (.lv _)=>x.strip
 |.seq x (.fz _ _)=>x.strip
 |.seq x y=>.seq x.strip y.strip
 |.cond c x y=>.cond c x.strip y.strip
 |.block id x=>.block id x.strip
 |.loop _ x=>.loop {} x.strip
 |.scope x t=>.scope x.strip t.strip
 |.tab l r t=>.tab l r.strip t.strip
 |.rfn x ps y z=>.rfn x ps y z.strip
 |c=>c
inductive RM where
 |drop
 |keep
 |frz
 |deep
 deriving Inhabited
inductive uy where
 |t (n:Nat)
 |cell (x:Nat) (g:Option Nat)
 deriving Inhabited
structure AFn where
 c:AC
 n:Nat
 res:List uy
 mode:RM:=.drop
 muts:List Nat:=[]
 dfr:Option (List RO×RX×AC):=none
 deriving Inhabited
def yG(P:Program):List ResultVar→Option (List uy)
 |[]=>some []
 |.tmp t::l=>match yG P l with
  |some r=>some (.t t::r)
  |none=>none
 |.cell a t::l=>match Mo P t with
  |some g=>match yG P l with
   |some r=>some (.cell a g::r)
   |none=>none
  |none=>none
def Up:Code→Option (Nat×Array Oper×List Oper×Oper)
 |.region id ops false=>match ops.toList.reverse with
  |o::os=>match o.op with
   |.defer _=>some (id,ops,os.reverse,o)
   |_=>none
  |[]=>none
 |_=>none
def Ju:Code→Option (List Code×Nat×Array Oper×List Oper×Oper×Code)
 |.seq A c=>match Up A with
  |some (id,ops,os,o)=>some ([],id,ops,os,o,c)
  |none=>match Ju c with
   |some (l,x)=>some (A::l,x)
   |none=>none
 |_=>none
def compL(P:Program)(G:Nat→Option (List AV))(m:Nat→Bool)(n:Nat):List Code→Option AC
 |[]=>some .skip
 |A::l=>match l with
  |[]=>cO P G m n A
  |_::_=>match cO P G m n A,compL P G m n l with
   |some a,some b=>some (.seq a b)
   |_,_=>none
def PQ(P:Program)(G:Nat→Option (List AV))(m:Nat→Bool)(n:Nat)(x:List Code×Nat×Array Oper×List Oper×Oper×Code):Option (AC×List RO×RX×AC):=
 match x with
 |(A,id,ops,os,o,B)=>
  match o.op with
  |.defer c=>match c.callee with
   |.value f=>
    if o.guard.isNone&&o.dst.isNone&&c.args.isEmpty then
     match compL P G m n A,Cj P G (m id) n ops os,cO P G m n B with
     |some a,some rs,some b=>some (a,rs,cx0 G f,b)
     |_,_,_=>none
    else none
   |_=>none
  |_=>none
def TV:Op→Option Operand
 |.assign x=>some x
 |.move x=>some x
 |_=>none
def isT(x:RX)(d:Nat):Bool:=
 match x with
 |.t t=>Nat.beq t d
 |.c _=>false
def TW(G:Nat→Option (List AV))(n d:Nat):List Oper→Option (List Nat)
 |[]=>some []
 |[o]=>match TV o.op,o.dst with
  |some x,some e=>if o.guard.isNone&&decide (e<n)&&isT (cx0 G x) d then some [e] else none
  |_,_=>none
 |_=>none
def Io(P:Program)(G:Nat→Option (List AV))(f:FuncId):Option (Nat×AC×Nat×List uy×List Nat):=
 match P.funcs[f]? with
 |none=>none
 |some fn=>if fn.name == "runtime.NumGoroutine" then none else
  match fn.body with
  |some (.seq (.region _ ops false) B)=>match ops.toList with
   |o::os=>match o.op,o.dst with
    |.call c,some d=>match c.callee with
     |.builtin .recover=>if o.guard.isNone&&d<fn.ntmps then (match cO P G (fun _=>false) fn.ntmps B,yG P fn.results.toList,TW G fn.ntmps d os with
       |some b,some rs,some ms=>if fZ b then some (d,b,fn.ntmps,rs,ms) else none
       |_,_,_=>none) else none
     |_=>none
    |_,_=>none
   |[]=>none
  |_=>none
def D0(a:Env)(v:AV):List Nat→Env
 |[]=>a
 |d::l=>D0 (mE a d v) v l
def NC(P:Program)(G:Nat→Option (List AV))(muts:List Nat)(f:FuncId):Option (AC×Nat×List uy×Option (List RO×RX×AC)):=
 match P.funcs[f]? with
 |none=>none
 |some fn=>if fn.name == "runtime.NumGoroutine" then none else
  match fn.body with
  |none=>none
  |some c=>match yG P fn.results.toList with
   |none=>none
   |some rs=>match Ju c with
    |none=>match cO P G (muts.contains ·) fn.ntmps c with
     |none=>none
     |some ac=>some (ac,fn.ntmps,rs,none)
    |some x=>match PQ P G (muts.contains ·) fn.ntmps x with
     |none=>none
     |some (ac,l,y,B)=>some (ac,fn.ntmps,rs,some (l,y,B))
abbrev Out:=qh×List AObj
inductive Fra where
 |c (x:AC)
 |blk (id:Nat)
 |lp (h:LH) (x:AC) (H:List AObj)
 |df (x:RX) (B:AC)
 |dr (v:AV)
 |sc (t:AC)
 deriving Inhabited
def unw(id:Nat):List Fra→Option (List Fra)
 |[]=>none
 |.blk j::k=>if j=id then some k else unw id k
 |_::k=>unw id k
def kA:List Fra→Option AV
 |[]=>none
 |.dr v::_=>some v
 |_::k=>kA k
def D3(k:List Fra):Bool:=
 match kA k with
 |some .nilp=>true
 |_=>false
def jmp(l:Nat):List Fra→Option (List Fra)
 |[]=>none
 |.sc t::k=>match sX t l with
  |some r=>some (.c r :: .sc t::k)
  |none=>none
 |.dr _::_=>none
 |_::k=>jmp l k
def PR(n:Nat):AObj→Prop
 |.cells cs _ => ∀ c∈cs,Wk n c c
 |.map es => ∀ e∈es,Wk n e.1 e.1∧Wk n e.2 e.2
 |_=>True
def dP(H0 H:List AObj):Prop:=H0.length≤H.length∧∀ (i:Nat) (x:AObj),i<H0.length→H[i]?=some x→H0[i]?=some x∨PR H0.length x
def xr:AV→AV
 |.slice _ esz rows=>.slice .any esz rows
 |v=>v
def yH:AV→AV
 |.agg cs=>.agg (cs.map xr)
 |.tuple cs=>.tuple (cs.map xr)
 |v=>xr v
def pj(a:Env):List Nat→Env
 |[]=>.leaf
 |t::l=>mE (pj a l) t (dR a t)
def relive(h:LH)(a:Env):Env:=
 match h.live with
 |some l=>pj a l
 |none=>a
def vW:List (Nat×Nat×TypeId)→Env→List AObj→Env×List AObj
 |[],a,H=>(a,H)
 |(t,sz,e)::l,a,H=>match dR a t with
  |.slice .nil _ []=>vW l (mE a t (.slice (.own H.length) sz [])) (H++[.tok 0 e])
  |.slice .full n rows=>if E7 rows=false then vW l (mE a t (.slice (.own H.length) n rows)) (H++[.tok (rows.length*n) e]) else vW l a H
  |_=>vW l a H
def zG(a:Env)(o:RO):Option Bool:=
 match o.g with
 |none=>some true
 |some (d,w)=>match dR a d with
  |.bool b=>some (b == w)
  |.tuple _=>some false
  |_=>none
structure bc where
 P:Program
 G:Nat→Option (List AV)
 fn:FuncId→Option AFn
 orc:FuncId→List AV→List AObj→Option Out
 dfn:FuncId→Option (Nat×AFn)
 wo:FuncId→List AV→List AObj→Option (AV×List Nat):=fun _ _ _=>none
 meth:TypeId→String→Option FuncId:=fun _ _=>none
 seq:FuncId→List AV→List AObj→Option (List (List AV)×List Nat):=fun _ _ _=>none
 sar:FuncId→Nat:=fun _=>0
def Cm(E:bc)(f:FuncId)(args:List AV)(v:AV):Prop:=∀ H,cT E.P E.G f args H fun r H'=>r = .ret v∧H'=H
def vX(a:Env)(H:List AObj):uy→Option AV
 |.t n=>some (dR a n)
 |.cell x g=>nj g H (dR a x)
def uX(a:Env)(H:List AObj):List uy→Option (List AV)
 |[]=>some []
 |r::l=>match vX a H r with
  |some v=>match uX a H l with
   |some vs=>some (v::vs)
   |none=>none
  |none=>none
def FJ(a:Env)(H:List AObj)(l:List uy):Option AV:=
 match l with
 |[r]=>vX a H r
 |l=>match uX a H l with
  |some vs=>some (.tuple vs)
  |none=>none
def Uq(n:Nat)(H:List AObj)(v:AV):AV:=
 match v with
 |.rslice id off len esz room=>if n≤id then (match H[id]? with
   |some (.cells cs _)=>.slice .any esz (fI esz len (cs.drop off))
   |_=>.unk) else .rslice id off len esz room
 |.map id=>if n≤id then (match H[id]? with
   |some (.map es)=>.vmap es
   |_=>.unk) else .map id
 |.slice _ esz rows=>.slice .any esz rows
 |v=>v
def St(n:Nat)(H:List AObj)(v:AV):AV:=
 match v with
 |.tuple vs=>.tuple (vs.map (Uq n H))
 |v=>Uq n H v
def da{α β:Type}(f:α→Option β):List α→Option (List β)
 |[]=>some []
 |x::l=>match f x,da f l with
  |some y,some l'=>some (y::l')
  |_,_=>none
theorem dV{α β:Type}{f:α→Option β}:∀ {l:List α}{l':List β},da f l=some l'→l'.length=l.length∧∀ (i:Nat) (y:β),l'[i]?=some y→∃ x,l[i]?=some x∧f x=some y
 |[],l',h=>by cases h;exact ⟨rfl,fun i y h=>by simp at h⟩
 |x::l,l',h=>by
  simp only [da] at h;split at h
  ·rename_i a' l2 e1 e2
   cases h;obtain ⟨g1,g2⟩:=dV e2;refine ⟨by simp [g1],fun i av h => ?_⟩;cases i with
   |zero=>simp at h;subst h;exact ⟨x,rfl,e1⟩
   |succ i=>simp at h;simpa using g2 i av h
  ·cases h
def Tag.fzd:Tag→Tag
 |.nil=>.nil
 |.some=>.some
 |_=>.any
def fzF:Nat→Nat→List AObj→AV→Option AV
 |0,_,_,_=>none
 |k+1,n,H,v=>
  match v with
  |.rslice id off len esz room=>bif Nat.blt id n then some (.rslice id off len esz room) else (match H[id]? with
    |some (.cells cs _)=>bif Nat.ble (off+len*esz) cs.length then ((da (da (fzF k n H)) (fI esz len (cs.drop off))).map (AV.slice .any esz)) else none
    |_=>none)
  |.ptr id off=>bif Nat.blt id n then some (.ptr id off) else (match H[id]? with
    |some (.cells cs _)=>(da (fzF k n H) cs).map fun cs'=>.vptr cs.length [cs'] 0 off
    |_=>none)
  |.map id=>bif Nat.blt id n then some (.map id) else (match H[id]? with
    |some (.map es)=>(da (fun e=>(fzF k n H e.1).bind fun x=>(fzF k n H e.2).map fun y=>(x,y)) es).map .vmap
    |_=>none)
  |.slice tag esz rows=>(da (da (fzF k n H)) rows).map (AV.slice tag.fzd esz)
  |.vptr esz rows i off=>(da (da (fzF k n H)) rows).map fun r=>.vptr esz r i off
  |.vmap es=>(da (fun e=>(fzF k n H e.1).bind fun x=>(fzF k n H e.2).map fun y=>(x,y)) es).map .vmap
  |.agg cs=>(da (fzF k n H) cs).map .agg
  |.tuple cs=>(da (fzF k n H) cs).map .tuple
  |.fn f a b=>(da (fzF k n H) a).bind fun a'=>(da (fzF k n H) b).map fun b'=>.fn f a' b'
  |.iface t x=>(fzF k n H x).map (AV.iface t)
  |.sdp _ _=>none
  |v=>some v
def Fz(n:Nat)(H:List AObj)(v v':AV):Prop:=∃ k,fzF k n H v=some v'
def Bg(H0 H:List AObj)(v v':AV):Prop:=
 ∀ (K K':ak) (w w':World) (x:Value),Inv K H0 w→Inv K' H w'→K.le K'→V K' v x→∃ K2,K.le K2∧V K2 v' x∧Inv K2 (H.take H0.length) w'
def apart(T L:List Nat):Prop:=∀ x∈L,x ∉ T
def qo(n:Nat)(H:List AObj):List AObj:=H.take n++(H.drop n).map fun x=>if x.live then .dead else x
def ND(n:Nat)(H:List AObj)(v v':AV):Prop:=
 ∀ (K:ak) (w:World) (x:Value),Inv K H w→V K v x→∃ K2,K.le K2∧V K2 v' x∧Inv K2 (qo n H) w
inductive yI (p:Prop) where
 |yes (h:p)
 |no
def yI.b{p:Prop}:yI p→Bool
 |.yes _=>true
 |.no=>false
theorem yI.of{p:Prop}{s:yI p}(h:s.b=true):p:=by
 cases s with
 |yes q=>exact q
 |no=>cases h
def KpT(T:List Nat)(H H2:List AObj):Prop:=H.length≤H2.length∧∀ i,i<H.length→i ∉ T→H2[i]?=H[i]?
structure Dec where
 frz:∀ H0 H v v',yI (Bg H0 H v v')
 deep:∀ (H0 H:List AObj) (v:AV),Option {v':AV // Bg H0 H v v'}
 hand:∀ (H0 H:List AObj) (v:AV),yI (dP H0 H∧Wk H0.length v (yH v))
 back:∀ (He H:List AObj) (a:Env) (l:List Nat),yI (dP He H∧∀ t∈l,Wk He.length (dR a t) (dR a t))
 ap:∀ T L,yI (apart T L)
 wide:∀ (E:bc) (g:FuncId) (args:List AV) (H:List AObj) (v:AV) (H':List AObj),yI (H'=H∧Cm E g args v)
 same:∀ (H H':List AObj),yI (H'=H)
 keep:∀ (H H':List AObj),yI (H'.take H.length=H)
 ids:∀ (L:List Nat) (H H':List AObj),yI (∀ id∈L,id<H.length→H'[id]?=H[id]?)
 turn:∀ (H H':List AObj),Option {T:List Nat // KpT T H H'}
 fzp:∀ (n:Nat) (H:List AObj) (v:AV),Option {v':AV // ND n H v v'}
def nA(dec:Dec)(mode:RM)(H0 H:List AObj)(v:AV):Option (AV×List AObj):=
 match mode with
 |.keep=>some (v,H)
 |.frz=>match dec.frz H0 H v (St H0.length H v) with
  |.yes _=>some (St H0.length H v,H.take H0.length)
  |.no=>none
 |.deep=>match dec.deep H0 H v with
  |some x=>some (x.1,H.take H0.length)
  |none=>none
 |.drop=>match dec.hand H0 H v with
  |.yes _=>some (yH v,H.take H0.length)
  |.no=>none
def fin(dec:Dec)(fn:AFn)(H0:List AObj)(a:Env)(H:List AObj):Option Out:=
 match FJ a H fn.res with
 |some v=>match nA dec fn.mode H0 H v with
  |some (v',H')=>some (.ret v',H')
  |none=>none
 |none=>none
def Cn(dec:Dec)(fn:AFn)(H0:List AObj)(v:AV)(H:List AObj):Option Out:=
 match nA dec fn.mode H0 H v with
 |some (v',H')=>some (.panic v',H')
 |none=>none
def pn(dec:Dec)(h:LH)(He:List AObj)(a:Env)(H:List AObj):Option (Env×List AObj):=
 if h.cut then
  match h.live with
  |some l=>match dec.back He H a l with
   |.yes _=>some (pj a l,H.take He.length)
   |.no=>none
  |none=>none
 else some (relive h a,H)
def po(h:LH)(a:Env)(H:List AObj):Env×List AObj:=let r:=vW h.tks a H;(relive h r.1,r.2)
def nB(s:Bool)(c:Cl)(a:Env)(op:ROp)(T L:List Nat):Option (List Nat×List Nat):=
 match c with
 |.wide=>if s then (match xq a op with
  |some id=>some (T,id::L)
  |none=>some (T,L)) else some (T,L)
 |.keep=>match op with
  |.st _ x _=>match sb (rx a x) with
   |some id=>some (id::T,L)
   |none=>none
  |.ap _ _ _ _ _ x _=>match mI (rx a x) with
   |some id=>some (id::T,L)
   |none=>some (T,L)
  |_=>some (T,L)
 |.quiet=>if Ci op then some (T,L) else none
 |_=>some (T,L)
def FK(E:bc)(c:Cl)(g:FuncId)(args:List AV)(H:List AObj):Option (AV×List Nat):=
 match c with
 |.wide=>E.wo g args H
 |_=>none
def n8(dec:Dec)(E:bc)(c:Cl)(g:FuncId)(args:List AV)(H:List AObj)(v:AV)(H':List AObj):Bool:=
 match c with
 |.wide=>(dec.wide E g args H v H').b
 |.quiet=>(dec.same H H').b
 |.keep=>(dec.keep H H').b
 |.pure=>false
 |.turn=>false
 |.stop=>false
 |.last=>true
 |.eff=>true
def FL(dec:Dec)(c:Cl)(H H':List AObj)(T:List Nat):Option (List Nat):=
 match c with
 |.turn=>match dec.turn H H' with
  |some x=>some (x.1++T)
  |none=>none
 |.stop=>match dec.turn H H' with
  |some x=>some (x.1++T)
  |none=>none
 |_=>none
def PS(dec:Dec)(E:bc)(c:Cl)(g:FuncId)(args:List AV)(H:List AObj)(v:AV)(H':List AObj)(T:List Nat):Option (List Nat):=
 if n8 dec E c g args H v H' then some T else FL dec c H H' T
abbrev Rec:=AFn→List AObj→List Fra→Env→List AObj→Option Out
def Mu(E:bc)(x:AV)(m:String):AV:=
 match x with
 |.iface t v=>match E.meth t m with
  |some g=>.fn (.func g) [v] []
  |none=>.unk
 |_=>.unk
def zH(fn:AFn):AFn := { fn with res:=[],mode:=.keep,dfr:=some ([],.c .unk,.bad) }
def yz(a:Env):List Nat→List AV→Env
 |p::ps,v::vs=>yz (mE a p v) ps vs
 |_,_=>a
def Ov:AObj→Bool
 |.siter _ _=>true
 |_=>false
def Mv:List AObj→List AObj→Bool
 |_,[]=>true
 |[],x::l => !Ov x&&Mv [] l
 |y::h,x::l=>(!Ov x||Ov y)&&Mv h l
def pq(dec:Dec)(f:Rec)(rf:AFn)(ps:List Nat)(y:List (List RO))(z:AC)(a:Env)(L:List Nat)(H0:List AObj):List (List AV)→List AObj→Option (Option AC×List AObj)
 |[],H=>some (none,H)
 |x::xs,H=>match f rf H (y.map (fun l=>.c (.ops l))++[.c z,.dr .nilp]) (yz a ps x) H with
  |some (.ret v,H')=>match Mv H0 H',dec.ids L H0 H' with
   |true,.yes _=>match v with
    |.nilp=>pq dec f rf ps y z a L H0 xs H'
    |.int _ id=>some (some (.exit id.toNat),H')
    |.bool _=>some (some .ret,H')
    |_=>none
   |_,_=>none
  |_=>none
def mJ(E:bc)(f:Rec)(v p:AV)(H:List AObj):Option (List AObj):=
 match v with
 |.fn (.func g) first cap=>match E.dfn g with
  |some (d,fn')=>match f fn' H [.c fn'.c] (D0 (mE (env (first++cap)) d p) p fn'.muts) H with
   |some (.ret _,H')=>some H'
   |_=>none
  |none=>none
 |_=>none
def pr(dec:Dec)(E:bc)(f:Rec)(fn:AFn)(H0:List AObj)(k:List Fra)(a:Env)(H:List AObj):Option Out:=
 match fn.dfr with
 |none=>fin dec fn H0 a H
 |some _=>match kA k with
  |some .nilp=>some (.ret (.bool true),H)
  |some v=>match mJ E f v .nilif H with
   |some H'=>fin dec fn H0 a H'
   |none=>none
  |none=>fin dec fn H0 a H
def ga(dec:Dec)(E:bc)(f:Rec)(fn:AFn)(H0:List AObj)(k:List Fra)(a:Env)(p:AV)(H:List AObj):Option Out:=
 match fn.dfr with
 |none=>Cn dec fn H0 p H
 |some _=>match kA k with
  |some v=>match mJ E f v p H with
   |some H'=>fin dec fn H0 a H'
   |none=>none
  |none=>none
def Mw(dec:Dec)(c:Cl)(g:Option (Nat×Bool))(fn:AFn)(H0:List AObj)(T L:List Nat)(p:AV)(H:List AObj):Option Out:=
 match c with
 |.stop=>match g with
  |none=>match fn.dfr with
   |none=>match dec.ap T L with
    |.yes _=>Cn dec fn H0 p H
    |.no=>none
   |some _=>none
  |some _=>none
 |_=>none
def Bt(dec:Dec)(E:bc)(f:Rec)(c:Cl)(g:Option (Nat×Bool))(fn:AFn)(H0:List AObj)(k:List Fra)(a:Env)(T L:List Nat)(p:AV)(H:List AObj):Option Out:=
 match c with
 |.last=>match g with
  |none=>match dec.ap T L with
   |.yes _=>ga dec E f fn H0 k a p H
   |.no=>none
  |some _=>none
 |c=>Mw dec c g fn H0 T L p H
def fzR(dec:Dec)(t:Nat)(l:List Nat)(a:Env)(H:List AObj):Option (Env×List AObj):=
 match dR a t with
 |.ptr n _=>match dec.fzp n H (.tuple (l.map (dR a))) with
  |some ⟨.tuple vs,_⟩=>if vs.length=l.length then some (yz .leaf l vs,qo n H) else none
  |_=>none
 |_=>none
def vY(E:bc)(f:Rec)(g:FuncId)(args:List AV)(H:List AObj):Option Out:=
 match E.fn g with
 |some fn'=>match fn'.dfr with
  |none=>f fn' H [.c fn'.c] (env args) H
  |some (l,x,B)=>f fn' H [.c fn'.c,.c (.ops l),.df x B] (env args) H
 |none=>E.orc g args H
def ev(dec:Dec)(E:bc):Nat→AFn→List AObj→List Fra→Env→List AObj→Option Out
 |0,_,_,_,_,_=>none
 |n+1,fn,H0,k,a,H=>
  let rec':Rec:=fun fn H0 k a H=>ev dec E n fn H0 k a H
  match k with
  |[]=>match fn.dfr with
   |none=>fin dec fn H0 a H
   |some _=>none
  |.df x B::k=>match rx a x with
   |.fn (.func g) first cap=>if (E.dfn g).isSome then ev dec E n fn H0 (.c B :: .dr (.fn (.func g) first cap)::k) a H else none
   |_=>none
  |.dr v::k=>match v with
   |.nilp=>some (.ret .nilp,H)
   |v=>pr dec E rec' fn H0 (.dr v::k) a H
  |.blk _::k=>ev dec E n fn H0 k a H
  |.sc _::k=>ev dec E n fn H0 k a H
  |.lp h x He::k=>match pn dec h He a H with
   |some (a',H')=>ev dec E n fn H0 (.c x :: .lp h x H'::k) a' H'
   |none=>none
  |.c ac::k=>match ac with
   |.skip=>ev dec E n fn H0 k a H
   |.exit id=>match unw id k with
    |some k'=>ev dec E n fn H0 k' a H
    |none=>if D3 k=true then some (.ret (.int .i64 id),H) else none
   |.lbl _=>ev dec E n fn H0 k a H
   |.goto l=>match jmp l k with
    |some k'=>ev dec E n fn H0 k' a H
    |none=>none
   |.scope x t=>ev dec E n fn H0 (.c x :: .sc t::k) a H
   |.tab .. => none
   |.rfn x ps y z=>match rx a x,fn.dfr with
    |.fn (.func g) [] cap,none=>match E.seq g cap H with
     |some (xs,L)=>if Nat.beq (E.sar g) ps.length=true then (match pq dec rec' (zH fn) ps y z a L H xs H with
      |some (none,H')=>ev dec E n fn H0 k a H'
      |some (some j,H')=>ev dec E n fn H0 (.c j::k) a H'
      |none=>none) else none
     |none=>none
    |_,_=>none
   |.ret=>pr dec E rec' fn H0 k a H
   |.seq x y=>ev dec E n fn H0 (.c x :: .c y::k) a H
   |.lv l=>ev dec E n fn H0 k (pj a l) H
   |.fz t l=>match fzR dec t l a H with
    |some (a',H')=>ev dec E n fn H0 k a' H'
    |none=>none
   |.bad=>none
   |.cond c x y=>match rx a c with
    |.bool b=>if b=true then ev dec E n fn H0 (.c x::k) a H else ev dec E n fn H0 (.c y::k) a H
    |_=>none
   |.block id x=>ev dec E n fn H0 (.c x :: .blk id::k) a H
   |.loop h x=>ev dec E n fn H0 (.c x :: .lp h x (po h a H).2::k) (po h a H).1 (po h a H).2
   |.ops []=>ev dec E n fn H0 k a H
   |.ops (o::os)=>match zG a o with
    |none=>none
    |some false=>ev dec E n fn H0 (.c (.ops os)::k) (iz a o.d gH) H
    |some true=>match o.s with
     |.op op=>match rop a H op with
      |some (v,H')=>ev dec E n fn H0 (.c (.ops os)::k) (iz a o.d v) H'
      |none=>none
     |.call f args=>match rx a f with
      |.fn (.func g) first cap=>match vY E rec' g (first++args.map (rx a)++cap) H with
       |some (.ret v,H')=>ev dec E n fn H0 (.c (.ops os)::k) (iz a o.d v) H'
       |some (.panic v,H')=>ga dec E rec' fn H0 k a v H'
       |none=>none
      |_=>none
     |.inv x m args=>match Mu E (rx a x) m with
      |.fn (.func g) first cap=>match vY E rec' g (first++args.map (rx a)++cap) H with
       |some (.ret v,H')=>ev dec E n fn H0 (.c (.ops os)::k) (iz a o.d v) H'
       |some (.panic v,H')=>ga dec E rec' fn H0 k a v H'
       |none=>none
      |_=>none
     |.panic x=>match rx a x with
      |.iface t v=>ga dec E rec' fn H0 k a (.iface t v) H
      |_=>none
   |.dops _ T L []=>match dec.ap T L with
    |.yes _=>ev dec E n fn H0 k a H
    |.no=>none
   |.dops s T L ((o,c)::l)=>match zG a o with
    |none=>none
    |some false=>ev dec E n fn H0 (.c (.dops s T L l)::k) (iz a o.d gH) H
    |some true=>match o.s with
     |.op op=>match rop a H op with
      |some (v,H')=>match nB s c a op T L with
       |some (T',L')=>ev dec E n fn H0 (.c (.dops s T' L' l)::k) (iz a o.d v) H'
       |none=>none
      |none=>none
     |.call f args=>match rx a f with
      |.fn (.func g) first cap=>match FK E c g (first++args.map (rx a)++cap) H with
       |some (v,L1)=>ev dec E n fn H0 (.c (.dops s T (L1++L) l)::k) (iz a o.d v) H
       |none=>match vY E rec' g (first++args.map (rx a)++cap) H with
        |some (.ret v,H')=>match PS dec E c g (first++args.map (rx a)++cap) H v H' T with
         |some T'=>ev dec E n fn H0 (.c (.dops s T' L l)::k) (iz a o.d v) H'
         |none=>none
        |some (.panic p,H')=>Bt dec E rec' c o.g fn H0 k a T L p H'
        |none=>none
      |_=>none
     |.inv .. => none
     |.panic _=>none
section
variable{P:Program}{G:Nat→Option (List AV)}{K:ak}{N:Fr}{a:Env}{H:List AObj}{act:Act}{w:World}
theorem C5{dst:Option Nat}{u:AV}{x:RX}(h:∀ d,dst=some d→d ∉ x.uses):rx (iz a dst u) x=rx a x:=by
 cases dst with
 |none=>rfl
 |some d=>
  cases x with
  |t n=>
   simp only [rx,iz,jV];rw [if_neg (fun e=>h d rfl (by rw [e];simp [RX.uses]))]
  |c v=>rfl
theorem Su{dst:Option Nat}{u:AV}{x:Option RX}(h:∀ d,dst=some d→d ∉ Ch x):x.map (rx (iz a dst u))=x.map (rx a):=by
 cases x with
 |none=>rfl
 |some x=>simp only [Option.map_some];rw [C5 h]
theorem Co{dst:Option Nat}{u:AV}:∀ {l:List RX} (_:∀ d,dst=some d→d ∉ DX l),l.map (rx (iz a dst u))=l.map (rx a)
 |[],_=>rfl
 |x::l,h=>by
  rw [List.map_cons,List.map_cons,C5 fun d hd hm=>h d hd (by simp [DX,hm]),Co fun d hd hm=>h d hd (by simp [DX,hm])]
theorem Cp{dst:Option Nat}{u:AV}:∀ {l:List (Nat×RX)} (_:∀ d,dst=some d→d ∉ DY l),(l.map fun p=>(p.1,rx (iz a dst u) p.2))=l.map fun p=>(p.1,rx a p.2)
 |[],_=>rfl
 |x::l,h=>by
  rw [List.map_cons,List.map_cons,C5 fun d hd hm=>h d hd (by simp [DY,hm]),Cp fun d hd hm=>h d hd (by simp [DY,hm])]
theorem Sv{dst:Option Nat}{u:AV}{o:ROp}(h:∀ d,dst=some d→d ∉ o.uses):rop (iz a dst u) H o=rop a H o:=by
 have one:∀ x:RX,(∀ t,t∈x.uses→t∈o.uses)→rx (iz a dst u) x=rx a x:=fun x hx=>C5 fun d hd hm=>h d hd (hx d hm)
 have opt:∀ x:Option RX,(∀ t,t∈Ch x→t∈o.uses)→x.map (rx (iz a dst u))=x.map (rx a):=fun x hx=>Su fun d hd hm=>h d hd (hx d hm)
 cases o<;>simp only [rop]
 case pk c x y=>rw [one c (by simp +contextual [ROp.uses]),one x (by simp +contextual [ROp.uses]),one y (by simp +contextual [ROp.uses])]
 case bd z pl ps=>rw [Cp fun d hd hm=>h d hd (by simpa [ROp.uses] using hm)]
 case bs sz z len ps=>rw [Cp fun d hd hm=>h d hd (by simpa [ROp.uses] using hm)]
 case bm e sz z len ps=>rw [Cp fun d hd hm=>h d hd (by simpa [ROp.uses] using hm)]
 case ba sz z ps=>rw [Cp fun d hd hm=>h d hd (by simpa [ROp.uses] using hm)]
 case mf f xs ys=>rw [Co fun d hd hm=>h d hd (by simp [ROp.uses,hm]),Co fun d hd hm=>h d hd (by simp [ROp.uses,hm])]
 case sls x l hh=>rw [one x (by simp +contextual [ROp.uses]),opt l (by simp +contextual [ROp.uses]),opt hh (by simp +contextual [ROp.uses])]
 case sla n sz x l hh=>rw [one x (by simp +contextual [ROp.uses]),opt l (by simp +contextual [ROp.uses]),opt hh (by simp +contextual [ROp.uses])]
 case sll sz x l hh m=>rw [one x (by simp +contextual [ROp.uses]),opt l (by simp +contextual [ROp.uses]),opt hh (by simp +contextual [ROp.uses]),opt m (by simp +contextual [ROp.uses])]
 case mu kk m k v=>rw [one m (by simp +contextual [ROp.uses]),one k (by simp +contextual [ROp.uses]),one v (by simp +contextual [ROp.uses])]
 all_goals first
  |rfl
  |(rename_i x;rw [one x (by simp +contextual [ROp.uses])];done)
  |(rename_i x _;rw [one x (by simp +contextual [ROp.uses])];done)
  |(rename_i x y;rw [one x (by simp +contextual [ROp.uses]),one y (by simp +contextual [ROp.uses])];done)
theorem PT{o:ROp}(hp:KJ o=true){v:AV}{H':List AObj}(h:rop a H o=some (v,H')):H'=H∧∀ H3,rop a H3 o=some (v,H3):=by
 have on:∀ {x:Option AV},bH H x=some (v,H')→H'=H∧∀ H3,bH H3 x=some (v,H3):=fun {x} h=>by
  obtain ⟨h1,h2⟩:=aR h;exact ⟨h2,fun H3=>by rw [h1];rfl⟩
 cases o<;>simp only [KJ] at hp<;>(try (cases hp;done))<;>simp only [rop] at h ⊢ <;> first
  |exact on h
  |(cases h;exact ⟨rfl,fun _=>rfl⟩)
  |(split at h<;>first | (cases h;done) | (rename_i he;cases h;exact ⟨rfl,fun _=>by first | rfl | rw [he]⟩))
theorem FM{o:ROp}(hp:Ci o=true){v:AV}{H':List AObj}(h:rop a H o=some (v,H')) :
  H'=H∧∀ H2,(∀ id,xq a o=some id→id<H.length→H2[id]?=H[id]?)→rop a H2 o=some (v,H2):=by
 have on:∀ {x:Option AV}{y:List AObj→Option AV},bH H x=some (v,H')→(∀ H2,(∀ id,xq a o=some id→id<H.length→H2[id]?=H[id]?)→x=some v→y H2=some v) →
   H'=H∧∀ H2,(∀ id,xq a o=some id→id<H.length→H2[id]?=H[id]?)→bH H2 (y H2)=some (v,H2):=fun {x y} h hy=>by
  obtain ⟨h1,h2⟩:=aR h;exact ⟨h2,fun H2 hh=>by rw [hy H2 hh h1];rfl⟩
 have lt:∀ {id:Nat}{x:AObj},H[id]?=some x→id<H.length:=fun h=>(List.getElem?_eq_some_iff.1 h).1
 cases o<;>simp only [Ci] at hp<;>(try (cases hp;done))<;>simp only [rop] at h ⊢
 case ld g x=>
  refine on (y:=fun H2=>nj g H2 (rx a x)) h fun H2 hh hx => ?_
  simp only [xq] at hh;unfold nj at hx ⊢;split at hx
  ·rename_i id off he
   rw [he] at hh;try rw [he]
   split at hx
   ·rename_i cs T hc
    simp only [hh id rfl (lt hc),hc];exact hx
   ·cases hx
  ·rename_i he;first | exact hx | (rw [he];exact hx)
  ·cases hx
 case lk kk z ok x k=>
  refine on (y:=fun H2=>rlk H2 kk z ok (rx a x) (rx a k)) h fun H2 hh hx => ?_
  simp only [xq] at hh;unfold rlk at hx ⊢;split at hx
  ·rename_i es hes
   have:Bo H2 (rx a x)=some es:=by
    unfold Bo at hes ⊢;split at hes
    ·rename_i he;first | exact hes | (rw [he];exact hes)
    ·rename_i he;first | exact hes | (rw [he];exact hes)
    ·rename_i id he
     rw [he] at hh;try rw [he]
     split at hes
     ·rename_i es' hc;simp only [hh id rfl (lt hc),hc];exact hes
     ·cases hes
    ·cases hes
   rw [this];exact hx
  ·cases hx
 case len k x=>
  refine on (y:=fun H2=>Bq H2 k (rx a x)) h fun H2 hh hx => ?_
  simp only [xq] at hh;unfold Bq at hx ⊢;split at hx<;>rename_i he<;>(try (cases hx;done))<;>(try (first | exact hx | (rw [he];exact hx)))
  rename_i id;rw [he] at hh;try rw [he]
  split at hx
  ·rename_i es hc;simp only [hh _ rfl (lt hc),hc];exact hx
  ·cases hx
 case cvbs x=>
  refine on (y:=fun H2=>KA H2 (rx a x)) h fun H2 hh hx => ?_
  simp only [xq] at hh;unfold KA at hx ⊢;split at hx
  ·rename_i he;first | exact hx | (rw [he];exact hx)
  ·rename_i id off len room he
   rw [he] at hh;try rw [he]
   split at hx
   ·rename_i cs T hc
    simp only [hh id rfl (lt hc),hc];exact hx
   ·cases hx
  ·cases hx
theorem Jv{H H':List AObj}{e:TypeId}{sz bytes:Nat}{str:Bool}{s x v:AV}(h:zC H e sz bytes str s x=some (v,H')) :
  (∃ L,H'=H++L)∨∃ id o,mI s=some id∧H'=H.set id o:=by
 unfold zC at h;split at h
 ·split at h
  ·split at h
   ·split at h
    ·cases h;exact .inl ⟨[],by simp⟩
    ·split at h
     ·cases h
     ·cases h
     ·cases h;exact .inl ⟨_,rfl⟩
     ·cases h;exact .inl ⟨_,rfl⟩
     ·split at h
      ·split at h
       ·cases h;exact .inr ⟨_,_,rfl,rfl⟩
       ·cases h
      ·cases h
   ·cases h
  ·cases h
 ·cases h
theorem Jw{m:Bool}{e:TypeId}{sz bytes:Nat}{str:Bool}{x y:RX}(h:KK (.ap m e sz bytes str x y)=true):m=false∧∃ n r,x = .c (.slice .nil n r):=by
 cases m<;>cases x<;>(try (simp [KK] at h;done))
 rename_i v;cases v<;>(try (simp [KK] at h;done))
 rename_i tag n r;cases tag<;>(try (simp [KK] at h;done))
 exact ⟨rfl,_,_,rfl⟩
theorem Sw{o:ROp}(hp:KK o=true){v:AV}{H':List AObj}(h:rop a H o=some (v,H')):∃ L,H'=H++L:=by
 have hp0:=hp;cases o<;>simp only [KK] at hp<;>(try (cases hp;done))<;>simp only [rop] at h
 case nw=>cases h;exact ⟨_,rfl⟩
 case nwb=>cases h;exact ⟨_,rfl⟩
 case bx=>
  split at h
  ·cases h;exact ⟨_,rfl⟩
  ·cases h
 case mm=>cases h;exact ⟨_,rfl⟩
 case bm=>
  unfold rbm at h;split at h
  ·cases h;exact ⟨_,rfl⟩
  ·cases h
 case ms=>
  unfold rms at h;split at h
  ·split at h
   ·cases h;exact ⟨_,rfl⟩
   ·cases h
  ·cases h
 case apz=>
  unfold PM at h;split at h
  ·split at h
   ·cases h;exact ⟨[],by simp⟩
   ·split at h
    ·cases h;exact ⟨_,rfl⟩
    ·cases h
  ·cases h
 case ap m e sz bytes str x y=>
  obtain ⟨rfl,n,r,rfl⟩:=Jw hp0;have h:zC H e sz bytes str (.slice .nil n r) (rx a y)=some (v,H'):=h;rcases Jv h with h | ⟨id,o,h1,_⟩
  ·exact h
  ·simp [mI] at h1
theorem FN{H H':List AObj}{e:TypeId}{sz bytes:Nat}{str:Bool}{s x v:AV}(h:Cd H e sz bytes str s x=some (v,H')) :
  (∃ L,H'=H++L)∨∃ id o L,mI s=some id∧H'=H.set id o++L:=by
 unfold Cd at h;split at h
 ·split at h
  ·split at h
   ·split at h
    ·cases h;exact .inl ⟨_,rfl⟩
    ·split at h
     ·cases h;exact .inl ⟨[],by simp⟩
     ·cases h
   ·split at h
    ·split at h
     ·cases h;exact .inr ⟨_,_,_,rfl,rfl⟩
     ·cases h
    ·cases h
   ·cases h
  ·cases h
 ·cases h
theorem Ur{m:Bool}{H H':List AObj}{e:TypeId}{sz bytes:Nat}{str:Bool}{s x v:AV}(h:rap m H e sz bytes str s x=some (v,H')) :
  (∃ L,H'=H++L)∨∃ id o L,mI s=some id∧H'=H.set id o++L:=by
 unfold rap at h;split at h
 ·rename_i id esz
  split at h
  ·rename_i cs T hc
   rcases Jv h with ⟨L,rfl⟩ | ⟨id',o,h1,rfl⟩
   ·exact .inr ⟨_,_,L,rfl,rfl⟩
   ·simp only [mI,Option.some.injEq] at h1
    subst h1;refine .inr ⟨_,o,[],rfl,by rw [List.set_set];simp⟩
  ·cases h
 ·exact FN h
 ·rcases FN h with h | ⟨_,_,_,h1,_⟩
  ·exact .inl h
  ·simp [mI] at h1
 ·rcases FN h with h | ⟨_,_,_,h1,_⟩
  ·exact .inl h
  ·simp [mI] at h1
 ·rcases Jv h with h | ⟨id,o,h1,rfl⟩
  ·exact .inl h
  ·exact .inr ⟨id,o,[],h1,by simp⟩
theorem Us{sz:Nat}{x y:RX}{v:AV}{H':List AObj}(h:rop a H (.st sz x y)=some (v,H')):∃ id o,sb (rx a x)=some id∧H'=H.set id o:=by
 obtain ⟨h,_⟩:=tL h;unfold C3 at h;split at h
 ·rename_i id off cs e1 e2
  split at h
  ·split at h
   ·cases h;exact ⟨id,_,by rw [e1];rfl,rfl⟩
   ·cases h
  ·cases h
 ·cases h
theorem NF{ops:Array Oper}{o:Oper}{d:Option Nat}{g:Option (Nat×Bool)}{s:RS}(h:Jp ops o=some g):zG a ⟨d,g,s⟩=ky ops a o:=by
 unfold Jp at h;unfold zG ky;split at h
 ·rename_i hg;cases h;rw [hg]
 ·rename_i j b hg
  rw [hg];split at h
  ·rename_i t ht
   cases h;simp only [ht];rfl
  ·cases h
theorem FO(hg:K.glob=G)(hr:Rel N K a H act w):∀ (xs:List Operand) (ts:List TypeId),Vs K ((ph P G xs ts).map (rx a)) (xs.map act.eval).toArray
 |[],_=>⟨rfl,by simp [ph]⟩
 |x::xs,[]=>by
  have ih:=FO hg hr xs []
  have h1:Vs K [rx a (cx0 G x)] #[act.eval x]:=⟨rfl,fun i av hi=>by
   cases i with
   |zero=>simp at hi;subst hi;simpa using jX hg hr x
   |succ i=>simp at hi⟩
  have:=h1.append ih;simpa [ph] using this
 |x::xs,t::ts=>by
  have ih:=FO hg hr xs ts
  have h1:Vs K [rx a (cx P G t x)] #[act.eval x]:=⟨rfl,fun i av hi=>by
   cases i with
   |zero=>simp at hi;subst hi;simpa using KD hg hr t x
   |succ i=>simp at hi⟩
  have:=h1.append ih;simpa [ph] using this
theorem Ip(hg:K.glob=G)(hr:Rel N K a H act w)(xs:Array Operand)(ts:List TypeId):Vs K ((ph P G xs.toList ts).map (rx a)) (xs.map act.eval):=by
 have:=FO (P:=P) hg hr xs.toList ts
 have e:(xs.toList.map act.eval).toArray=xs.map act.eval:=by
  apply Array.ext';simp
 rwa [e] at this
theorem Inv.cut{K':ak}{H':List AObj}{w':World}(hi:Inv K H w)(hi':Inv K' H' w')(hk:K.le K')(hc:dP H H') :
  Inv (K'.trunc H.length) (H'.take H.length) w'∧K.le (K'.trunc H.length):=by
 have hn:H.length≤K'.loc.length:=by rw [hi'.len];exact hc.1
 constructor
 ·refine hi'.trunc H.length (fun i cs T0 hlt hcs j av v hj hv => ?_) (fun i es hlt hes j x y v hj => ?_) (fun g cs hg=>(hi.glob g cs (by rw [← hk.glob];exact hg)).trunc hi.len (hi'.glob g cs hg))
  ·rcases hc.2 i _ hlt hcs with h | h
   ·obtain ⟨b,vs,T,h1,h2,h3,h4,h5,_⟩:=hi.obj i _ h
    exact (h5 j av hj).trunc hi.len hv
   ·exact h av (List.mem_of_getElem? hj) K' v hn hv
  ·rcases hc.2 i _ hlt hes with h | h
   ·obtain ⟨b,me,cl,h1,h2,h3,h4,h5,_⟩:=hi.obj i _ h
    obtain ⟨e,_,h6,h7⟩:=h5 j x y hj;exact ⟨fun hv=>h6.trunc hi.len hv,fun hv=>h7.trunc hi.len hv⟩
   ·have:=h _ (List.mem_of_getElem? hj)
    exact ⟨fun hv=>this.1 K' v hn hv,fun hv=>this.2 K' v hn hv⟩
 ·rw [← hi.len];exact ak.le_trunc hk hi.own_tok
theorem D4{dec:Dec}{mode:RM}{K':ak}{H' H'':List AObj}{w':World}{v v':AV}{cv:Value}(hi:Inv K H w)(hi':Inv K' H' w')(hk:K.le K')(hv:V K' v cv)
  (h:nA dec mode H H' v=some (v',H'')):∃ K2,K.le K2∧V K2 v' cv∧Inv K2 H'' w':=by
 unfold nA at h;split at h
 ·cases h;exact ⟨K',hk,hv,hi'⟩
 ·split at h
  ·rename_i hd _
   cases h;exact hd K K' w w' cv hi hi' hk hv
  ·cases h
 ·split at h
  ·rename_i x _
   cases h;exact x.2 K K' w w' cv hi hi' hk hv
  ·cases h
 ·split at h
  ·rename_i hd _
   cases h;obtain ⟨h1,h2⟩:=hi.cut hi' hk hd.1;exact ⟨_,h2,hd.2 K' cv (by rw [hi'.len];exact hd.1.1) hv,h1⟩
  ·cases h
theorem PU{r:ResultVar}{q:uy}(h:yG P [r]=some [q]):vX a H q=n7 P a H r:=by
 cases r with
 |tmp t=>simp [yG] at h;subst h;rfl
 |cell x t=>
  simp only [yG] at h;split at h
  ·rename_i g hgt
   cases h;simp only [vX,n7,zD hgt]
  ·cases h
theorem FP:∀ {l:List ResultVar}{q:List uy},yG P l=some q→uX a H q=l.mapM (n7 P a H)
 |[],q,h=>by cases h;rfl
 |.tmp t::l,q,h=>by
  simp only [yG] at h;split at h
  ·rename_i r hr
   cases h;rw [List.mapM_cons,uX,← FP hr];simp only [vX,n7];cases uX a H r<;>rfl
  ·cases h
 |.cell x t::l,q,h=>by
  simp only [yG] at h;split at h
  ·rename_i g hgt
   split at h
   ·rename_i r hr
    cases h;rw [List.mapM_cons,uX,← FP hr];simp only [vX,n7,zD hgt];cases nj g H (dR a x)<;>cases uX a H r<;>rfl
   ·cases h
  ·cases h
theorem cRes_length:∀ {l:List ResultVar}{q:List uy},yG P l=some q→q.length=l.length
 |[],q,h=>by cases h;rfl
 |.tmp t::l,q,h=>by
  simp only [yG] at h;split at h
  ·rename_i r hr;cases h;simp [cRes_length hr]
  ·cases h
 |.cell x t::l,q,h=>by
  simp only [yG] at h;split at h
  ·split at h
   ·rename_i r hr;cases h;simp [cRes_length hr]
   ·cases h
  ·cases h
theorem Mx{fn:Func}{q:List uy}{v:AV}(hq:yG P fn.results.toList=some q)(h:FJ a H q=some v):So P fn a H=some v:=by
 have hl:=cRes_length hq;unfold So;simp only;split
 ·rename_i r hr
  rw [hr] at hq hl
  obtain ⟨q1,rfl⟩:∃ q1,q=[q1]:=by
   match q,hl with
   |[q1],_=>exact ⟨q1,rfl⟩
  have:=PU (a:=a) (H:=H) hq;simp only [FJ] at h;rw [this] at h;rw [← h];cases r<;>rfl
 ·rename_i hr
  have hne:∀ q1,q≠[q1]:=fun q1 e=>by
   rw [e] at hl
   match hh:fn.results.toList,hl with
   |[r],_=>exact hr r hh
  have h2:(match uX a H q with | some vs=>some (AV.tuple vs) | none=>none)=some v:=by
   unfold FJ at h;split at h
   ·rename_i q1;exact absurd rfl (hne q1)
   ·exact h
  rw [FP hq] at h2;change Option.map AV.tuple (fn.results.toList.mapM (n7 P a H))=some v;cases hm:fn.results.toList.mapM (n7 P a H) with
  |none=>rw [hm] at h2;cases h2
  |some vs=>rw [hm] at h2;exact h2
end
def NG:AV→Bool
 |.bool _ | .int _ _ | .str _=>true
 |_=>false
def My:AV→Bool
 |.agg cs=>cs.all NG
 |v=>NG v
def KM:AV→Value
 |.bool b=>.bool b
 |.int k n=>.int k n
 |.str s=>.string ⟨s.toArray⟩
 |_=>undef
def Cq:AV→Value
 |.agg cs=>.agg (cs.map KM).toArray
 |v=>KM v
theorem Sx{K:ak}{v:AV}(h:NG v=true):V K v (KM v):=by
 cases v<;>first | (cases h;done) | exact .bool _ | exact .int _ _ | exact .str _
theorem Ut{K:ak}{v:AV}(h:My v=true):V K v (Cq v):=by
 cases v<;>first | (cases h;done) | exact .bool _ | exact .int _ _ | exact .str _ | skip
 rename_i cs;refine .agg cs _ (by simp) fun i av hi => ?_
 have hc:NG av=true:=List.all_eq_true.1 h av (List.mem_of_getElem? hi)
 have:(cs.map KM).toArray.getD i undef=KM av:=by simp [Array.getD_eq_getD_getElem?,hi]
 rw [this];exact Sx hc
def NH(B:Nat)(W W':World):Prop:=∀ b s p,B≤b→W.heap[b]?=some (.stringIter s p)→W'.heap[b]?=some (.stringIter s p)
def PV(B:Nat)(W:World)(row:Option Nat):Prop:=∀ r,row=some r→B≤r∧∃ o,W.heap[r]?=some o∧sW o=true
def Stb(B:Nat)(J:World→Prop):Prop:=∀ W W' row,J W→W.grownBy W' row→PV B W row→J W'
def VS(K:ak)(H:List AObj)(L:List Nat)(W':World):Prop:=∃ K' H',K.le K'∧Inv K' H' W'∧∀ id∈L,id<H.length→H'[id]?=H[id]?
def Wz(P:Program)(g:FuncId)(lb:Array Value)(xs:List (Array Value))(L:List Nat)(K:ak)(H:List AObj):Prop:=
 ∀ (l:Nat) (W:World) (J:Nat→World→Prop) (Jx:World→Prop),Inv K H W→(∀ i,Stb W.heap.size (J i))→Stb W.heap.size Jx→(∀ i W1,J i W1→W.heap.size≤W1.heap.size) →
  (∀ i x W1,xs[i]?=some x→J i W1→YieldAt Fence.wide 0 P l x W1 fun e W'=>(e = .returned (.bool true)∧J (i+1) W'∧NH W.heap.size W1 W'∧VS K H L W')∨(e = .returned (.bool false)∧Jx W')) →
  J 0 W→CallsIn Fence.wide 0 P g (#[.func (.yield l) #[] #[]]++lb) W fun e W'=>(∃ v,e = .returned v)∧(J xs.length W'∨Jx W')
structure bc.Ok (E:bc):Prop where
 mixed:E.P.follows .mixedOrders=true
 fn:∀ f af,E.fn f=some af→NC E.P E.G af.muts f=some (af.c.strip,af.n,af.res,af.dfr.map fun x=>(x.1,x.2.1,x.2.2.strip))
 dfn:∀ f d af,E.dfn f=some (d,af)→Io E.P E.G f=some (d,af.c.strip,af.n,af.res,af.muts)∧af.dfr=none
 wo:∀ f args H v L,E.wo f args H=some (v,L)→∀ H2:List AObj,(∀ id∈L,id<H.length→H2[id]?=H[id]?)→cT E.P E.G f args H2 fun r H'=>r = .ret v∧H'=H2
 orc:∀ f args H r H',E.orc f args H=some (r,H')→cT E.P E.G f args H fun r2 H2=>r2=r∧H2=H'
 meth:∀ t m g,E.meth t m=some g→∀ (v:Value) (w:World),(method (E.P.types.size+Made.depth) t v m).run E.P w = .ok (g,v) w
 seq:∀ g cap H xs L,E.seq g cap H=some (xs,L)→(∀ x∈xs,x.length=E.sar g∧∀ v∈x,My v=true)∧(∀ args w,(callFunc g args).run E.P w = .ok (.enter g args) w) ∧
  ∀ K w lb,K.glob=E.G→Inv K H w→Vs K cap lb→Wz E.P g lb (xs.map fun x=>(x.map Cq).toArray) L K H
theorem bc.ok5{E:bc}(mixed:E.P.follows .mixedOrders=true)(fn:∀ f af,E.fn f=some af→NC E.P E.G af.muts f=some (af.c.strip,af.n,af.res,af.dfr.map fun x=>(x.1,x.2.1,x.2.2.strip)))
  (dfn:∀ f d af,E.dfn f=some (d,af)→Io E.P E.G f=some (d,af.c.strip,af.n,af.res,af.muts)∧af.dfr=none)
  (wo:∀ f args H v L,E.wo f args H=some (v,L)→∀ H2:List AObj,(∀ id∈L,id<H.length→H2[id]?=H[id]?)→cT E.P E.G f args H2 fun r H'=>r = .ret v∧H'=H2)
  (orc:∀ f args H r H',E.orc f args H=some (r,H')→cT E.P E.G f args H fun r2 H2=>r2=r∧H2=H') (hm:E.meth=fun _ _=>none:=by rfl) (hs:E.seq=fun _ _ _=>none:=by rfl):E.Ok:=
 ⟨mixed,fn,dfn,wo,orc,fun t m g h=>(by rw [hm] at h;cases h),fun g cap H xs L h=>(by rw [hs] at h;cases h)⟩
section
variable(dec:Dec)(E:bc)
def zI(n:Nat)(g:FuncId)(args:List AV)(H:List AObj):Option Out:=vY E (ev dec E n) g args H
def evX(m:Nat)(fn:AFn)(H0:List AObj)(x:iv)(k:List Fra)(a:Env)(H:List AObj):Option Out:=
 match x with
 |.normal=>ev dec E m fn H0 k a H
 |.exit id=>match unw id k with
  |some k'=>ev dec E m fn H0 k' a H
  |none=>if D3 k=true then some (.ret (.int .i64 id),H) else none
 |.ret=>pr dec E (ev dec E m) fn H0 k a H
 |.panic v=>ga dec E (ev dec E m) fn H0 k a v H
 |.goto l=>match jmp l k with
  |some k'=>ev dec E m fn H0 k' a H
  |none=>none
def HD(n:Nat)(fn:AFn)(H0:List AObj)(k:List Fra)(r:Out):iv→Env→List AObj→Prop:=fun x a H => ∃ m,m<n∧evX dec E m fn H0 x k a H=some r
end
section
variable{P:Program}{G:Nat→Option (List AV)}{K:ak}{N:Fr}{a:Env}{H:List AObj}{act:Act}{w:World}
theorem Sy{c:Code}{Q:iv→Env→List AObj→Prop}{a':Env}{H':List AObj}(hp:∀ K act w,Rel N K a H act w→∃ K',K.le K'∧Rel N K' a' H' act w)(h:AWP P G N c Q a' H'):AWP P G N c Q a H:=fun K act w hg hr=>by
 obtain ⟨K',hk,hr'⟩:=hp K act w hr;exact wpIn_mono (h K' act w (hk.glob.trans hg) hr') fun _ _ _ hl=>hl.mono hk fun _ _ _ q=>q
def PW(N:Fr)(H:List AObj)(a':Env)(H':List AObj)(a2:Env)(H2:List AObj):Prop:=
 ∀ K K' act w0 w,Inv K H w0→K.le K'→Rel N K' a' H' act w→∃ K2,K.le K2∧Rel N K2 a2 H2 act w
theorem Jy{c:Code}{Q:iv→Env→List AObj→Prop}(I:Nat→Env→List AObj→Prop)(n₀:Nat)(h₀:I n₀ a H)
  (round:∀ n a H,I n a H→AWP P G N c (iv.then (fun a' H' => ∃ n' a2 H2,n'<n∧I n' a2 H2∧PW N H a' H' a2 H2) Q) a H):AWP P G N (.loop c) Q a H:=fun K act w hg hr=>by
 refine wpIn_loop_ghost (fun n act w => ∃ K' a' H',K.le K'∧Rel N K' a' H' act w∧I n a' H') n₀ ⟨K,a,H,.refl K,hr,h₀⟩ ?_;rintro n act w ⟨K',a',H',hk,hr',hI⟩;refine wpIn_mono (round n a' H' hI K' act w (hk.glob.trans hg) hr') fun e act' w' hl => ?_
 have h2:=Ia (nx:=fun act w => ∃ n',n'<n∧∃ K' a' H',K.le K'∧Rel N K' a' H' act w∧I n' a' H') hl fun K2 a2 H2 hk2 hr2 ⟨n',a3,H3,hlt,hI',hs⟩=>by
  obtain ⟨K3,hk3,hr3⟩:=hs K' K2 act' w w' hr'.inv hk2 hr2;exact ⟨n',hlt,K3,a3,H3,hk.trans hk3,hr3,hI'⟩
 cases e with
 |normal=>exact h2
 |exit id=>exact h2.mono hk fun _ _ _ q=>q
 |goto id=>exact h2.mono hk fun _ _ _ q=>q
 |ret=>exact h2.mono hk fun _ _ _ q=>q
 |panic ch=>exact h2.mono hk fun _ _ _ q=>q
 |outgrown=>exact h2.mono hk fun _ _ _ q=>q
theorem Bu:∀ (l:List Nat) (a:Env) (t:Nat),dR (pj a l) t=if t∈l then dR a t else .unk
 |[],a,t=>by simp [pj,CV]
 |x::l,a,t=>by
  rw [pj,jV,Bu l]
  by_cases h:t=x
  ·subst h;simp
  ·simp [h]
theorem Rel.keep(hr:Rel N K a H act w)(l:List Nat):Rel N K (pj a l) H act w:=
 ⟨hr.inv,hr.defers,hr.size,fun t=>by
  rw [Bu];split
  ·exact hr.tmps t
  ·exact .unk _⟩
theorem Rel.relive(hr:Rel N K a H act w)(h:LH):Rel N K (relive h a) H act w:=by
 unfold Am.relive;split
 ·exact hr.keep _
 ·exact hr
theorem tM:∀ (l:List (Nat×Nat×TypeId)) (a:Env) (H:List AObj) (K:ak),Rel N K a H act w→∃ K',K.le K'∧Rel N K' (vW l a H).1 (vW l a H).2 act w
 |[],a,H,K,hr=>⟨K,.refl K,hr⟩
 |(t,sz,e)::l,a,H,K,hr=>by
  have hle:=K.le_push 0;have hlen:H.length<(K.push 0).loc.length:=by simp [ak.push,ak.pushS,hr.inv.len]
  have set:∀ (v:AV) (n:Nat),V (K.push 0) v (act.tmps.getD t undef)→Rel N (K.push 0) (mE a t v) (H++[.tok n e]) act w:=fun v n hv=>
   ⟨hr.inv.tok n e,hr.defers.mono hle,hr.size,fun t'=>by
    rw [jV];split
    ·rename_i e;rw [e];exact hv
    ·exact (hr.tmps t').mono hle⟩
  have ht:=hr.tmps t;rw [vW];split
  ·rename_i esz he
   rw [he] at ht
   have hv:V (K.push 0) (.slice (.own H.length) sz []) (act.tmps.getD t undef):=by
    generalize act.tmps.getD t undef=x at ht;cases ht with
    |sliceAny _ _ _ _ e=>simp at e
    |slice0 _ _ a ht=>exact .slice0 _ _ a ⟨fun t e=>(by cases e;exact ⟨hlen,ht.2.1 rfl⟩),fun e=>(by cases e),fun e=>(by cases e)⟩
    |slice _ _ _ b o cap vs hl hi hv hc ht=>exact (ht:False).elim
   obtain ⟨K',hk,h⟩:=tM l _ _ _ (set _ 0 hv);exact ⟨K',hle.trans hk,h⟩
  ·rename_i n rows he
   split
   ·rename_i hint
    rw [he] at ht
    have hv:V (K.push 0) (.slice (.own H.length) n rows) (act.tmps.getD t undef):=by
     generalize act.tmps.getD t undef=x at ht;have ht2:=ht.mono hle;clear ht;cases ht2 with
     |sliceAny _ _ _ _ e=>simp at e
     |slice0 _ _ a ht=>cases hint
     |slice _ _ _ b o cap vs hl hi hv hc ht=>exact .slice _ _ _ b o cap vs hl hi hv hc ⟨hlen,.inl ⟨ht,hint⟩⟩
    obtain ⟨K',hk,h⟩:=tM l _ _ _ (set _ _ hv);exact ⟨K',hle.trans hk,h⟩
   ·exact tM l a H K hr
  ·exact tM l a H K hr
theorem Jz(h:LH)(hr:Rel N K a H act w):∃ K',K.le K'∧Rel N K' (po h a H).1 (po h a H).2 act w:=by
 obtain ⟨K',hk,h2⟩:=tM h.tks a H K hr;exact ⟨K',hk,h2.relive h⟩
theorem FQ{dec:Dec}{h:LH}{He H':List AObj}{a' a2:Env}{H2:List AObj}(hb:pn dec h He a' H'=some (a2,H2)):PW N He a' H' a2 H2:=by
 intro K K' act w0 w hi hk hr;unfold pn at hb;split at hb
 ·split at hb
  ·rename_i l hl
   split at hb
   ·rename_i hd _
    cases hb;obtain ⟨h1,h2⟩:=hi.cut hr.inv hk hd.1;refine ⟨_,h2,h1,(hr.defers:xg N K' act.defers),hr.size,fun t => ?_⟩;rw [Bu];split
    ·rename_i ht
     exact hd.2 t ht K' _ (by rw [hr.inv.len];exact hd.1.1) (hr.tmps t)
    ·exact .unk _
   ·cases hb
  ·cases hb
 ·cases hb
  exact ⟨K',hk,hr.relive h⟩
theorem pw {f:FuncId}{fn:Func} (hf:P.funcs[f]?=some fn) (h1:(fn.name == "runtime.NumGoroutine")=false) (h2:fn.body.isSome=true) (cargs:Array Value) (w:World) :
  (callFunc f cargs).run P w = .ok (.enter f cargs) w:=by
 have h3:fn.body≠none:=by intro e;rw [e] at h2;cases h2
 have h4:fn.name≠"runtime.NumGoroutine" := by simpa using h1
 simp [callFunc,hf,h4,h3]
end
section
variable{dec:Dec}{E:bc}
def Bh(dec:Dec)(E:bc)(n:Nat):Prop:=
 ∀ (fn:AFn) (H0:List AObj) (ac:AC) (k:List Fra) (a:Env) (H:List AObj) (r:Out),ev dec E n fn H0 (.c ac::k) a H=some r →
  ∀ (N:Fr) (m:Nat→Bool) (nt:Nat) (c:Code),(fn.dfr=none→(N.rd=none∧N.mks=true)∨fZ ac=true)→nt≤N.n→cO E.P E.G m nt c=some ac.strip→AWP E.P E.G N c (HD dec E n fn H0 k r) a H
theorem vZ{fn':AFn}{fnc:Func}{rs:List uy}(h3:rs=fn'.res)(hrs:yG E.P fnc.results.toList=some rs){N:Fr}{K K':ak}{H H2:List AObj}{w w':World}{a':Env}{act:Act}{r:qh}{H':List AObj}
  (hi:Inv K H w) (hk:K.le K') (hr:Rel N K' a' H2 act w') (hf:fin dec fn' H a' H2=some (r,H')) :
  ∃ cv,(results fnc act.tmps).run E.P w' = .ok cv w'∧A8 K (fun r2 H2=>r2=r∧H2=H') (.returned cv) w':=by
 unfold fin at hf;split at hf
 ·rename_i v hres
  split at hf
  ·rename_i v' H3 hh
   simp only [Option.some.injEq,Prod.mk.injEq] at hf;obtain ⟨e1,e2⟩:=hf;rw [← h3] at hres;obtain ⟨cv,h5,h6⟩:=Mk (P:=E.P) hr (Mx hrs hres);obtain ⟨K2,h7,h8,h9⟩:=D4 hi hr.inv hk h6 hh;subst e1 e2;exact ⟨cv,h5,K2,.ret v',H3,h7,h8,h9,rfl,rfl⟩
  ·cases hf
 ·cases hf
def ak.unfix(K:ak)(D:Nat):ak := { K with shape:=fun b=>if b=D then none else K.shape b }
theorem V.unfix{K:ak}{D:Nat}{o:Obj}(hD:K.shape D=some (.fix o)){v:AV}{x:Value}(h:V K v x):V (K.unfix D) v x:=by
 have sh:∀ b s,K.shape b=some s→(∀ o,s≠.fix o)→(K.unfix D).shape b=some s:=fun b s h hs=>by
  show (if b=D then none else K.shape b)=some s;rw [if_neg (fun e=>by subst e;rw [hD] at h;cases h;exact hs _ rfl)];exact h
 induction h with
 |unk v=>exact .unk v
 |bool b=>exact .bool b
 |int k n=>exact .int k n
 |str s=>exact .str s
 |nilp=>exact .nilp
 |ptr id off b hb=>exact .ptr id off b hb
 |vptr esz rows i off b o vs hl hi hv ih=>exact .vptr esz rows i off b o vs hl hi ih
 |slice0 tag esz a ht=>exact .slice0 tag esz a ht
 |sliceAny tag esz a cap h=>exact .sliceAny tag esz a cap h
 |slice tag esz rows b o cap vs hl hi hv hc ht ih=>exact .slice tag esz rows b o cap vs hl hi ih hc (by cases tag<;>exact ht)
 |rslice id off len esz room b cap hb hc hs=>exact .rslice id off len esz room b cap hb hc (fun hr=>let ⟨n,h1,h2⟩:=hs hr;⟨n,sh _ _ h1 (fun _ e=>by cases e),h2⟩)
 |vmap es b mes hb hl hk hv ih1 ih2=>exact .vmap es b mes (sh _ _ hb (fun _ e=>by cases e)) hl ih1 ih2
 |nilmap=>exact .nilmap
 |map id b hb=>exact .map id b hb
 |sdp0 t p=>exact .sdp0 t p
 |sdp t rows b cap vs htl ho hl hi hv hc ih=>exact .sdp t rows b cap vs htl ho hl hi ih hc
 |fn f first captured vs us h1 h2 hv hu ih1 ih2=>exact .fn f first captured vs us h1 h2 ih1 ih2
 |nilfn=>exact .nilfn
 |iface t v x hx ih=>exact .iface t v x ih
 |nilif=>exact .nilif
 |agg cs vs h1 hv ih=>exact .agg cs vs h1 ih
 |tuple cs vs h1 hv ih=>exact .tuple cs vs h1 ih
theorem ak.le_unfix{K0 K:ak}{D:Nat}(h:K0.le K)(hb:K.base D)(hD:K0.shape D=none):K0.le (K.unfix D):=
 ⟨h.imm,h.own,h.loc,h.base,h.w0,h.glob,fun b s hs=>by
  show (if b=D then none else K.shape b)=some s;rw [if_neg (fun e=>by subst e;rw [hD] at hs;cases hs)];exact h.shape b s hs,fun b hbb=>⟨(h.low b hbb).1,by
  show (if b=D then none else K.shape b)=_;rw [if_neg (fun e=>by subst e;exact hbb (by rw [← h.base];exact hb))];exact (h.low b hbb).2⟩⟩
theorem Inv.turn{K:ak}{H:List AObj}{w:World}(hi:Inv K H w){D:Nat}{o o':Obj}(hD:K.shape D=some (.fix o))(hb:K.base D):Inv (K.unfix D) H (w.putObj D o'):=by
 obtain ⟨hD1,hD2⟩:=hi.shape D _ hD;have hheap:∀ b,b≠D→(w.putObj D o').heap[b]?=w.heap[b]? := fun b hb=>World.putObj_heap_other hb
 have hcell:∀ {b vs T f},w.heap[b]?=some (.cells vs T f)→b≠D:=fun h e=>by subst e;rw [h] at hD1;cases hD1;cases hD2
 have hsh:∀ {b},K.shape b=none→(K.unfix D).shape b=none:=fun {b} h=>by
  show (if b=D then none else K.shape b)=none;split
  ·rfl
  ·exact h
 have hsz:(w.putObj D o').heap.size=w.heap.size:=by simp [World.putObj]
 refine ⟨hi.below.trans ⟨rfl,rfl,rfl,by rw [hsz];exact Nat.le_refl _,fun k hk=>hheap k (fun e=>hk (by rw [e];exact hb))⟩,fun b h=>hi.base b (by rwa [hsz] at h),fun b off v h => ?_,hi.len,fun id x hx => ?_,hi.inj,fun b t n h => ?_,fun g cs hg=>(hi.glob g cs hg).unfix hD,fun b s h => ?_⟩
 ·have hc:=hi.imm b off v h
  obtain ⟨vs,T,f,h',_⟩:=s6 hc;rw [iB (hheap b (hcell h'))];exact hc
 ·have:=hi.obj id x hx
  cases x with
  |dead=>trivial
  |tok=>trivial
  |cells cs T0=>
   obtain ⟨b,vs,T,h1,h2,h3,h4,h5,h6,h7,h8,h9⟩:=this;exact ⟨b,vs,T,h1,h2,(hheap b (hcell h3)).trans h3,h4,fun i av hiv=>(h5 i av hiv).unfix hD,h6,h7,(if_neg (hcell h3)).trans h8,h9⟩
  |siter s p=>
   obtain ⟨b,h1,h2,h3,h4⟩:=this;exact ⟨b,h1,h2,(hheap b (fun e=>by subst e;rw [hD] at h4;cases h4)).trans h3,hsh h4⟩
  |map es=>
   obtain ⟨b,me,cl,h1,h2,h3,h4,h5,h9⟩:=this;refine ⟨b,me,cl,h1,h2,(hheap b (fun e=>by subst e;rw [hD] at h9;cases h9)).trans h3,h4,fun i k v hiv => ?_,hsh h9⟩;obtain ⟨e,he,h6,h7⟩:=h5 i k v hiv;exact ⟨e,he,h6.unfix hD,h7.unfix hD⟩
 ·obtain ⟨h1,fr,vs,T,lo,hh,h2,h3,h4⟩:=hi.own b t n h
  exact ⟨h1,fr,vs,T,lo,hh,h2,(hheap b (hcell h3)).trans h3,h4⟩
 ·have h':(if b=D then none else K.shape b)=some s:=h
  split at h'
  ·cases h'
  ·rename_i hne
   have:=hi.shape b s h';cases s with
   |rows n=>obtain ⟨vs,T,f,h1,h2⟩:=this;exact ⟨vs,T,f,(hheap b hne).trans h1,h2⟩
   |mapv es=>obtain ⟨c,h1⟩:=this;exact ⟨c,(hheap b hne).trans h1⟩
   |fix o=>exact ⟨(hheap b hne).trans this.1,this.2⟩
theorem zJ{P:Program}{fnc:Func}{tmps:Array Value}{R:Ending→World→Prop}{K0:ak}{H:List AObj}{u:FrameMode}(hu:u≠.run){ds:List Deferred}:∀ (ms:List Nat) (K:ak) (w:World),Inv K H w→ms.Nodup →
  (∀ D∈ms,K.shape D=some (.fix (.deferred (some [])))∧K.base D∧K0.shape D=none)→K0.le K →
  (∀ K' w',K0.le K'→Inv K' H w'→(∀ v x,V K v x→V K' v x)→LeavesInM Fence.wide 0 P fnc tmps R ds u w')→LeavesInM Fence.wide 0 P fnc tmps R (ms.map Oe++ds) u w
 |[],K,w,hi,_,_,hk,fin=>fin K w hk hi fun _ _ h=>h
 |D::ms,K,w,hi,hnd,hms,hk,fin=>by
  obtain ⟨h1,h2,h3⟩:=hms D (by simp);rw [List.nodup_cons] at hnd;refine ⟨hu,.inl ⟨D,_,rfl,run_takeDeferred (hi.shape D _ h1).1, ?_⟩⟩;refine zJ hu ms (K.unfix D) _ (hi.turn h1 h2) hnd.2 (fun D' hD' => ?_) (ak.le_unfix hk h2 h3) fun K' w' hk' hi' hv=>fin K' w' hk' hi' fun v x hx=>hv v x (hx.unfix h1)
  obtain ⟨g1,g2,g3⟩:=hms D' (by simp [hD']);exact ⟨(if_neg (fun e:D'=D=>hnd.1 (by rw [← e];exact hD'))).trans g1,g2,g3⟩
theorem Mz{n:Nat}(hc:Bh dec E n){g:FuncId}{fn':AFn}{fnc:Func}{c:Code}{rs:List uy}{args:List AV}{H:List AObj}{r:qh}{H':List AObj}(hdf:fn'.dfr=none)(hf:E.P.funcs[g]?=some fnc)
  (hname:(fnc.name == "runtime.NumGoroutine")=false) (hb:fnc.body=some c) (h3:rs=fn'.res) (hrs:yG E.P fnc.results.toList=some rs) (hac:cO E.P E.G (fn'.muts.contains ·) fnc.ntmps c=some fn'.c.strip)
  (h:ev dec E n fn' H [.c fn'.c] (env args) H=some (r,H')):cT E.P E.G g args H fun r2 H2=>r2=r∧H2=H':=by
 intro K w cargs hg hi hv;have hw:=hc fn' H fn'.c [] (env args) H (r,H') h { n:=args.length+(fnc.ntmps-args.length),free:=fun b=>K.shape b=none } _ fnc.ntmps c (fun _=>.inl ⟨rfl,rfl⟩) (show fnc.ntmps≤args.length+(fnc.ntmps-args.length) from by omega) hac;refine .inl ⟨pw hf hname (by simp [hb]) cargs w, ?_⟩;refine (callsIn_wide (n:=0)).1 (callsIn_of_wp_marks hf hb trivial (wpIn_mono (hw K _ w hg ⟨hi,.none fun _ h=>h,by simp [← hv.size],fun t=>C2 hv _ t⟩) ?_))
 rintro e act w' ⟨K',x,a',H2,hk,he,hr,m,hm,hx⟩
 have fin:∀ (m:Nat),fin dec fn' H a' H2=some (r,H')→LeavesInM Fence.wide 0 E.P fnc act.tmps (A8 K fun r2 H2=>r2=r∧H2=H') act.defers .returning w':=fun _ hx=>by
  obtain ⟨⟨ms,h4,h5,_,h6⟩,_⟩:=hr.defers;rw [h6];refine zJ (by simp) ms K' w' hr.inv h4 h5 hk fun K2 w2 hk2 hi2 hv2 => ?_
  obtain ⟨cv,h7,h8⟩:=vZ h3 hrs hi hk2 (N := { n:=args.length+(fnc.ntmps-args.length) }) (act := { act with defers:=[] }) ⟨hi2,.none fun _ _=>trivial,hr.size,fun t=>hv2 _ _ (hr.tmps t)⟩ hx;exact ⟨cv,h7,h8⟩
 cases x with
 |normal=>
  cases e<;>first | exact (he:False).elim | skip
  have hx':ev dec E m fn' H [] a' H2=some (r,H'):=hx;cases m with
  |zero=>cases hx'
  |succ m=>
   simp only [ev,hdf] at hx';exact fin 0 hx'
 |ret=>
  cases e<;>first | exact (he:False).elim | skip
  simp only [evX,pr,hdf] at hx;exact fin 0 hx
 |panic v=>
  cases e<;>first | exact (he:False).elim | skip
  simp only [evX,ga,hdf] at hx;unfold Cn at hx;split at hx
  ·rename_i v' H3 hh
   simp only [Option.some.injEq,Prod.mk.injEq] at hx;obtain ⟨e1,e2⟩:=hx;obtain ⟨cv,rfl,h6⟩:=he;obtain ⟨⟨ms,h4,h5,_,h7⟩,_⟩:=hr.defers;show LeavesInM Fence.wide 0 E.P fnc act.tmps _ act.defers _ w';rw [h7];refine zJ (by simp) ms K' w' hr.inv h4 h5 hk fun K2 w2 hk2 hi2 hv2 => ?_
   obtain ⟨K3,h7,h8,h9⟩:=D4 hi hi2 hk2 (hv2 _ _ h6) hh;subst e1 e2;exact ⟨K3,.panic v',H3,h7,⟨cv,rfl,h8⟩,h9,rfl,rfl⟩
  ·cases hx
 |exit id=>simp [evX,unw,D3,kA] at hx
 |goto l=>simp [evX,jmp] at hx
end
end Go.Am
