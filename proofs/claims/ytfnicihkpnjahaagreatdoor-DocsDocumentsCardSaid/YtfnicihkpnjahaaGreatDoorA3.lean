import Derived.Test.YtfnicihkpnjahaaGreatDoorA2
import Derived.Recover
import Derived.IntWalk
import Derived.Laws.Externs
import Derived.Lib.Bytealg
import Derived.Lib.MakeNoZero
import Derived.Lib.Builder
import Derived.Carry
/-
  Part 3 of the tool: an abstract machine over the model, proved sound, and what it says of the functions that the law reaches. Condition: none but those that each theorem names.
-/
set_option linter.unusedVariables false
set_option linter.unusedSimpArgs false
section
namespace Go.Am
open Go.RowKit
section
variable{P:Program}{G:Nat→Option (List AV)}{K:aj}{N:Fr}{a:Env}{H:List AObj}{act:Act}{w:World}
theorem Kh{o:Oper}{v:AV}{H':List AObj}(hd:∀ d,o.dst=some d→d<N.n)(hr:Rel N K a H act w)(hok:wU P K ((execOp act.eval o).run P w) v H'){next:Act→World→Prop}{Q:Exit→Act→World→Prop}
  (hn:∀ K' act' w',K.le K'→Rel N K' (fk a o.dst v) H' act' w'→next act' w') (hdf:∀ c,o.op≠.defer c):o.wpIn N.F 0 P act w next Q:=by
 obtain ⟨K',cv,w',h1,h2,h3,h4⟩:=hok;have hr':=hr.put h1 h4 (dst:=o.dst) h3 hd;refine ⟨fun f _=>N.fn f, ?_⟩;rw [Oper.semAt_eq _ _ _ hdf];rcases h2 with h2 | ⟨h2,rfl⟩
 ·rw [h2];exact hn K' _ _ h1 hr'
 ·rw [h2];exact hn K' _ _ h1 hr'
theorem AW{o:Oper}{c:Call}{f:Operand}{ts:List TypeId}(hop:o.op = .call c)(hcal:c.callee = .value f)(hg:K.glob=G)(hd:∀ d,o.dst=some d→d<N.n)(hr:Rel N K a H act w)
  {g:FuncId}{first cap:List AV} (he:rx a (cx0 G f) = .fn (.func g) first cap) {R:kJ→List AObj→Prop} (hc:cB P G g (first++(ka P G c.args.toList ts).map (rx a)++cap) H R)
  {next:Act→World→Prop}{Q:Exit→Act→World→Prop}
  (hn:∀ K' v H' act' w',K.le K'→Rel N K' (fk a o.dst v) H' act' w'→R (.ret v) H'→next act' w')
  (hp:∀ K' v cv H' w',K.le K'→V K' v cv→Rel N K' a H' act w'→R (.panic v) H'→Q (.panic [{ v:=cv,recovered:=false }]) act w'):o.wpIn N.F 0 P act w next Q:=by
 have hf:=gE hg hr f;rw [he] at hf;obtain ⟨vs,us,hfe,h1,h2⟩:=hf.fn_inv;have hargs:=(h1.append (zU (P:=P) hg hr c.args ts)).append h2
 have hex:(execOp act.eval o).run P w=(callFunc g (vs++c.args.map act.eval++us)).run P w:=by
  unfold execOp;simp only [hop,resolve,hcal,hfe,Deferred.ofValue,invoke,pure_bind]
 refine ⟨fun f _=>N.fn f, ?_⟩;rw [Oper.semAt_eq _ _ _ (fun c e=>by rw [hop] at e;cases e),hex];rcases hc K w _ hg hr.inv hargs with ⟨hrun,hcalls⟩ | ⟨cv,w',hrun,K',r,H',hk,he',hi',hR⟩
 ·rw [hrun,Oper.uponIn_enter]
  refine ⟨N.dep, ?_⟩;refine CallsIn.mono (F:=N.F) (callsIn_wide.2 hcalls) ?_;rintro e w' ⟨K',r,H',hk,he',hi',hR⟩;cases e with
  |returned x=>
   cases r with
   |ret v=>exact hn K' v H' _ _ hk (hr.put hk hi' he' hd) hR
   |panic v=>exact (he':False).elim
  |panicked ch=>
   cases r with
   |ret v=>exact (he':False).elim
   |panic v=>
    obtain ⟨cv,rfl,hv⟩:=he';exact hp K' v cv H' w' hk hv ⟨hi',hr.defers.mono hk,hr.size,fun t=>(hr.tmps t).mono hk⟩ hR
  |outgrown=>cases r<;>exact (he':False).elim
 ·rw [hrun,Oper.uponIn_value]
  cases r with
  |ret v=>exact hn K' v H' _ _ hk (hr.put hk hi' he' hd) hR
  |panic v=>exact (he':False).elim
theorem GK{o:Oper}{c:Call}{x:Operand}{n:String}{ts:List TypeId}(hop:o.op = .call c)(hcal:c.callee = .invoke x n)(hg:K.glob=G)(hd:∀ d,o.dst=some d→d<N.n)(hr:Rel N K a H act w)
  {g:FuncId}{t:TypeId}{u:AV} (he:rx a (cx0 G x) = .iface t u) (hm:∀ (v:Value) (w:World),(method (P.types.size+Made.depth) t v n).run P w = .ok (g,v) w) {R:kJ→List AObj→Prop} (hc:cB P G g (([u]++(ka P G c.args.toList ts).map (rx a))++[]) H R)
  {next:Act→World→Prop}{Q:Exit→Act→World→Prop}
  (hn:∀ K' v H' act' w',K.le K'→Rel N K' (fk a o.dst v) H' act' w'→R (.ret v) H'→next act' w')
  (hp:∀ K' v cv H' w',K.le K'→V K' v cv→Rel N K' a H' act w'→R (.panic v) H'→Q (.panic [{ v:=cv,recovered:=false }]) act w'):o.wpIn N.F 0 P act w next Q:=by
 have hf:=gE hg hr x;rw [he] at hf;obtain ⟨y,hfe,hv⟩:=hf.iface_inv
 have h1:Vs K [u] #[y]:=⟨rfl,fun i av hi=>by
  cases i with
  |zero=>simp at hi;subst hi;simpa using hv
  |succ i=>simp at hi⟩
 have hargs:Vs K (([u]++(ka P G c.args.toList ts).map (rx a))++[]) (#[y]++c.args.map act.eval):=by
  rw [List.append_nil];exact h1.append (zU (P:=P) hg hr c.args ts)
 have hex:(execOp act.eval o).run P w=(callFunc g (#[y]++c.args.map act.eval)).run P w:=by
  have hx:(#[Value.iface t y]++c.args.map act.eval).extract 1 (#[Value.iface t y]++c.args.map act.eval).size=c.args.map act.eval:=by
   apply Array.ext';simp;exact List.take_of_length_le (by simp)
  have h0:(#[Value.iface t y]++c.args.map act.eval)[0]?=some (.iface t y):=by rw [Array.getElem?_append_left (by simp)];rfl
  unfold execOp;simp only [hop,resolve,hcal,hfe,pure_bind,invoke];rw [h0];simp only;rw [hx];simp [callMethod,hm]
 refine ⟨fun f _=>N.fn f, ?_⟩;rw [Oper.semAt_eq _ _ _ (fun c e=>by rw [hop] at e;cases e),hex];rcases hc K w _ hg hr.inv hargs with ⟨hrun,hcalls⟩ | ⟨cv,w',hrun,K',r,H',hk,he',hi',hR⟩
 ·rw [hrun,Oper.uponIn_enter]
  refine ⟨N.dep, ?_⟩;refine CallsIn.mono (F:=N.F) (callsIn_wide.2 hcalls) ?_;rintro e w' ⟨K',r,H',hk,he',hi',hR⟩;cases e with
  |returned x=>
   cases r with
   |ret v=>exact hn K' v H' _ _ hk (hr.put hk hi' he' hd) hR
   |panic v=>exact (he':False).elim
  |panicked ch=>
   cases r with
   |ret v=>exact (he':False).elim
   |panic v=>
    obtain ⟨cv,rfl,hv⟩:=he';exact hp K' v cv H' w' hk hv ⟨hi',hr.defers.mono hk,hr.size,fun t=>(hr.tmps t).mono hk⟩ hR
  |outgrown=>cases r<;>exact (he':False).elim
 ·rw [hrun,Oper.uponIn_value]
  cases r with
  |ret v=>exact hn K' v H' _ _ hk (hr.put hk hi' he' hd) hR
  |panic v=>exact (he':False).elim
theorem KA{o:Oper}{x:Operand}(hop:o.op = .panic x)(hg:K.glob=G)(hr:Rel N K a H act w){t:TypeId}{v:AV}(he:rx a (cx0 G x) = .iface t v)
  {next:Act→World→Prop}{Q:Exit→Act→World→Prop} (hp:∀ cv,V K (.iface t v) cv→Q (.panic [{ v:=cv,recovered:=false }]) act w):o.wpIn N.F 0 P act w next Q:=by
 have hx:=gE hg hr x;rw [he] at hx;obtain ⟨y,hy,hv⟩:=hx.iface_inv
 have hrun:(execOp act.eval o).run P w = .halt (.panic (.iface t y)) w:=by
  unfold execOp;simp [hop,hy,Instr.panic]
 refine ⟨fun f _=>N.fn f, ?_⟩;rw [Oper.semAt_eq _ _ _ (fun c e=>by rw [hop] at e;cases e),hrun,Oper.uponIn_panic];exact hp _ (.iface t v y hv)
theorem AX{m:Bool}{ty:TypeId}{op:Op}{s:RS}(h:cRS P G m ty op=some s) :
  (∃ c f,op = .call c∧c.callee = .value f∧s = .call (cx0 G f) (ka P G c.args.toList c.argTypes.toList))∨(∃ x,op = .panic x∧s = .panic (cx0 G x))∨(∃ r,cOp P G m ty op=some r∧s = .op r)∨∃ c x n,op = .call c∧c.callee = .invoke x n∧s = .inv (cx0 G x) n (ka P G c.args.toList c.argTypes.toList):=by
 unfold cRS at h;split at h
 ·rename_i c
  split at h
  ·rename_i f hf;cases h;exact .inl ⟨c,f,rfl,hf,rfl⟩
  ·rw [Option.map_eq_some_iff] at h
   obtain ⟨r,h1,rfl⟩:=h;exact .inr (.inr (.inl ⟨r,h1,rfl⟩))
  ·rename_i x n hc;cases h;exact .inr (.inr (.inr ⟨c,x,n,rfl,hc,rfl⟩))
 ·rename_i x;cases h;exact .inr (.inl ⟨x,rfl,rfl⟩)
 ·rw [Option.map_eq_some_iff] at h
  obtain ⟨r,h1,rfl⟩:=h;exact .inr (.inr (.inl ⟨r,h1,rfl⟩))
theorem u7{m:Bool}{ty:TypeId}{op:Op}{r:ROp}(h:cOp P G m ty op=some r):∀ c,op≠.defer c:=fun c e=>by subst e;simp [cOp] at h
theorem AY{m:Bool}{n:Nat}{ops:Array Oper}{o:Oper}{ro:RO}(h:cRO P G m n ops o=some ro):AJ ops o=some ro.g∧cRS P G m o.type o.op=some ro.s∧ro.d=o.dst∧∀ d,o.dst=some d→d<n:=by
 unfold cRO at h;split at h
 ·rename_i g s hg hs
  split at h
  ·rename_i hd
   cases h;refine ⟨hg,hs,rfl,fun d e => ?_⟩;rw [e] at hd;simpa [Ke] using hd
  ·cases h
 ·cases h
end
section
variable{dec:Dec}{E:bc}
theorem Fk{x:AV}{m:String}{g:FuncId}{first cap:List AV}(h:AO E x m = .fn (.func g) first cap):∃ t v,x = .iface t v∧E.meth t m=some g∧first=[v]∧cap=[]:=by
 unfold AO at h;split at h
 ·rename_i t v
  split at h
  ·rename_i g' hm;cases h;exact ⟨t,v,rfl,hm,rfl,rfl⟩
  ·cases h
 ·cases h
def nA(dec:Dec)(E:bc)(n:Nat):Prop:=∀ (g:FuncId) (args:List AV) (H:List AObj) (r:kJ) (H':List AObj),qw dec E n g args H=some (r,H')→cB E.P E.G g args H fun r2 H2=>r2=r∧H2=H'
theorem qy(hE:E.Ok){n:Nat}(hC:∀ j,j<n→nA dec E j){fn:AFn}{H0:List AObj}{k:List Fra}{r:Out}{N:Fr}{m:Bool}{nt:Nat}{ops:Array Oper}(hnt:nt≤N.n){K:aj}(hg:K.glob=E.G){Qc:Exit→Act→World→Prop}{l2:List Nat}
  (hend:∀ (j:Nat) (K':aj) (a:Env) (H:List AObj) (act:Act) (w:World),j<n→K.le K'→Rel N K' a H act w→ev dec E j fn H0 k a H=some r→wpOpsIn N.F 0 E.P ops Qc l2 act w)
  (hpan:∀ (j:Nat) (K':aj) (a:Env) (H:List AObj) (act:Act) (w:World) (v:AV) (cv:Value),j<n→K.le K'→V K' v cv→Rel N K' a H act w→eR dec E (ev dec E j) fn H0 k a v H=some r→Qc (.panic [{ v:=cv,recovered:=false }]) act w) :
  ∀ (os:List Oper) (ros:List RO) (l:List Nat) (j:Nat) (K':aj) (a:Env) (H:List AObj) (act:Act) (w:World),j≤n→ev dec E j fn H0 (.c (.ops ros)::k) a H=some r →
   th E.P E.G m nt ops os=some ros→l.map (ops[·]?)=os.map some→K.le K'→Rel N K' a H act w→wpOpsIn N.F 0 E.P ops Qc (l++l2) act w
 |_,_,_,0,_,_,_,_,_,_,h,_,_,_,_=>by cases h
 |[],ros,l,j+1,K',a,H,act,w,hj,h,hc,hl,hk,hr=>by
  cases hc;cases l with
  |cons=>cases hl
  |nil=>exact hend j K' a H act w (by omega) hk hr h
 |o::os,ros,l,j+1,K',a,H,act,w,hj,h,hc,hl,hk,hr=>by
  cases l with
  |nil=>cases hl
  |cons i l=>
   simp only [List.map_cons,List.cons.injEq] at hl;obtain ⟨ho,hl⟩:=hl;simp only [th] at hc;split at hc
   ·rename_i ro hro
    split at hc
    ·rename_i rs hrs
     cases hc;obtain ⟨hgd,hs,hdst,hlt⟩:=AY hro;have hd:∀ d,o.dst=some d→d<N.n:=fun d e=>Nat.lt_of_lt_of_le (hlt d e) hnt
     have hg':=hk.glob.trans hg
     have hw:r4 a ro=ji ops a o:=by
      obtain ⟨d,g,s⟩:=ro;exact Ej hgd
     rw [List.cons_append,wpOpsIn_cons,wpOpIn,ho];simp only;simp only [ev] at h;rw [hw] at h;split at h
     ·cases h
     ·rename_i hwt
      rw [kX hr hwt];simp only [Bool.false_eq_true,if_false];refine ⟨fun f _=>N.fn f,qy hE hC hnt hg hend hpan os rs l j K' _ H _ w (by omega) h hrs hl hk ?_⟩;rw [hdst];exact hr.put (.refl K') hr.inv ru hd
     ·rename_i hwt
      rw [kX hr hwt];simp only [if_true]
      have next:∀ K2 v H' act' w',K'.le K2→Rel N K2 (fk a o.dst v) H' act' w'→ev dec E j fn H0 (.c (.ops rs)::k) (fk a ro.d v) H'=some r→wpOpsIn N.F 0 E.P ops Qc (l++l2) act' w':=fun K2 v H' act' w' hk2 hr2 h2=>
       qy hE hC hnt hg hend hpan os rs l j K2 _ H' act' w' (by omega) (by rw [← hdst];exact h2) hrs hl (hk.trans hk2) hr2
      rcases AX hs with ⟨c,f,hop,hcal,hsf⟩ | ⟨x,hop,hsx⟩ | ⟨q,hq,hsq⟩ | ⟨c,x,mn,hop,hcal,hsi⟩
      ·rw [hsf] at h
       simp only at h;split at h
       ·rename_i g first cap hfe
        have h':(match qw dec E j g (first++(ka E.P E.G c.args.toList c.argTypes.toList).map (rx a)++cap) H with
         |some (.ret v,H')=>ev dec E j fn H0 (.c (.ops rs)::k) (fk a ro.d v) H'
         |some (.panic v,H')=>eR dec E (ev dec E j) fn H0 k a v H'
         |none=>none)=some r:=h
        split at h'
        ·rename_i v H' hcall
         refine AW hop hcal hg' hd hr hfe (hC j (by omega) _ _ _ _ _ hcall) ?_ ?_
         ·rintro K2 v2 H2 act' w' hk2 hr2 ⟨e1,e2⟩
          cases e1;subst e2;exact next K2 v _ act' w' hk2 hr2 h'
         ·rintro K2 v2 cv H2 w' hk2 hv hr2 ⟨e1,e2⟩
          cases e1
        ·rename_i v H' hcall
         refine AW hop hcal hg' hd hr hfe (hC j (by omega) _ _ _ _ _ hcall) ?_ ?_
         ·rintro K2 v2 H2 act' w' hk2 hr2 ⟨e1,e2⟩
          cases e1
         ·rintro K2 v2 cv H2 w' hk2 hv hr2 ⟨e1,e2⟩
          cases e1;subst e2;exact hpan j K2 a _ act w' _ cv (by omega) (hk.trans hk2) hv hr2 h'
        ·cases h'
       ·cases h
      ·rw [hsx] at h
       simp only at h;split at h
       ·rename_i t v hxe
        exact KA hop hg' hr hxe fun cv hv=>hpan j K' a H act w (.iface t v) cv (by omega) hk hv hr h
       ·cases h
      ·rw [hsq] at h
       simp only at h;split at h
       ·rename_i v H' hrop
        exact Kh hd hr (zT hg' hr hq hrop) (fun K2 act' w' hk2 hr2=>next K2 v H' act' w' hk2 hr2 h) (u7 hq)
       ·cases h
      ·rw [hsi] at h
       simp only at h;split at h
       ·rename_i g first cap hfe
        obtain ⟨t,u,hxe,hme,rfl,rfl⟩:=Fk hfe
        have h':(match qw dec E j g ([u]++(ka E.P E.G c.args.toList c.argTypes.toList).map (rx a)++[]) H with
         |some (.ret v,H')=>ev dec E j fn H0 (.c (.ops rs)::k) (fk a ro.d v) H'
         |some (.panic v,H')=>eR dec E (ev dec E j) fn H0 k a v H'
         |none=>none)=some r:=h
        split at h'
        ·rename_i v H' hcall
         refine GK hop hcal hg' hd hr hxe (hE.meth _ _ _ hme) (hC j (by omega) _ _ _ _ _ hcall) ?_ ?_
         ·rintro K2 v2 H2 act' w' hk2 hr2 ⟨e1,e2⟩
          cases e1;subst e2;exact next K2 v _ act' w' hk2 hr2 h'
         ·rintro K2 v2 cv H2 w' hk2 hv hr2 ⟨e1,e2⟩
          cases e1
        ·rename_i v H' hcall
         refine GK hop hcal hg' hd hr hxe (hE.meth _ _ _ hme) (hC j (by omega) _ _ _ _ _ hcall) ?_ ?_
         ·rintro K2 v2 H2 act' w' hk2 hr2 ⟨e1,e2⟩
          cases e1
         ·rintro K2 v2 cv H2 w' hk2 hv hr2 ⟨e1,e2⟩
          cases e1;subst e2;exact hpan j K2 a _ act w' _ cv (by omega) (hk.trans hk2) hv hr2 h'
        ·cases h'
       ·cases h
    ·cases hc
   ·cases hc
theorem IZ(hE:E.Ok){n:Nat}(hC:∀ j,j<n→nA dec E j){fn:AFn}{H0:List AObj}{k:List Fra}{r:Out}{N:Fr}{m:Bool}{nt:Nat}{ops:Array Oper}(hnt:nt≤N.n){K:aj}(hg:K.glob=E.G)
  (os:List Oper) (ros:List RO) (l:List Nat) (j:Nat) (K':aj) (a:Env) (H:List AObj) (act:Act) (w:World) (hj:j≤n) (h:ev dec E j fn H0 (.c (.ops ros)::k) a H=some r)
  (hc:th E.P E.G m nt ops os=some ros) (hl:l.map (ops[·]?)=os.map some) (hk:K.le K') (hr:Rel N K' a H act w):wpOpsIn N.F 0 E.P ops (yI N K (yS dec E n fn H0 k r)) l act w:=by
 have:=qy hE (n:=n) hC hnt hg (Qc:=yI N K (yS dec E n fn H0 k r)) (l2:=[]) (fun j K' a H act w hj hk hr h=>⟨K',.normal,a,H,hk,trivial,hr,j,hj,h⟩)
  (fun j K' a H act w v cv hj hk hv hr h=>⟨K',.panic v,a,H,hk,⟨cv,rfl,hv⟩,hr,j,hj,h⟩) os ros l j K' a H act w hj h hc hl hk hr
 rwa [List.append_nil] at this
end
end Go.Am
end
section
namespace Go.Am
open Go.RowKit
def xq(P:Program)(G:Nat→Option (List AV))(o:RO)(a:Env)(H:List AObj)(v:AV)(H':List AObj):Prop:=
 match o.s with
 |.op op=>rop a H op=some (v,H')
 |.call f args=>match rx a f with
  |.fn (.func g) first cap=>cB P G g (first++args.map (rx a)++cap) H fun r H2=>r = .ret v∧H2=H'
  |_=>False
 |.panic _=>False
 |.inv .. => False
def DR(P:Program)(G:Nat→Option (List AV))(ros:List RO)(i:Nat)(a:Env)(H:List AObj)(v:AV)(H':List AObj):Prop:=
 match ros[i]? with
 |some ro=>xq P G ro a H v H'
 |none=>False
def KpT(T:List Nat)(H H2:List AObj):Prop:=H.length≤H2.length∧∀ i,i<H.length→i ∉ T→H2[i]?=H[i]?
theorem KpT.trans{T:List Nat}(H1 H2 H3:List AObj)(h:KpT T H1 H2)(h':KpT T H2 H3):KpT T H1 H3:=
 ⟨Nat.le_trans h.1 h'.1,fun i hi ht=>by rw [h'.2 i (by have:=h.1;omega) ht,h.2 i hi ht]⟩
theorem oN(T:List Nat)(H L:List AObj):KpT T H (H++L):=⟨by simp,fun i hi _=>List.getElem?_append_left hi⟩
theorem El{T:List Nat}{id:Nat}(ht:id∈T)(H:List AObj)(o:AObj):KpT T H (H.set id o):=
 ⟨by simp,fun i _ hn=>List.getElem?_set_ne (fun e=>hn (by rw [← e];exact ht))⟩
section
variable{P:Program}{G:Nat→Option (List AV)}{ops:Array Oper}{ros:List RO}{m:Bool}{nt:Nat}{N:Fr}
theorem xr:∀ {os:List Oper}{ros:List RO},th P G m nt ops os=some ros→∀ (i:Nat) (o:Oper),os[i]?=some o→∃ ro,ros[i]?=some ro∧cRO P G m nt ops o=some ro
 |[],_,_,i,o,h=>by simp at h
 |o::os,ros,hc,i,o',h=>by
  simp only [th] at hc;split at hc
  ·rename_i ro hro
   split at hc
   ·rename_i rs hrs
    cases hc;cases i with
    |zero=>simp at h;subst h;exact ⟨ro,rfl,hro⟩
    |succ i=>exact xr hrs i o' (by simpa using h)
   ·cases hc
  ·cases hc
theorem GL{ro:RO}{dst:Option Tmp}{u v:AV}{a:Env}{H H':List AObj}(h:∀ d,dst=some d→d ∉ ro.s.uses):xq P G ro (fk a dst u) H v H'=xq P G ro a H v H':=by
 unfold xq;cases hs:ro.s with
 |op op=>simp only;rw [IV fun d hd hm=>h d hd (by rw [hs];exact hm)]
 |call f args=>
  simp only;rw [xj (x:=f) fun d hd hm=>h d hd (by rw [hs];simp [RS.uses,hm]),wB (l:=args) fun d hd hm=>h d hd (by rw [hs];simp [RS.uses,hm])]
 |panic x=>rfl
 |inv x m args=>rfl
theorem Dm{q:Cl}{s:Bool}{x:RS}(hq:q≠.pure)(h:n0 q s x = .pure):∃ o,x = .op o∧BW o=true:=by
 unfold n0 at h;split at h
 ·rename_i o
  split at h
  ·rename_i hp;exact ⟨o,rfl,hp⟩
  ·split at h
   ·cases h
   ·split at h
    ·cases h
    ·split at h
     ·split at h<;>cases h
     ·split at h<;>cases h
     ·cases h
 ·exact absurd h hq
 ·exact absurd h hq
 ·cases h
theorem xt{q:Cl}{s:Bool}{o:ROp}(h:n0 q s (.op o) = .wide):tf o=true:=by
 unfold n0 at h;simp only at h;split at h
 ·cases h
 ·split at h
  ·rename_i hw;exact hw
  ·split at h
   ·cases h
   ·split at h
    ·split at h<;>cases h
    ·split at h<;>cases h
    ·cases h
theorem xu{q:Cl}{s:Bool}{o:ROp}(h:n0 q s (.op o) = .keep):BX o=true∨(s=true∧∃ sz x v,o = .st sz x v)∨∃ m e sz bytes str x y,o = .ap m e sz bytes str x y:=by
 unfold n0 at h;simp only at h;split at h
 ·cases h
 ·split at h
  ·cases h
  ·split at h
   ·rename_i hn;exact .inl hn
   ·split at h
    ·split at h
     ·rename_i hs;exact .inr (.inl ⟨hs,_,_,_,rfl⟩)
     ·cases h
    ·split at h
     ·rename_i hs;exact .inr (.inr ⟨_,_,_,_,_,_,_,rfl⟩)
     ·cases h
    ·cases h
theorem clOfR_quiet{q:Cl}{s:Bool}{o:ROp}:n0 q s (.op o)≠.quiet:=by
 unfold n0;simp only;split
 ·simp
 ·split
  ·simp
  ·split
   ·simp
   ·split
    ·split<;>simp
    ·split<;>simp
    ·simp
theorem LL{q:Cl}{s:Bool}(hq:q≠.pure)(hc:th P G m nt ops ops.toList=some ros)(hu:Gy ops ros=true){cl:Nat→Cl}(hcl0:∀ i,cl i=AK q s ros i∨cl i = .quiet∨(cl i = .eff∧BY ros i=true)):u1 P G N ops cl (DR P G ros):=by
 have get:∀ (i:Nat) (o:Oper),ops[i]?=some o→∃ ro,ros[i]?=some ro∧cRO P G m nt ops o=some ro:=fun i o h=>xr hc i o (by simpa using h)
 refine ⟨fun i o dst u a H v H' ho hd => ?_,fun i a H v H' hp h => ?_,fun i o a H v H' ho h K act w next Q hg hr hlt hn => ?_⟩
 ·obtain ⟨ro,h1,h2⟩:=get i o ho
  unfold DR;rw [h1];simp only;rw [GL fun d e hm=>hd d e ?_]
  have hall:=List.all_eq_true.1 hu (o,ro) (by
   have:(ops.toList.zip ros)[i]?=some (o,ro):=by
    rw [List.getElem?_zip_eq_some];exact ⟨by simpa using ho,h1⟩
   exact List.mem_of_getElem? this)
  have:=List.all_eq_true.1 hall d hm;simpa using this
 ·unfold DR at h ⊢
  cases hro:ros[i]? with
  |none=>rw [hro] at h;exact h.elim
  |some ro=>
   rw [hro] at h
   have hp':n0 q s ro.s = .pure:=by
    rcases hcl0 i with e | e | ⟨e,_⟩
    ·rw [e] at hp;unfold AK at hp;rw [hro] at hp;exact hp
    ·rw [e] at hp;cases hp
    ·rw [e] at hp;cases hp
   obtain ⟨o,ho,hpr⟩:=Dm hq hp';simp only [xq,ho] at h ⊢;exact GB hpr h
 ·obtain ⟨ro,h1,h2⟩:=get i o ho
  obtain ⟨hgd,hs,hdst,_⟩:=AY h2;unfold DR at h;rw [h1] at h;simp only [xq] at h;rcases AX hs with ⟨c,f,hop,hcal,hsf⟩ | ⟨x,hop,hsx⟩ | ⟨q,hq,hsq⟩ | ⟨c,x,mn,hop,hcal,hsi⟩
  ·rw [hsf] at h
   simp only at h;split at h
   ·rename_i g first cap hfe
    refine AW hop hcal hg hlt hr hfe h ?_ ?_
    ·rintro K2 v2 H2 act' w' hk2 hr2 ⟨e1,e2⟩
     cases e1;subst e2;exact hn K2 act' w' hk2 hr2
    ·rintro K2 v2 cv H2 w' hk2 hv hr2 ⟨e1,e2⟩
     cases e1
   ·exact h.elim
  ·rw [hsx] at h;exact h.elim
  ·rw [hsq] at h
   exact Kh hlt hr (zT hg hr hq h) hn (u7 hq)
  ·rw [hsi] at h;exact h.elim
theorem Em{cls:Nat→Cl}:∀ {ord:List Nat}{listed:Array Bool},AA ops cls ord listed=true→∀ k∈ord,∃ o,ops[k]?=some o
 |[],_,_,k,hk=>by cases hk
 |i::ord,listed,h,k,hk=>by
  simp only [AA,Bool.and_eq_true] at h;rcases List.mem_cons.1 hk with rfl | hk
  ·have:k∈Region.ready .any ops listed:=by simpa using h.1.1
   obtain ⟨_,o,ho,_⟩:=mem_ready.1 this;exact ⟨o,ho⟩
  ·exact Em h.2 k hk
end
section
variable{dec:Dec}{E:bc}
theorem qz(hE:E.Ok){n:Nat}(hC:∀ j,j<n→nA dec E j){fn:AFn}{H0:List AObj}{k:List Fra}{r:Out}{N:Fr}{m:Bool}{nt:Nat}{ops:Array Oper}{ros:List RO}(hnt:nt≤N.n)
  (hc:th E.P E.G m nt ops ops.toList=some ros) {q:Cl}{s:Bool}{cl:Nat→Cl} (hcl0:∀ i,cl i=AK q s ros i∨cl i = .quiet∨(cl i = .eff∧BY ros i=true)) :
  ∀ (ord:List Nat) (T L:List Nat) (j:Nat) (a:Env) (H:List AObj),(∀ i∈ord,∃ o,ops[i]?=some o)→j≤n →
   ev dec E j fn H0 (.c (.dops s T L (ord.map fun i=>(ros.getD i default,cl i)))::k) a H=some r →
   ∃ Tf Lf,(∀ x∈T,x∈Tf)∧(∀ x∈L,x∈Lf)∧apart Tf Lf∧(s=false→Tf=T) ∧
    (T=[]∨s=true→IR N ops (KpT Tf) (DR E.P E.G ros) (cl) (yS dec E n fn H0 k r) ord a H)
 |_,T,L,0,a,H,_,_,h=>by cases h
 |[],T,L,j+1,a,H,_,hj,h=>by
  have h':(match dec.ap T L with
    |.yes _=>ev dec E j fn H0 k a H
    |.no=>none)=some r:=h
  split at h'
  ·rename_i ha _
   exact ⟨T,L,fun _ h=>h,fun _ h=>h,ha,fun _=>rfl,fun _=>⟨j,by omega,h'⟩⟩
  ·cases h'
 |i::ord,T,L,j+1,a,H,hlt,hj,h=>by
  obtain ⟨o,ho⟩:=hlt i (by simp);obtain ⟨ro,hro,hcro⟩:=xr hc i o (by simpa using ho);obtain ⟨hgd,hs,hdst,hlt2⟩:=AY hcro;have hd:∀ d,o.dst=some d→d<N.n:=fun d e=>Nat.lt_of_lt_of_le (hlt2 d e) hnt
  have hw:r4 a ro=ji ops a o:=by
   obtain ⟨d,g,s⟩:=ro;exact Ej hgd
  have hclr:AK q s ros i=n0 q s ro.s:=by unfold AK;rw [hro]
  have hgetD:ros.getD i default=ro:=by simp [List.getD,hro]
  have hlt':∀ i∈ord,∃ o,ops[i]?=some o:=fun i hi=>hlt i (by simp [hi])
  rw [List.map_cons] at h;simp only [ev] at h;rw [hgetD,hw] at h;split at h
  ·cases h
  ·rename_i hwt
   obtain ⟨Tf,Lf,h1,h2,h3,h4,h5⟩:=qz hE hC hnt hc hcl0 ord T L j _ H hlt' (by omega) h;refine ⟨Tf,Lf,h1,h2,h3,h4,fun hts=>⟨o,ej,H,ho,⟨hd,fun _=>rfl,fun _=>⟨Nat.le_refl _,fun _ _ _=>rfl⟩,.inr ⟨hwt,rfl,rfl⟩⟩, ?_⟩⟩;rw [← hdst];exact h5 hts
  ·rename_i hwt
   rcases AX hs with ⟨c,f,hop,hcal,hsf⟩ | ⟨x,hop,hsx⟩ | ⟨op,hq,hsq⟩ | ⟨c,x,mn,hop,hcal,hsi⟩
   ·rw [hsf] at h
    simp only at h;split at h
    ·rename_i g first cap hfe
     split at h
     ·rename_i v L1 hwv
      obtain ⟨Tf,Lf,h1,h2,h3,h4,h5⟩:=qz hE hC hnt hc hcl0 ord T (L1++L) j _ H hlt' (by omega) h
      have hwc:cl i = .wide∧∀ H2:List AObj,(∀ id∈L1,id<H.length→H2[id]?=H[id]?)→cB E.P E.G g (first++(ka E.P E.G c.args.toList c.argTypes.toList).map (rx a)++cap) H2 fun r H'=>r = .ret v∧H'=H2:=by
       unfold Ei at hwv;split at hwv
       ·rename_i e;exact ⟨e,hE.wo _ _ _ _ _ hwv⟩
       ·cases hwv
      have hD:∀ H2:List AObj,(∀ id∈L1,id<H.length→H2[id]?=H[id]?)→DR E.P E.G ros i a H2 v H2:=fun H2 hh=>by
       unfold DR;rw [hro];simp only [xq,hsf,hfe];exact hwc.2 H2 hh
      refine ⟨Tf,Lf,h1,fun x hx=>h2 x (by simp [hx]),h3,h4,fun hts=>⟨o,v,H,ho,⟨hd,fun hst=>rfl,fun hkp => ?_,.inl ⟨hwt,hD H (fun _ _ _=>rfl),fun hwd => ?_⟩⟩, ?_⟩⟩
      ·rw [hwc.1] at hkp;cases hkp
      ·intro H2 hk2;exact hD H2 fun id hid hlt=>hk2.2 id hlt (h3 id (h2 id (by simp [hid])))
      ·rw [← hdst];exact h5 hts
     have h':(match qw dec E j g (first++(ka E.P E.G c.args.toList c.argTypes.toList).map (rx a)++cap) H with
      |some (.ret v,H')=>if rz dec E (cl i) g (first++(ka E.P E.G c.args.toList c.argTypes.toList).map (rx a)++cap) H v H' then
        ev dec E j fn H0 (.c (.dops s T L (ord.map fun i=>(ros.getD i default,cl i)))::k) (fk a ro.d v) H' else none
      |_=>none)=some r:=h
     split at h'
     ·rename_i v H' hcall
      split at h'
      ·rename_i hdyn
       obtain ⟨Tf,Lf,h1,h2,h3,h4,h5⟩:=qz hE hC hnt hc hcl0 ord T L j _ H' hlt' (by omega) h';have hA:=hC j (by omega) _ _ _ _ _ hcall
       have hD:DR E.P E.G ros i a H v H':=by
        unfold DR;rw [hro];simp only [xq,hsf,hfe];exact hA
       refine ⟨Tf,Lf,h1,h2,h3,h4,fun hts=>⟨o,v,H',ho,⟨hd,fun hst => ?_,fun hkp => ?_,.inl ⟨hwt,hD,fun hwd => ?_⟩⟩, ?_⟩⟩
       ·unfold rz at hdyn
        cases hcl2:cl i<;>rw [hcl2] at hst hdyn<;>simp only [Cl.still] at hst<;>first | (cases hst;done) | skip
        ·exact pF.of hdyn
        ·exact (pF.of hdyn).1
       ·rw [hkp] at hdyn
        have e:H'.take H.length=H:=pF.of hdyn
        have:H'=H++H'.drop H.length:=by
         conv=>lhs;rw [← List.take_append_drop H.length H',e]
        rw [this];exact oN _ _ _
       ·intro H2 _
        rw [hwd] at hdyn;have e:=pF.of hdyn;unfold DR;rw [hro];simp only [xq,hsf,hfe];exact e.2 H2
       ·rw [← hdst];exact h5 hts
      ·cases h'
     ·cases h'
    ·cases h
   ·rw [hsx] at h;cases h
   ·rw [hsq] at h
    simp only at h;split at h
    ·rename_i v H' hrop
     split at h
     ·rename_i T' L' hdyn
      obtain ⟨Tf,Lf,h1,h2,h3,h4,h5⟩:=qz hE hC hnt hc hcl0 ord T' L' j _ H' hlt' (by omega) h
      have hD:DR E.P E.G ros i a H v H':=by
       unfold DR;rw [hro];simp only [xq,hsq];exact hrop
      rcases hcl0 i with hcl | hcl | ⟨_,hcb⟩
      rotate_left
      rotate_left
      ·unfold BY at hcb
       rw [hro] at hcb;dsimp only at hcb;rw [hsq] at hcb;cases hcb
      rotate_left
      ·rw [hcl] at hdyn
       replace hdyn:(if tf op then some (T,L) else none)=some (T',L'):=hdyn
       by_cases hwo:tf op=true
       ·rw [if_pos hwo] at hdyn
        obtain ⟨rfl,rfl⟩:T=T'∧L=L':=by simpa using hdyn
        refine ⟨Tf,Lf,h1,h2,h3,h4,fun hts=>⟨o,v,H',ho,⟨hd,fun _=>(xk hwo hrop).1,fun hkp=>(by rw [hcl] at hkp;cases hkp),.inl ⟨hwt,hD,fun hwd=>(by rw [hcl] at hwd;cases hwd)⟩⟩, ?_⟩⟩;rw [← hdst];exact h5 hts
       ·rw [if_neg hwo] at hdyn;cases hdyn
      rw [hclr] at hcl
      have hdyn2:(∀ x∈T,x∈T')∧(∀ x∈L,x∈L')∧(s=false→T'=T)∧(cl i = .wide→s=true→∀ id,oL a op=some id→id∈L') ∧
        (cl i = .keep→∀ sz x v,op = .st sz x v→∀ id,AI (rx a x)=some id→id∈T') ∧
        (cl i = .keep→∀ m e sz bytes str x y,op = .ap m e sz bytes str x y→∀ id,iE (rx a x)=some id→id∈T'):=by
       rw [hcl,hsq] at hdyn ⊢;unfold lf at hdyn;split at hdyn
       ·rename_i hw
        split at hdyn
        ·rename_i hst
         split at hdyn
         ·rename_i id hid
          cases hdyn;refine ⟨fun _ h=>h,fun _ h=>by simp [h],fun _=>rfl,fun _ _ id' hid' => ?_,fun e=>(by rw [hw] at e;cases e),fun e=>(by rw [hw] at e;cases e)⟩;rw [hid] at hid';cases hid';simp
         ·rename_i hid
          cases hdyn;exact ⟨fun _ h=>h,fun _ h=>h,fun _=>rfl,fun _ _ id' hid'=>(by rw [hid] at hid';cases hid'),fun e=>(by rw [hw] at e;cases e),fun e=>(by rw [hw] at e;cases e)⟩
        ·rename_i hst
         cases hdyn;exact ⟨fun _ h=>h,fun _ h=>h,fun _=>rfl,fun _ e=>absurd e hst,fun e=>(by rw [hw] at e;cases e),fun e=>(by rw [hw] at e;cases e)⟩
       ·rename_i hkp
        have hkc:=xu hkp;split at hdyn
        ·rename_i sz x v'
         have hst:s=true:=by
          rcases hkc with e | ⟨e,_⟩ | ⟨_,_,_,_,_,_,_,e⟩
          ·cases e
          ·exact e
          ·cases e
         split at hdyn
         ·rename_i id hid
          cases hdyn;refine ⟨fun _ h=>by simp [h],fun _ h=>h,fun e=>(by rw [hst] at e;cases e),fun e=>(by rw [hkp] at e;cases e),fun _ sz2 x2 v2 e id' hid' => ?_,fun _ _ _ _ _ _ _ _ e=>(by cases e)⟩;cases e;rw [hid] at hid';cases hid';simp
         ·cases hdyn
        ·rename_i m e sz bytes str x y
         split at hdyn
         ·rename_i id hid
          cases hdyn
          have hst:s=true:=by
           rcases hkc with hn | ⟨e,_⟩ | ⟨_,_,_,_,_,_,_,e⟩
           ·obtain ⟨_,_,_,rfl⟩:=AQ hn
            simp [rx,iE] at hid
           ·exact e
           ·cases hss:s with
            |true=>rfl
            |false=>
             rw [hss] at hkp;unfold n0 at hkp;simp only at hkp;split at hkp
             ·cases hkp
             ·split at hkp
              ·cases hkp
              ·split at hkp
               ·rename_i hn
                obtain ⟨_,_,_,rfl⟩:=AQ hn;simp [rx,iE] at hid
               ·cases hkp
          refine ⟨fun _ h=>by simp [h],fun _ h=>h,fun e=>(by rw [hst] at e;cases e),fun e=>(by rw [hkp] at e;cases e),fun _ _ _ _ e=>(by cases e),fun _ m2 e2 sz2 b2 st2 x2 y2 e id' hid' => ?_⟩;cases e;rw [hid] at hid';cases hid';simp
         ·rename_i hid
          cases hdyn;exact ⟨fun _ h=>h,fun _ h=>h,fun _=>rfl,fun e=>(by rw [hkp] at e;cases e),fun _ _ _ _ e=>(by cases e),fun _ m2 e2 sz2 b2 st2 x2 y2 e id' hid'=>(by cases e;rw [hid] at hid';cases hid')⟩
        ·rename_i hnst hnap
         cases hdyn;exact ⟨fun _ h=>h,fun _ h=>h,fun _=>rfl,fun e=>(by rw [hkp] at e;cases e),fun _ sz x v e=>absurd e (hnst sz x v),fun _ m e sz bytes str x y h=>absurd h (hnap m e sz bytes str x y)⟩
       ·rename_i hqq;exact absurd hqq clOfR_quiet
       ·rename_i n1 n2 n3
        cases hdyn;exact ⟨fun _ h=>h,fun _ h=>h,fun _=>rfl,fun e=>absurd e n1,fun e=>absurd e n2,fun e=>absurd e n2⟩
      obtain ⟨g1,g2,g3,g4,g5,g6⟩:=hdyn2;refine ⟨Tf,Lf,fun x hx=>h1 x (g1 x hx),fun x hx=>h2 x (g2 x hx),h3,fun e=>(h4 e).trans (g3 e),fun hts=>⟨o,v,H',ho,⟨hd,fun hst => ?_,fun hkp => ?_,.inl ⟨hwt,hD,fun hwd => ?_⟩⟩, ?_⟩⟩
      ·rw [hcl,hsq] at hst
       have:tf op=true:=by
        cases hcl2:n0 q s (.op op)<;>rw [hcl2] at hst<;>simp only [Cl.still] at hst<;>first | (cases hst;done) | skip
        ·exact absurd hcl2 clOfR_quiet
        ·exact xt hcl2
       exact (xk this hrop).1
      ·have hkp':=hkp
       rw [hcl,hsq] at hkp';rcases xu hkp' with hn | ⟨hs',sz,x,v',rfl⟩ | ⟨m,e,sz,bytes,str,x,y,rfl⟩
       ·obtain ⟨Ln,rfl⟩:=IW hn hrop
        exact oN _ _ _
       ·obtain ⟨id,ob,e1,rfl⟩:=Kx hrop
        exact El (h1 id (g5 hkp sz x v' rfl id e1)) _ _
       ·rcases Kw hrop with ⟨L,rfl⟩ | ⟨id,ob,L,e1,rfl⟩
        ·exact oN _ _ _
        ·exact KpT.trans _ _ _ (El (h1 id (g6 hkp m e sz bytes str x y rfl id e1)) _ _) (oN _ _ _)
      ·intro H2 hk2
       have hwd':=hwd;rw [hcl,hsq] at hwd';unfold DR;rw [hro];simp only [xq,hsq];refine (xk (xt hwd') hrop).2 H2 fun id hid hlen=>hk2.2 id hlen ?_
       rcases Bool.eq_false_or_eq_true s with hst | hst
       ·exact h3 id (h2 id (g4 hwd hst id hid))
       ·rw [h4 hst,g3 hst]
        rcases hts with e | e
        ·rw [e];simp
        ·rw [hst] at e;cases e
      ·rw [← hdst]
       refine h5 ?_;rcases hts with e | e
       ·rcases Bool.eq_false_or_eq_true s with hst | hst
        ·exact .inr hst
        ·exact .inl (by rw [g3 hst];exact e)
       ·exact .inr e
     ·cases h
    ·cases h
   ·rw [hsi] at h;cases h
end
end Go.Am
end
section
namespace Go.Am
open Go.RowKit
section
variable{dec:Dec}{E:bc}
theorem qA{n n':Nat}{fn:AFn}{H0:List AObj}{k k':List Fra}{r:Out}(hn:n≤n')(hk:∀ x a H m,x≠.normal→evX dec E m fn H0 x k a H=evX dec E m fn H0 x k' a H){x:fo}{a:Env}{H:List AObj}
  (hx:x≠.normal) (h:yS dec E n fn H0 k r x a H):yS dec E n' fn H0 k' r x a H:=by
 obtain ⟨m,hm,h⟩:=h;exact ⟨m,by omega,by rw [← hk x a H m hx];exact h⟩
theorem Ki{m:Nat}{fn:AFn}{H0:List AObj}{x:fo}{k:List Fra}{ac:AC}{a:Env}{H:List AObj}(hx:x≠.normal):evX dec E m fn H0 x (.c ac::k) a H=evX dec E m fn H0 x k a H:=by
 cases x<;>first | exact absurd rfl hx | rfl
theorem KB{m:Nat}{fn:AFn}{H0:List AObj}{x:fo}{k:List Fra}{h:LH}{ac:AC}{He:List AObj}{a:Env}{H:List AObj}(hx:x≠.normal):evX dec E m fn H0 x (.lp h ac He::k) a H=evX dec E m fn H0 x k a H:=by
 cases x<;>first | exact absurd rfl hx | rfl
theorem En(m:Bool)(ops:Array Oper)(ros:List RO)(q:Cl)(s:Bool)(ord:List Nat)(k:Nat):yR m ops ros q s ord k=AK q s ros k∨yR m ops ros q s ord k = .quiet∨(yR m ops ros q s ord k = .eff∧BY ros k=true):=by
 unfold yR;split
 ·exact .inr (.inl rfl)
 ·split
  ·rename_i h
   unfold Kf at h;simp only [Bool.and_eq_true] at h;exact .inr (.inr ⟨rfl,h.2.1⟩)
  ·exact .inl rfl
theorem tn{m:Bool}{ops:Array Oper}{ros:List RO}{ac:AC}:∀ {l:List (Cl×Bool×List Nat)},IT m ops ros l=some ac→∃ q s ord,(q,s,ord)∈l∧ord.length=ops.size∧AA ops (yR m ops ros q s ord) ord (Array.replicate ops.size false)=true ∧
  ac = .dops s [] [] (ord.map fun k=>(ros.getD k default,yR m ops ros q s ord k))
 |[],h=>by cases h
 |(q,s,ord)::l,h=>by
  simp only [IT] at h;split at h
  ·rename_i hc
   simp only [Bool.and_eq_true,beq_iff_eq] at hc;cases h;exact ⟨q,s,ord,by simp,hc.1,hc.2,rfl⟩
  ·obtain ⟨q',s',ord',h1,h2⟩:=tn h
   exact ⟨q',s',ord',by simp [h1],h2⟩
theorem Fl{x y:AC}(h:∀ l,y≠.lv l):(AC.seq x y).strip = .seq x.strip y.strip:=by
 cases y<;>first | exact absurd rfl (h _) | rw [AC.strip]
 all_goals intro l e;cases e
theorem GM{P:Program}{G:Nat→Option (List AV)}{N:Fr}{c:Code}{a:Env}{H:List AObj}{Q Q':fo→Env→List AObj→Prop}(h:AWP P G N c Q a H)
  (hq:∀ x a H,Q x a H→∃ a',(∀ K act w,Rel N K a H act w→Rel N K a' H act w)∧Q' x a' H):AWP P G N c Q' a H:=fun K act w hg hr=>
 wpIn_mono (h K act w hg hr) fun _ _ _ ⟨K',x,a',H',h1,h2,h3,h4⟩=>by
  obtain ⟨a2,h5,h6⟩:=hq _ _ _ h4;exact ⟨K',x,a2,H',h1,h2,h5 _ _ _ h3,h6⟩
theorem GN{x y:AC}(h:eF (.seq x y)=true):eF x=true∧eF y=true:=by simpa [eF] using h
theorem Eo{c:RX}{x y:AC}(h:eF (.cond c x y)=true):eF x=true∧eF y=true:=by simpa [eF] using h
theorem GO:∀ (x:AC),eF x.strip=eF x:=by
 intro x
 fun_induction AC.strip x<;>simp_all [eF]
theorem sj{P:Program}{G:Nat→Option (List AV)}{m:Nat→Bool}{nt:Nat}:∀ (c:Code) (ac:AC),bY P G m nt c=some ac→∀ l,(ti ac l=none→findLabel c l=none)∧∀ q,ti ac l=some q→∃ rest,findLabel c l=some rest∧bY P G m nt rest=some q
 |.seq x y,ac,h,l=>by
  simp only [bY] at h;split at h
  ·rename_i x' hx
   split at h
   ·rename_i y' hy
    cases h;obtain ⟨h1,h2⟩:=sj x x' hx l;obtain ⟨h3,h4⟩:=sj y y' hy l;simp only [ti,findLabel];cases hf:ti x' l with
    |none=>
     rw [h1 hf];exact ⟨h3,h4⟩
    |some r=>
     obtain ⟨rest,e1,e2⟩:=h2 r hf;rw [e1];refine ⟨fun h=>(by cases h),fun q hq => ?_⟩;cases hq;exact ⟨_,rfl,by simp only [bY,e2,hy]⟩
   ·cases h
  ·cases h
 |.label l',ac,h,l=>by
  simp only [bY,Option.some.injEq] at h;subst h;simp only [ti,findLabel];split
  ·exact ⟨fun h=>(by cases h),fun q hq=>by cases hq;exact ⟨.skip,rfl,rfl⟩⟩
  ·exact ⟨fun _=>rfl,fun q hq=>by cases hq⟩
 |.skip,ac,h,l=>by simp only [bY,Option.some.injEq] at h;subst h;exact ⟨fun _=>rfl,fun q hq=>by cases hq⟩
 |.exit _,ac,h,l=>by simp only [bY,Option.some.injEq] at h;subst h;exact ⟨fun _=>rfl,fun q hq=>by cases hq⟩
 |.ret,ac,h,l=>by simp only [bY,Option.some.injEq] at h;subst h;exact ⟨fun _=>rfl,fun q hq=>by cases hq⟩
 |.refuse _,ac,h,l=>by simp only [bY,Option.some.injEq] at h;subst h;exact ⟨fun _=>rfl,fun q hq=>by cases hq⟩
 |.goto _,ac,h,l=>by simp only [bY,Option.some.injEq] at h;subst h;exact ⟨fun _=>rfl,fun q hq=>by cases hq⟩
 |.cond _ _ _,ac,h,l=>by
  simp only [bY] at h;split at h
  ·split at h
   ·cases h;exact ⟨fun _=>rfl,fun q hq=>by cases hq⟩
   ·cases h
  ·cases h
 |.block _ _,ac,h,l=>by
  simp only [bY] at h;split at h
  ·cases h;exact ⟨fun _=>rfl,fun q hq=>by cases hq⟩
  ·cases h
 |.loop _,ac,h,l=>by
  simp only [bY] at h;split at h
  ·cases h;exact ⟨fun _=>rfl,fun q hq=>by cases hq⟩
  ·cases h
 |.scope _,ac,h,l=>by
  simp only [bY] at h;split at h
  ·cases h;exact ⟨fun _=>rfl,fun q hq=>by cases hq⟩
  ·cases h
 |.rangeFunc _ _ _ _,ac,h,l=>by
  simp only [bY] at h;split at h
  ·split at h
   ·split at h
    ·cases h;exact ⟨fun _=>rfl,fun q hq=>by cases hq⟩
    ·cases h
   ·cases h
  ·cases h
 |.region _ ops draw,ac,h,l=>by
  simp only [bY] at h;split at h
  ·rename_i ros hros
   split at h
   ·unfold Eg at h
    split at h
    ·obtain ⟨q,s,ord,_,_,_,hac⟩:=tn h
     rw [hac];exact ⟨fun _=>rfl,fun q hq=>by cases hq⟩
    ·cases h
   ·cases h;exact ⟨fun _=>rfl,fun q hq=>by cases hq⟩
  ·cases h
theorem findT_strip:∀ (t:AC) (l:Nat) (r:AC),lY t l=some r→lY t.strip l=some r.strip
 |.tab l' r' t,l,r,h=>by
  simp only [lY,AC.strip] at h ⊢;split at h
  ·rename_i e;cases h;rw [if_pos e]
  ·rename_i e;rw [if_neg e];exact findT_strip t l r h
 |.skip,_,_,h=>by cases h
 |.exit _,_,_,h=>by cases h
 |.ret,_,_,h=>by cases h
 |.seq ..,_,_,h=>by cases h
 |.cond ..,_,_,h=>by cases h
 |.block ..,_,_,h=>by cases h
 |.loop ..,_,_,h=>by cases h
 |.ops ..,_,_,h=>by cases h
 |.dops ..,_,_,h=>by cases h
 |.lv ..,_,_,h=>by cases h
 |.bad,_,_,h=>by cases h
 |.lbl ..,_,_,h=>by cases h
 |.goto ..,_,_,h=>by cases h
 |.scope ..,_,_,h=>by cases h
 |.rfn ..,_,_,h=>by cases h
theorem xv{x:AC}:∀ (ls:List Nat) (l:Nat) (q:AC),lY (BZ x ls) l=some q→ti x l=some q
 |[],l,q,h=>by cases h
 |l'::ls,l,q,h=>by
  unfold BZ at h;split at h
  ·rename_i r hr
   unfold lY at h;split at h
   ·rename_i e;cases h;rw [← e];exact hr
   ·exact xv ls l q h
  ·exact xv ls l q h
theorem B6:∀ (t:AC) (l:Nat) (r:AC),lY t l=some r→eF t=true→eF r=true
 |.tab l' r' t,l,r,h,hn=>by
  simp only [lY] at h;simp only [eF,Bool.and_eq_true] at hn;split at h
  ·cases h;exact hn.1
  ·exact B6 t l r h hn.2
 |.skip,_,_,h,_=>by cases h
 |.exit _,_,_,h,_=>by cases h
 |.ret,_,_,h,_=>by cases h
 |.seq ..,_,_,h,_=>by cases h
 |.cond ..,_,_,h,_=>by cases h
 |.block ..,_,_,h,_=>by cases h
 |.loop ..,_,_,h,_=>by cases h
 |.ops ..,_,_,h,_=>by cases h
 |.dops ..,_,_,h,_=>by cases h
 |.lv ..,_,_,h,_=>by cases h
 |.bad,_,_,h,_=>by cases h
 |.lbl ..,_,_,h,_=>by cases h
 |.goto ..,_,_,h,_=>by cases h
 |.scope ..,_,_,h,_=>by cases h
 |.rfn ..,_,_,h,_=>by cases h
theorem zW{P:Program}{G:Nat→Option (List AV)}{m:Nat→Bool}{nt:Nat}:∀ (c:Code) (ac:AC) (l:List (List RO)),bY P G m nt c=some ac→AM ac=some l →
  (∃ id ops ros,c = .region id ops false∧l=[ros]∧th P G (m id) nt ops ops.toList=some ros)∨∃ x y x' y' l1 l2,c = .seq x y∧bY P G m nt x=some x'∧bY P G m nt y=some y'∧AM x'=some l1∧AM y'=some l2∧l=l1++l2:=by
 intro c ac l h ha;cases c with
 |region id ops draw=>
  simp only [bY] at h;split at h
  ·rename_i ros hros
   cases draw with
   |false=>simp only [Bool.false_eq_true,if_false,Option.some.injEq] at h;subst h;cases ha;exact .inl ⟨id,ops,ros,rfl,rfl,hros⟩
   |true=>
    simp only [if_true] at h;unfold Eg at h;split at h
    ·obtain ⟨q,s,ord,_,_,_,hac⟩:=tn h
     rw [hac] at ha;cases ha
    ·cases h
  ·cases h
 |seq x y=>
  simp only [bY] at h;split at h
  ·rename_i x' hx
   split at h
   ·rename_i y' hy
    cases h;simp only [AM] at ha;split at ha
    ·rename_i l1 l2 e1 e2
     cases ha;exact .inr ⟨x,y,x',y',l1,l2,rfl,hx,hy,e1,e2,rfl⟩
    ·cases ha
   ·cases h
  ·cases h
 |_=>
  simp only [bY] at h
  repeat' split at h
  all_goals first | (cases h;done) | (cases h;cases ha)
theorem B7(k:List Fra):∀ l:List (List RO),kM (l.map (fun l=>Fra.c (.ops l))++k)=kM k
 |[]=>rfl
 |_::l=>B7 k l
theorem I0(hE:E.Ok){n:Nat}(hC:∀ j,j<n→nA dec E j){fn:AFn}{H0:List AObj}{r:Out}{N:Fr}{m:Nat→Bool}{nt:Nat}(hnt:nt≤N.n){K:aj}(hg:K.glob=E.G)
  (hpan:∀ (j:Nat) (k:List Fra) (a:Env) (v:AV) (H:List AObj),kM k=some .nilp→eR dec E (ev dec E j) fn H0 k a v H=none) (y:Code) :
  ∀ (Qn:Act→World→Prop) (ac:AC) (l:List (List RO)) (k:List Fra) (j:Nat) (K':aj) (a:Env) (H:List AObj) (act:Act) (w:World),bY E.P E.G m nt y=some ac→AM ac=some l→kM k=some .nilp→j≤n →
   ev dec E j fn H0 (l.map (fun l=>Fra.c (.ops l))++k) a H=some r→K.le K'→Rel N K' a H act w →
   (∀ (j':Nat) (K2:aj) (a2:Env) (H2:List AObj) (act2:Act) (w2:World),j'<j→K.le K2→Rel N K2 a2 H2 act2 w2→ev dec E j' fn H0 k a2 H2=some r→Qn act2 w2) →
   y.wpIn N.F 0 E.P (Exit.then Qn (fun _ _ _=>False)) act w:=by
 have reg:∀ (id:Nat) (ops:Array Oper) (ros:List RO) (Qn:Act→World→Prop) (k:List Fra) (j:Nat) (K':aj) (a:Env) (H:List AObj) (act:Act) (w:World),th E.P E.G (m id) nt ops ops.toList=some ros→kM k=some .nilp→j≤n →
   ev dec E j fn H0 (.c (.ops ros)::k) a H=some r→K.le K'→Rel N K' a H act w →
   (∀ (j':Nat) (K2:aj) (a2:Env) (H2:List AObj) (act2:Act) (w2:World),j'<j→K.le K2→Rel N K2 a2 H2 act2 w2→ev dec E j' fn H0 k a2 H2=some r→Qn act2 w2) →
   (Code.region id ops false).wpIn N.F 0 E.P (Exit.then Qn (fun _ _ _=>False)) act w:=fun id ops ros Qn k j K' a H act w hros hk hj hev hle hr hq=>by
  refine wpIn_region ?_;have hrun:=qy hE (n:=j) (fun i hi=>hC i (by omega)) (N:=N) hnt hg (l2:=[]) (Qc:=Exit.then Qn (fun _ _ _=>False)) (k:=k) (r:=r) ?_ ?_ ops.toList ros (List.range ops.size) j K' a H act w (Nat.le_refl j) hev hros (zL ops) hle hr
  ·rwa [List.append_nil] at hrun
  ·intro j' K2 a2 H2 act2 w2 hj' hk2 hr2 hev2
   exact hq j' K2 a2 H2 act2 w2 hj' hk2 hr2 hev2
  ·intro j' K2 a2 H2 act2 w2 v cv hj' hk2 hv hr2 hx
   rw [hpan _ _ _ _ _ hk] at hx;cases hx
 induction y
 case seq x y ihx ihy=>
  intro Qn ac l k j K' a H act w hc ha hk hj hev hle hr hq;rcases zW _ _ _ hc ha with ⟨_,_,_,h1,_⟩ | ⟨x',y',ax,ay,l1,l2,h1,hx,hy,e1,e2,rfl⟩
  ·cases h1
  cases h1
  refine wpIn_seq (wpIn_mono (ihx (y.wpIn N.F 0 E.P (Exit.then Qn (fun _ _ _=>False))) ax l1 (l2.map (fun l=>Fra.c (.ops l))++k) j K' a H act w hx e1 ((B7 k l2).trans hk) hj (by rw [List.map_append,List.append_assoc] at hev;exact hev) hle hr
   fun j' K2 a2 H2 act2 w2 hj' hk2 hr2 hev2=>ihy Qn ay l2 k j' K2 a2 H2 act2 w2 hy e2 hk (by omega) hev2 hk2 hr2 fun j3 K3 a3 H3 act3 w3 h3=>hq j3 K3 a3 H3 act3 w3 (by omega)) ?_)
  intro e a3 w3 hp;cases e<;>first | exact hp | exact hp.elim
 all_goals
  intro Qn ac l k j K' a H act w hc ha hk hj hev hle hr hq;rcases zW _ _ _ hc ha with ⟨id,ops,ros,h1,rfl,hros⟩ | ⟨x',y',ax,ay,l1,l2,h1,_⟩
  ·first
   |(cases h1;done)
   |(cases h1;exact reg _ _ ros Qn k j K' a H act w hros hk hj hev hle hr hq)
  ·cases h1
theorem u9{K:aj}:∀ (ps:List Nat) (xs:List AV) (a:Env) (tmps:Array Value),(∀ v∈xs,ui v=true)→(∀ p∈ps,p<tmps.size)→(∀ t,V K (dF a t) (tmps.getD t undef)) →
  ((ps.zip (xs.map pz)).foldl (fun t (p,v)=>t.setIfInBounds p v) tmps).size=tmps.size∧∀ t,V K (dF (xi a ps xs) t) (((ps.zip (xs.map pz)).foldl (fun t (p,v)=>t.setIfInBounds p v) tmps).getD t undef)
 |[],xs,a,tmps,_,_,h=>by simpa [xi] using h
 |p::ps,[],a,tmps,_,_,h=>by simpa [xi] using h
 |p::ps,v::xs,a,tmps,hv,hp,h=>by
  simp only [List.map_cons,List.zip_cons_cons,List.foldl_cons,xi];have hlt:=hp p (by simp)
  obtain ⟨h1,h2⟩:=u9 ps xs (l6 a p v) (tmps.setIfInBounds p (pz v)) (fun u hu=>hv u (by simp [hu])) (fun q hq=>by simpa using hp q (by simp [hq])) (fun t=>by
   rw [jh];split
   ·rename_i e;subst e
    simpa [Array.getD_eq_getD_getElem?,hlt] using Ky (hv v (by simp))
   ·rename_i e
    have:=h t;simpa [Array.getD_eq_getD_getElem?,Array.getElem?_setIfInBounds_ne (fun h=>e h.symm)] using this)
  exact ⟨by simpa using h1,h2⟩
theorem xw:∀ {H H':List AObj},Dh H H'=true→∀ (i:Nat) (s:List UInt8) (p:Nat),H'[i]?=some (.siter s p)→∃ s' p',H[i]?=some (.siter s' p')
 |_,[],_,i,s,p,h=>by simp at h
 |[],x::l,hn,i,s,p,h=>by
  simp only [Dh,Bool.and_eq_true] at hn;cases i with
  |zero=>simp at h;subst h;simp [Fj] at hn
  |succ i=>obtain ⟨_,_,h2⟩:=xw hn.2 i s p (by simpa using h);simp at h2
 |y::H,x::l,hn,i,s,p,h=>by
  simp only [Dh,Bool.and_eq_true] at hn;cases i with
  |zero=>
   simp at h;subst h
   have:Fj y=true:=by simpa [Fj] using hn.1
   cases y<;>first | (cases this;done) | exact ⟨_,_,rfl⟩
  |succ i=>obtain ⟨s',p',h2⟩:=xw hn.2 i s p (by simpa using h);exact ⟨s',p',by simpa using h2⟩
theorem Fm{n:Nat}(hC:∀ j,j<n+1→nA dec E j)(hE:E.Ok)(IH:∀ j,j<n+1→tl dec E j){fn:AFn}{H0:List AObj}{g:Operand}{ps:Array Tmp}{l:List (List RO)}{ay az:AC}{y z:Code}{k:List Fra}{a:Env}{H:List AObj}{r:Out}
  (h:ev dec E (n+1) fn H0 (.c (.rfn (cx0 E.G g) ps.toList l az)::k) a H=some r) {N:Fr}{m:Nat→Bool}{nt:Nat} (hN:fn.dfr=none→(N.rd=none∧N.mks=true)∨eF (.rfn (cx0 E.G g) ps.toList l az)=true) (hnt:nt≤N.n)
  (hy:bY E.P E.G m nt y=some ay) (hya:AM ay=some l) (hz:bY E.P E.G m nt z=some az.strip) (hps:ps.all (· < nt)=true):AWP E.P E.G N (.rangeFunc g ps y z) (yS dec E (n+1) fn H0 k r) a H:=by
 simp only [ev] at h;split at h
 ·rename_i gf cap hgx hdf
  obtain ⟨hrd,hmk⟩:N.rd=none∧N.mks=true:=(hN hdf).resolve_right (by simp [eF]);split at h
  ·rename_i xs L hsq
   have hF:N.F=Fence.wide:=by unfold Fr.F;rw [hrd];rfl
   obtain ⟨res,hres,hcont⟩:∃ res:Option AC×List AObj,kg dec (ev dec E n) (qv fn) ps.toList l az a L H xs H=some res ∧
     (match res with | (none,H')=>ev dec E n fn H0 k a H'=some r | (some j,H')=>ev dec E n fn H0 (.c j::k) a H'=some r):=by
    split at h
    ·split at h
     ·rename_i H' e;exact ⟨_,e,h⟩
     ·rename_i j H' e;exact ⟨_,e,h⟩
     ·cases h
    ·cases h
   have har:E.sar gf=ps.toList.length:=by
    split at h
    ·rename_i e;exact Nat.eq_of_beq_eq_true e
    ·cases h
   obtain ⟨hplain,henter,hsw⟩:=hE.seq gf cap H xs L hsq;intro K act w hg hr;rw [hF];have hfv:=gE hg hr g;rw [hgx] at hfv;obtain ⟨vs,us,hfe,hv1,hv2⟩:=hfv.fn_inv;have hvs:vs = #[]:=Array.size_eq_zero_iff.1 hv1.size.symm;subst hvs;have hSW:=hsw K w us hg hr.inv hv2;have hbase:∀ b,w.heap.size≤b→K.base b:=hr.inv.base;have hKsh:∀ b s,K.shape b=some s→b<w.heap.size:=fun b s hs=>hr.inv.shape_lt hs
   have lowOf:∀ {K':aj}{H':List AObj}{W:World},K.le K'→Dh H H'=true→Inv K' H' W→Low w.heap.size (K'.dim w.heap.size) H':=fun {K' H' W} hk hn hi=>⟨fun id b s p hx hb=>by
    obtain ⟨s',p',h1⟩:=xw hn id s p hx;obtain ⟨b',h2,_,h3,_⟩:=hr.inv.obj id _ h1;have h4:=hk.loc id b' h2;have hb':K'.loc[id]?=some b:=hb;rw [h4] at hb';cases hb';exact (Array.getElem?_eq_some_iff.1 h3).1,fun b o hs=>(AT hs).1⟩
   have hlow0:Low w.heap.size K H:=⟨fun id b s p hx hb=>by
    obtain ⟨b',h2,_,h3,_⟩:=hr.inv.obj id _ hx;rw [hb] at h2;cases h2;exact (Array.getElem?_eq_some_iff.1 h3).1,fun b o hs=>hKsh b _ hs⟩
   have bs:∀ {K':aj},K.le K'→∀ b,w.heap.size≤b→K'.base b:=fun hk b hb=>by rw [hk.base];exact hbase b hb
   have hRel:∀ {K':aj}{H':List AObj}{W:World}{D:Nat},w.heap.size≤D→K.le K'→Inv K' H' W→Low w.heap.size K' H'→W.heap[D]?=some (.deferred (some [])) →
     ∃ K2,K.le K2∧Rel N K2 a H' { act with defers:=E5 D::act.defers } W:=fun {K' H' W D} hD hk hi hl hW=>by
    have hsD:K'.shape D=none:=by
     cases e:K'.shape D with
     |none=>rfl
     |some s=>
      have:=hi.shape D s e;cases s with
      |rows n=>obtain ⟨vs,T,f,h1,_⟩:=this;rw [hW] at h1;cases h1
      |mapv es=>obtain ⟨c,h1⟩:=this;rw [hW] at h1;cases h1
      |fix o=>have:=hl.fix D o e;omega
    have hp:=hi.pin hl;have hkp:=GH hi hl (bs hk);have hpD:=AU (K:=K') hD hW rfl;refine ⟨_,hk.trans hkp,hp, ?_,hr.size,fun t=>(hr.tmps t).mono (hk.trans hkp)⟩;obtain ⟨⟨ms,h1,h2,h3,h4⟩,h5⟩:=hr.defers;refine ⟨⟨D::ms,List.nodup_cons.2 ⟨fun hm => ?_,h1⟩,fun D' hD' => ?_,fun e => ?_, ?_⟩,fun b hb=>h5 b ?_⟩
    ·have:=hKsh D _ (h2 D hm).1;omega
    ·rcases List.mem_cons.1 hD' with rfl | hD'
     ·exact ⟨hpD,bs (hk.trans hkp) _ hD,h5 _ (by
       cases e:K.shape D' with
       |none=>rfl
       |some s=>have:=hKsh _ s e;omega)⟩
     ·obtain ⟨g1,g2,g3⟩:=h2 D' hD'
      exact ⟨(hk.trans hkp).shape _ _ g1,by rw [(hk.trans hkp).base];exact g2,g3⟩
    ·rw [hmk] at e;cases e
    ·simp [h4]
    ·cases e:K.shape b with
     |none=>rfl
     |some s=>rw [(hk.trans hkp).shape _ _ e] at hb;cases hb
   refine GJ (g:=g) (Kp:=fun _ W3 => ∃ K' H',K.le K'∧Inv K' H' W3∧Low w.heap.size K' H'∧∀ id∈L,id<H.length→H'[id]?=H[id]?) hfe henter (xs:=xs.map fun x=>(x.map pz).toArray)
    (fun l W J Jx hgr hJ hJx hsz hY h0=>hSW l W J Jx (hr.inv.grown hlow0 hbase hgr (fun r e=>by cases e)) hJ hJx hsz (fun i x W1 hx hj => ?_) h0) (fun x hx => ?_)
    (fun i W => ∃ K' H',K.le K'∧Inv K' H' W∧Low w.heap.size K' H'∧kg dec (ev dec E n) (qv fn) ps.toList l az a L H (xs.drop i) H'=some res)
    (fun c W => ∃ K' H' jc,K.le K'∧Inv K' H' W∧Low w.heap.size K' H'∧res=(some jc,H')∧((c = .ret∧jc = .ret)∨∃ id,c = .exit id∧jc = .exit id))
    (fun i W W' row hs hgr ht => ?_) (fun c W W' row hs hgr ht => ?_) ⟨K,H,.refl K,hr.inv,hlow0,hres⟩ (fun W W3 l r o' hl hW hk => ?_) (fun l' D i x W ra rb hD hl' hDl hWl hWD hx hI => ?_) (fun D W hD hI hW => ?_) (fun D c W hD hI hW => ?_)
   ·obtain ⟨fn2,t2,a2,b2,e1,e2⟩:=hY i x W1 hx hj
    refine ⟨fn2,t2,a2,b2,e1,e2.mono ?_⟩;rintro e W' (⟨h1,h2,h3,K',H',h4,h5,_,h6⟩ | h)
    ·exact .inl ⟨h1,h2,h3,K',H',h4,h5,h6⟩
    ·exact .inr h
   ·obtain ⟨xa,hxa,rfl⟩:=List.mem_map.1 hx
    simp [(hplain xa hxa).1,har]
   ·obtain ⟨K',H',h1,h2,h3,h4⟩:=hs
    exact ⟨K',H',h1,h2.grown h3 (bs h1) hgr ht,h3,h4⟩
   ·obtain ⟨K',H',jc,h1,h2,h3,h4⟩:=hs
    exact ⟨K',H',jc,h1,h2.grown h3 (bs h1) hgr ht,h3,h4⟩
   ·obtain ⟨K',H',h1,h2,h3,h4⟩:=hk
    exact ⟨K',H',h1,h2.grown h3 (bs h1) (grownBy_putObj' W3 l _) (fun r e=>by cases e;exact ⟨hl,_,hW,rfl⟩),h3,h4⟩
   ·
    rw [List.getElem?_map,Option.map_eq_some_iff] at hx;obtain ⟨xa,hxa,rfl⟩:=hx;obtain ⟨K1,H1,hk1,hi1,hl1,hrnd⟩:=hI
    have hdrop:xs.drop i=xa::xs.drop (i+1):=by
     have hlt:=(List.getElem?_eq_some_iff.1 hxa).1;rw [List.drop_eq_getElem_cons hlt,(List.getElem?_eq_some_iff.1 hxa).2]
    rw [hdrop] at hrnd;simp only [kg] at hrnd;split at hrnd
    ·rename_i v H2 hev
     split at hrnd
     ·rename_i hid hno _
      have hi2:=hi1.pin hl1;have hk2:K.le (K1.pin w.heap.size W):=hk1.trans (GH hi1 hl1 (bs hk1));have hpl:=AU (K:=K1) hl' hWl rfl;have hpD:=AU (K:=K1) hD hWD rfl
      obtain ⟨hsz,htm⟩:=u9 (K:=K1.pin w.heap.size W) ps.toList xa a act.tmps (hplain xa (List.mem_of_getElem? hxa)).2 (fun p hp=>by
       have:=Array.all_eq_true_iff_forall_mem.1 hps p (by simpa using hp);rw [hr.size];have h2:p<nt:=by simpa using this
       omega) (fun t=>(hr.tmps t).mono hk2)
      have hzip:(ps.zip (xa.map pz).toArray).foldl (fun t (p,v)=>t.setIfInBounds p v) act.tmps=(ps.toList.zip (xa.map pz)).foldl (fun t (p,v)=>t.setIfInBounds p v) act.tmps:=by
       rw [← Array.foldl_toList];simp
      have hrel:Rel { n:=N.n,rd:=some l',mks:=false } (K1.pin w.heap.size W) (xi a ps.toList xa) H1 { tmps:=(ps.zip (xa.map pz).toArray).foldl (fun t (p,v)=>t.setIfInBounds p v) act.tmps,defers:=[] } W:=
       ⟨hi2,.none fun _ _=>trivial,by rw [hzip];exact hsz.trans hr.size,by rw [hzip];exact htm⟩
      have noPan:∀ (j:Nat) (k:List Fra) (a:Env) (v:AV) (H':List AObj),kM k=some .nilp→eR dec E (ev dec E j) (qv fn) H1 k a v H'=none:=fun j k a v H' hk=>by
       simp only [eR,qv,hk,kN]
      have hKl:K.shape l'=none:=by
       cases e:K.shape l' with
       |none=>rfl
       |some s=>have:=hKsh _ s e;omega
      refine I0 hE (n:=n) (fun j hj=>hC j (by omega)) (N := { n:=N.n,rd:=some l',mks:=false }) hnt (K:=K1.pin w.heap.size W) (hk2.glob.trans hg) noPan y _ ay l [.c az,.dr .nilp] n _ _ H1 _ W hy hya rfl (Nat.le_refl n) hev (.refl _) hrel ?_;intro j K3 a3 H3 act3 W3 hj hk3 hr3 hev3;have hl3:=(hr3.inv.shape l' _ (hk3.shape _ _ hpl)).1;have hD3:=(hr3.inv.shape D _ (hk3.shape _ _ hpD)).1;refine ⟨hl3,hD3, ?_⟩
      have hb3:K3.base l':=bs (hk2.trans hk3) l' hl';have hk4:=GI (hk2.trans hk3) (o:=.loop rb) hb3 hKl
      have hr4:Rel { n:=N.n,rd:=some l',mks:=false } (K3.refix l' (.loop rb)) a3 H3 act3 (W3.putObj l' (.loop rb)):=
       ⟨hr3.inv.refix (hk3.shape _ _ hpl) hb3 rfl,by rw [hr3.defers.bare rfl];exact .none fun _ _=>trivial,hr3.size,fun t=>(hr3.tmps t).turned (tm (hk3.shape _ _ hpl))⟩
      have hw4:=IH j (by omega) (qv fn) H1 az [.dr .nilp] a3 H3 (.ret v,H2) hev3 { n:=N.n,rd:=some l',mks:=false } m nt z (fun e=>by cases e) hnt hz (K3.refix l' (.loop rb)) act3 _ (hk4.glob.trans hg) hr4;refine wpIn_mono hw4 ?_;rintro e act5 W5 ⟨K5,x,a5,H5,hk5,hxe,hr5,j5,hj5,hx5⟩;have hl5:=(hr5.inv.shape l' _ (hk5.shape _ _ (if_pos rfl))).1;have hD5:=(hr5.inv.shape D _ (hk5.shape _ _ ((if_neg hDl).trans (hk3.shape _ _ hpD)))).1
      have hk6:K.le K5:=hk4.trans hk5;have hk7:K.le (K5.dim w.heap.size):=GG hk6 hKsh (bs hk6)
      have hkept:zV w.heap.size W W5:=fun b s p hb hs=>by
       have h1:=AU (K:=K1) hb hs rfl;have hne:b≠l':=fun e=>by subst e;rw [hWl] at hs;cases hs
       exact (hr5.inv.shape b _ (hk5.shape _ _ ((if_neg hne).trans (hk3.shape _ _ h1)))).1
      cases x with
      |normal=>
       cases e<;>first | exact (hxe:False).elim | skip
       have hx':ev dec E j5 (qv fn) H1 [.dr .nilp] a5 H5=some (.ret v,H2):=hx5;cases j5 with
       |zero=>cases hx'
       |succ j5=>
        simp only [ev,Option.some.injEq,Prod.mk.injEq,kJ.ret.injEq] at hx';obtain ⟨rfl,rfl⟩:=hx';exact ⟨hl5,hD5,⟨_,_,hk7,hr5.inv.dim _,lowOf hk6 hno hr5.inv,hrnd⟩,hkept,_,_,hk7,hr5.inv.dim _,lowOf hk6 hno hr5.inv,hid⟩
      |exit id=>
       cases e<;>first | exact (hxe:False).elim | skip
       cases hxe;simp only [evX,unw,u5,kM,if_true,Option.some.injEq,Prod.mk.injEq,kJ.ret.injEq] at hx5;obtain ⟨rfl,rfl⟩:=hx5;simp only [Int.toNat_natCast,Option.some.injEq] at hrnd;exact ⟨hl5,hD5,_,_,_,hk7,hr5.inv.dim _,lowOf hk6 hno hr5.inv,hrnd.symm,.inr ⟨id,rfl,rfl⟩⟩
      |ret=>
       cases e<;>first | exact (hxe:False).elim | skip
       simp only [evX,kh,qv,kM,Option.some.injEq,Prod.mk.injEq,kJ.ret.injEq] at hx5;obtain ⟨rfl,rfl⟩:=hx5;simp only [Option.some.injEq] at hrnd;exact ⟨hl5,hD5,_,_,_,hk7,hr5.inv.dim _,lowOf hk6 hno hr5.inv,hrnd.symm,.inl ⟨rfl,rfl⟩⟩
      |panic v=>
       simp only [evX] at hx5;rw [noPan _ _ _ _ _ rfl] at hx5;cases hx5
      |goto l=>simp [evX,jmp] at hx5
     ·cases hrnd
    ·cases hrnd
   ·obtain ⟨K',H',h1,h2,h3,h4⟩:=hI
    rw [List.length_map,List.drop_length] at h4;cases h4;obtain ⟨K2,h5,h6⟩:=hRel hD h1 h2 h3 hW;exact ⟨K2,.normal,a,H',h5,trivial,h6,n,Nat.lt_succ_self n,hcont⟩
   ·obtain ⟨K',H',jc,h1,h2,h3,rfl,h4⟩:=hI
    obtain ⟨K2,h5,h6⟩:=hRel hD h1 h2 h3 hW
    have hcl:∀ c,bY E.P E.G m nt c=some jc.strip→eF jc=true→c.wpIn Fence.wide 0 E.P (yI N K (yS dec E (n+1) fn H0 k r)) { act with defers:=E5 D::act.defers } W:=fun c hc hn=>by
     have:=IH n (Nat.lt_succ_self n) fn H0 jc k a H' r hcont N m nt c (fun _=>.inr hn) hnt hc K2 _ W (h5.glob.trans hg) h6;rw [hF] at this;exact wpIn_mono this fun _ _ _ hl=>hl.mono h5 fun _ _ _ ⟨j,hj,h⟩=>⟨j,by omega,h⟩
    rcases h4 with ⟨rfl,rfl⟩ | ⟨id,rfl,rfl⟩
    ·exact hcl _ rfl rfl
    ·exact hcl _ rfl rfl
  ·cases h
 ·cases h
theorem Dn{n:Nat}(hC:∀ j,j<n→nA dec E j)(hE:E.Ok)(IH:∀ j,j<n→tl dec E j):tl dec E n:=by
  intro fn H0 ac k a H r h N m nt c hN hnt hc;cases n with
  |zero=>cases h
  |succ n=>
   by_cases hlv:∃ ax l,ac = .seq ax (.lv l)
   ·obtain ⟨ax,l,rfl⟩:=hlv
    have hc':bY E.P E.G m nt c=some ax.strip:=by simpa [AC.strip] using hc
    have h1:ev dec E n fn H0 (.c ax :: .c (.lv l)::k) a H=some r:=h;refine GM ((IH n (Nat.lt_succ_self n) fn H0 ax (.c (.lv l)::k) a H r h1 N m nt c (fun e=>(hN e).imp id fun h=>by simpa [eF] using h) hnt hc')) fun e a' H' hp => ?_
    by_cases he:e = .normal
    ·subst he
     obtain ⟨j,hj,h2⟩:=hp;have h2':ev dec E j fn H0 (.c (.lv l)::k) a' H'=some r:=h2;cases j with
     |zero=>cases h2'
     |succ j=>exact ⟨kb a' l,fun K act w hr=>hr.keep l,j,by omega,h2'⟩
    ·exact ⟨a',fun K act w hr=>hr,qA (n':=n+1) (k':=k) (Nat.le_succ n) (fun x a H m hx=>Ki hx) he hp⟩
   have hseq:∀ x y,ac = .seq x y→ac.strip = .seq x.strip y.strip:=fun x y e=>by
    rw [e];exact Fl fun l hl=>hlv ⟨x,l,by rw [e,hl]⟩
   cases c with
   |skip=>
    have:ac.strip = .skip:=by simpa [bY] using hc.symm
    cases ac<;>(try rw [hseq _ _ rfl] at this)<;>simp [AC.strip] at this
    exact Gi ⟨n,Nat.lt_succ_self n,h⟩
   |label l=>
    have:ac.strip = .lbl l:=by simpa [bY] using hc.symm
    cases ac<;>(try rw [hseq _ _ rfl] at this)<;>simp [AC.strip] at this
    exact E6 ⟨n,Nat.lt_succ_self n,h⟩
   |goto l=>
    have:ac.strip = .goto l:=by simpa [bY] using hc.symm
    cases ac<;>(try rw [hseq _ _ rfl] at this)<;>simp [AC.strip] at this
    subst this;exact Gk ⟨n,Nat.lt_succ_self n,h⟩
   |exit id=>
    have:ac.strip = .exit id:=by simpa [bY] using hc.symm
    cases ac<;>(try rw [hseq _ _ rfl] at this)<;>simp [AC.strip] at this
    subst this;exact Gj ⟨n,Nat.lt_succ_self n,h⟩
   |refuse s=>
    have:ac.strip = .bad:=by simpa [bY] using hc.symm
    cases ac<;>(try rw [hseq _ _ rfl] at this)<;>simp [AC.strip] at this
    cases h
   |ret=>
    have:ac.strip = .ret:=by simpa [bY] using hc.symm
    cases ac<;>(try rw [hseq _ _ rfl] at this)<;>simp [AC.strip] at this
    exact II ⟨n,Nat.lt_succ_self n,h⟩
   |seq x y=>
    simp only [bY] at hc;split at hc
    ·rename_i x' hx
     split at hc
     ·rename_i y' hy
      simp only [Option.some.injEq] at hc;cases ac<;>(try rw [hseq _ _ rfl] at hc)<;>simp [AC.strip] at hc
      rename_i ax ay;obtain ⟨rfl,rfl⟩:=hc;have h1:ev dec E n fn H0 (.c ax :: .c ay::k) a H=some r:=h;refine IJ ((IH n (Nat.lt_succ_self n) fn H0 ax (.c ay::k) a H r h1 N m nt x (fun e=>(hN e).imp id fun h=>(GN h).1) hnt hx).mono fun e a' H' hp => ?_)
      by_cases he:e = .normal
      ·subst he
       obtain ⟨j,hj,h2⟩:=hp;exact (IH j (by omega) fn H0 ay k a' H' r h2 N m nt y (fun e=>(hN e).imp id fun h=>(GN h).2) hnt hy).mono fun e2 a2 H2 ⟨j2,hj2,h3⟩=>⟨j2,by omega,h3⟩
      ·have:=qA (n':=n+1) (k':=k) (Nat.le_succ n) (fun x a H m hx=>Ki hx) he hp
       cases e<;>first | exact absurd rfl he | exact this
     ·cases hc
    ·cases hc
   |cond cx x y=>
    simp only [bY] at hc;split at hc
    ·rename_i x' hx
     split at hc
     ·rename_i y' hy
      simp only [Option.some.injEq] at hc;cases ac<;>(try rw [hseq _ _ rfl] at hc)<;>simp [AC.strip] at hc
      rename_i ax ay;obtain ⟨rfl,rfl,rfl⟩:=hc;simp only [ev] at h;split at h
      ·rename_i b hb
       rw [BP] at hb;refine Gl hb ?_;split at h
       ·rename_i e
        rw [if_pos e];exact (IH n (Nat.lt_succ_self n) fn H0 _ k a H r h N m nt x (fun e=>(hN e).imp id fun h=>(Eo h).1) hnt hx).mono fun e2 a2 H2 ⟨j2,hj2,h3⟩=>⟨j2,by omega,h3⟩
       ·rename_i e
        rw [if_neg e];exact (IH n (Nat.lt_succ_self n) fn H0 _ k a H r h N m nt y (fun e=>(hN e).imp id fun h=>(Eo h).2) hnt hy).mono fun e2 a2 H2 ⟨j2,hj2,h3⟩=>⟨j2,by omega,h3⟩
      ·cases h
     ·cases hc
    ·cases hc
   |block id x=>
    simp only [bY] at hc;split at hc
    ·rename_i x' hx
     simp only [Option.some.injEq] at hc;cases ac<;>(try rw [hseq _ _ rfl] at hc)<;>simp [AC.strip] at hc
     rename_i ax;obtain ⟨rfl,rfl⟩:=hc;have h1:ev dec E n fn H0 (.c ax :: .blk id::k) a H=some r:=h;refine E7 ((IH n (Nat.lt_succ_self n) fn H0 ax (.blk id::k) a H r h1 N m nt x (fun e=>(hN e).imp (fun h=>h) fun h=>h) hnt hx).mono fun e a' H' hp => ?_);obtain ⟨j,hj,h2⟩:=hp;cases e with
     |normal=>
      have h2':ev dec E j fn H0 (.blk id::k) a' H'=some r:=h2;cases j with
      |zero=>cases h2'
      |succ j=>exact ⟨j,by omega,h2'⟩
     |exit id'=>
      simp only [evX,unw] at h2;show if id'=id then _ else _
      by_cases e:id'=id
      ·rw [if_pos e]
       rw [if_pos e.symm] at h2;exact ⟨j,by omega,h2⟩
      ·rw [if_neg e]
       rw [if_neg (fun h=>e h.symm)] at h2;exact ⟨j,by omega,h2⟩
     |ret=>exact ⟨j,by omega,h2⟩
     |panic v=>exact ⟨j,by omega,h2⟩
     |goto l=>exact ⟨j,by omega,h2⟩
    ·cases hc
   |loop x=>
    simp only [bY] at hc;split at hc
    ·rename_i x' hx
     simp only [Option.some.injEq] at hc;cases ac<;>(try rw [hseq _ _ rfl] at hc)<;>simp [AC.strip] at hc
     rename_i lh ax;subst hc;have h1:ev dec E n fn H0 (.c ax :: .lp lh ax (kf lh a H).2::k) (kf lh a H).1 (kf lh a H).2=some r:=h;refine IY (a':=(kf lh a H).1) (H':=(kf lh a H).2) (fun K act w hr=>AS lh hr) ?_;refine AR (fun j a H=>j≤n∧ev dec E j fn H0 (.c ax :: .lp lh ax H::k) a H=some r) n ⟨Nat.le_refl n,h1⟩ ?_;rintro j a1 H1 ⟨hj,h2⟩;refine (IH j (by omega) fn H0 ax (.lp lh ax H1::k) a1 H1 r h2 N m nt x (fun e=>(hN e).imp id fun h=>h) hnt hx).mono fun e a' H' hp => ?_
     by_cases he:e = .normal
     ·subst he
      obtain ⟨j2,hj2,h3⟩:=hp;have h3':ev dec E j2 fn H0 (.lp lh ax H1::k) a' H'=some r:=h3;cases j2 with
      |zero=>cases h3'
      |succ j2=>
       simp only [ev] at h3';split at h3'
       ·rename_i a2 H2 hb
        exact ⟨j2,a2,H2,by omega,⟨by omega,h3'⟩,xo hb⟩
       ·cases h3'
     ·have:=qA (n':=n+1) (k':=k) (by omega) (fun x a H m hx=>KB hx) he hp
      cases e<;>first | exact absurd rfl he | exact this
    ·cases hc
   |region id ops draw=>
    simp only [bY] at hc;split at hc
    ·rename_i ros hros
     cases draw with
     |false=>
      simp only [Bool.false_eq_true,if_false,Option.some.injEq] at hc;cases ac<;>(try rw [hseq _ _ rfl] at hc)<;>simp [AC.strip] at hc
      subst hc;intro K act w hg hr;exact wpIn_region (IZ hE (n:=n+1) hC hnt hg ops.toList ros (List.range ops.size) (n+1) K a H act w (Nat.le_refl _) h hros (zL ops) (.refl K) hr)
     |true=>
      simp only [if_true] at hc;unfold Eg at hc;split at hc
      ·rename_i hu
       obtain ⟨q,s,ord,hmem,hlen,hlex,hac⟩:=tn hc
       have hq:q≠.pure:=by
        intro e;subst e;simp at hmem
       have hac2:ac = .dops s [] [] (ord.map fun k=>(ros.getD k default,yR (m id||m (id+1000000)) ops ros q s ord k)):=by
        cases ac<;>(try rw [hseq _ _ rfl] at hac)<;>simp [AC.strip] at hac
        obtain ⟨rfl,rfl,rfl,rfl⟩:=hac;rfl
       subst hac2;obtain ⟨Tf,Lf,_,_,_,_,h5⟩:=qz hE (n:=n+1) hC hnt hros (En (m id||m (id+1000000)) ops ros q s ord) ord [] [] (n+1) a H (Em hlex) (Nat.le_refl _) h;exact Fh (yR (m id||m (id+1000000)) ops ros q s ord) (LL hq hros hu (En (m id||m (id+1000000)) ops ros q s ord)) (KpT Tf) ord KpT.trans hE.mixed hlen hlex (h5 (.inl rfl))
      ·cases hc
    ·cases hc
   |scope x=>
    simp only [bY] at hc;split at hc
    ·rename_i x' hx
     simp only [Option.some.injEq] at hc;cases ac<;>(try rw [hseq _ _ rfl] at hc)<;>simp [AC.strip] at hc
     rename_i ax t;obtain ⟨rfl,ht⟩:=hc;have h1:ev dec E n fn H0 (.c ax :: .sc t::k) a H=some r:=h;have hNx:fn.dfr=none→(N.rd=none∧N.mks=true)∨eF ax=true:=fun e=>(hN e).imp id fun h=>by simp [eF] at h;exact h.1
     have hNt:∀ l r',lY t l=some r'→fn.dfr=none→(N.rd=none∧N.mks=true)∨eF r'=true:=fun l r' hf e=>(hN e).imp id fun h=>by
      simp only [eF,Bool.and_eq_true] at h;exact B6 t l r' hf h.2
     have post:∀ (j:Nat) (e:fo) (a':Env) (H':List AObj),j≤n→yS dec E j fn H0 (.sc t::k) r e a' H'→match e with
       |.goto l => ∃ m',m'<j∧∃ r',lY t l=some r'∧ev dec E m' fn H0 (.c r' :: .sc t::k) a' H'=some r
       |e=>yS dec E (n+1) fn H0 k r e a' H':=fun j e a' H' hj hp=>by
      obtain ⟨j2,hj2,h2⟩:=hp;cases e with
      |normal=>
       have h2':ev dec E j2 fn H0 (.sc t::k) a' H'=some r:=h2;cases j2 with
       |zero=>cases h2'
       |succ j2=>exact ⟨j2,by omega,h2'⟩
      |goto l=>
       simp only [evX,jmp] at h2;split at h2
       ·rename_i k' hk'
        split at hk'
        ·rename_i r' hr'
         cases hk';exact ⟨j2,hj2,r',hr',h2⟩
        ·cases hk'
       ·cases h2
      |exit id=>exact ⟨j2,by omega,h2⟩
      |ret=>exact ⟨j2,by omega,h2⟩
      |panic v=>exact ⟨j2,by omega,h2⟩
     refine E8 (fun j l a H=>j≤n∧∃ r',lY t l=some r'∧ev dec E j fn H0 (.c r' :: .sc t::k) a H=some r) n ?_ ?_
     ·refine (IH n (Nat.lt_succ_self n) fn H0 ax (.sc t::k) a H r h1 N m nt x hNx hnt hx).mono fun e a' H' hp => ?_
      have:=post n e a' H' (Nat.le_refl n) hp;cases e<;>first | exact this | (obtain ⟨m',h2,h3⟩:=this;exact ⟨m',by omega,by omega,h3⟩)
     ·rintro j l a1 H1 ⟨hj,r',hf,h2⟩
      obtain ⟨rest,e1,e2⟩:=(sj x _ hx l).2 _ (xv (AL ax.strip).eraseDups l _ (by rw [ht];exact findT_strip t l r' hf));refine ⟨rest,e1,(IH j (by omega) fn H0 r' (.sc t::k) a1 H1 r h2 N m nt rest (hNt l r' hf) hnt e2).mono fun e a' H' hp => ?_⟩;have:=post j e a' H' hj hp;cases e<;>first | exact this | (obtain ⟨m',h2,h3⟩:=this;exact ⟨m',h2,by omega,h3⟩)
    ·cases hc
   |rangeFunc g ps y z=>
    simp only [bY] at hc;split at hc
    ·rename_i y' hy
     split at hc
     ·rename_i l' z' hya hz
      split at hc
      ·rename_i hps
       simp only [Option.some.injEq] at hc;cases ac<;>(try rw [hseq _ _ rfl] at hc)<;>simp [AC.strip] at hc
       rename_i gx ps' ay az;obtain ⟨rfl,rfl,rfl,rfl⟩:=hc;exact Fm hC hE IH h hN hnt hy hya hz hps
      ·cases hc
     ·cases hc
    ·cases hc
end
end Go.Am
end
section
namespace Go.Am
open Go.RowKit
theorem Do{c A B:Code}{id:Nat}{ops:Array Oper}{os:List Oper}{o:Oper}(h:Dg c=some (A,id,ops,os,o,B)):c = .seq A (.seq (.region id ops false) B)∧ops.toList=os++[o]:=by
 unfold Dg at h;split at h
 ·split at h
  ·rename_i o' os' hrev
   split at h
   ·simp only [Option.some.injEq,Prod.mk.injEq] at h
    obtain ⟨rfl,rfl,rfl,rfl,rfl,rfl⟩:=h;refine ⟨rfl, ?_⟩;have:=congrArg List.reverse hrev;simpa using this
   ·cases h
  ·cases h
 ·cases h
section
variable{dec:Dec}{E:bc}
theorem Fo{P:Program}{G:Nat→Option (List AV)}{m:Nat→Bool}{n:Nat}{A B:Code}{id:Nat}{ops:Array Oper}{os:List Oper}{o:Oper}{a b:AC}{l:List RO}{x:RX}
  (h:Gz P G m n (A,id,ops,os,o,B)=some (a,l,x,b)):∃ c f,o.op = .defer c∧c.callee = .value f∧o.guard=none∧o.dst=none∧c.args = #[]∧bY P G m n A=some a∧th P G (m id) n ops os=some l∧bY P G m n B=some b∧x=cx0 G f:=by
 unfold Gz at h;simp only at h;split at h
 ·rename_i c hop
  split at h
  ·rename_i f hcal
   split at h
   ·rename_i hc
    simp only [Bool.and_eq_true,Option.isNone_iff_eq_none,Array.isEmpty_iff] at hc;split at h
    ·rename_i a' l' b' e1 e2 e3
     simp only [Option.some.injEq,Prod.mk.injEq] at h;obtain ⟨rfl,rfl,rfl,rfl⟩:=h;exact ⟨c,f,hop,hcal,hc.1.1,hc.1.2,hc.2,e1,e2,e3,rfl⟩
    ·cases h
   ·cases h
  ·cases h
 ·cases h
theorem B8(hE:E.Ok){n:Nat}(hCl:tl dec E n){g:FuncId}{args:List AV}{d:Nat}{fn':AFn}(hd:E.dfn g=some (d,fn')){p:AV}{H H':List AObj}{r:AV}
  (h:ev dec E n fn' H [.c fn'.c] (l6 (env args) d p) H=some (.ret r,H')) {K:aj}{w:World}{cargs:Array Value} (hg:K.glob=E.G) (hi:Inv K H w) (hv:Vs K args cargs) {u u':FrameMode}{pv:Value} (hp:V K p pv)
  (hrec:∀ (c₀:Frame) (cs:List Frame),c₀.mode=u→(recoverD (c₀::cs)=some (pv,{ c₀ with mode:=u' }::cs))∨(recoverD (c₀::cs)=none∧pv = .nilIface∧c₀::cs = { c₀ with mode:=u' }::cs)) :
  CallsD E.P g cargs u w fun e u2 w2 => ∃ v,e = .returned v∧u2=u'∧∃ K2,K.le K2∧Inv K2 H' w2:=by
 obtain ⟨hcomp,hdf⟩:=hE.dfn g d fn' hd;unfold B1 at hcomp;split at hcomp
 ·cases hcomp
 ·rename_i fnc hf
  split at hcomp
  ·cases hcomp
  ·split at hcomp
   ·rename_i id ops B hb
    split at hcomp
    ·rename_i o hops
     split at hcomp
     ·rename_i c d' hop hdst
      split at hcomp
      ·rename_i hcal
       split at hcomp
       ·rename_i hcond
        simp only [Bool.and_eq_true,Option.isNone_iff_eq_none,decide_eq_true_eq] at hcond;split at hcomp
        ·rename_i b rs hB hrs
         split at hcomp
         case isFalse=>cases hcomp
         rename_i hnr;simp only [Option.some.injEq,Prod.mk.injEq] at hcomp;obtain ⟨rfl,rfl,h2,h3⟩:=hcomp;have hw:=hCl fn' H fn'.c [] _ H (.ret r,H') h { n:=args.length+(fnc.ntmps-args.length),free:=fun b=>K.shape b=none,mks:=false } _ fnc.ntmps B (fun _=>.inr (by rw [← GO];exact hnr)) (show fnc.ntmps≤args.length+(fnc.ntmps-args.length) from by omega) hB;refine callsD_of_wpS hf hb fun c₀ cs hm=>wpS_seq (wpS_region ?_)
         have hsz:ops.size=1:=by rw [← Array.length_toList,hops];rfl
         have ho:ops[0]?=some o:=by rw [← Array.getElem?_toList,hops];rfl
         have hrun:∀ (act:Act),(execOp act.eval o).run E.P w = .ok .recover w:=fun act=>by
          unfold execOp;simp only [hop,resolve,hcal,pure_bind,invoke];rfl
         rw [hsz,show List.range 1=[0] from rfl];simp only [wpOpsS,ho,Region.wanted,hcond.1,if_true,hrun]
         have rest:∀ cs',cs' = { c₀ with mode:=u' }::cs→B.wpS E.P (bodyPostS E.P fnc c₀ cs fun e u2 w2 => ∃ v,e = .returned v∧u2=u'∧∃ K2,K.le K2∧Inv K2 H' w2)
           (({ tmps:=cargs++Array.replicate (fnc.ntmps-cargs.size) undef,defers:=[] }:Act).put o.dst pv) cs' w:=by
          rintro cs' rfl;refine wpS_of_wp ((wpIn_wide (n:=0)).1 (wpIn_mono (hw K _ w hg ?_) ?_))
          ·rw [hdst]
           have h0:Rel { n:=args.length+(fnc.ntmps-args.length),free:=fun b=>K.shape b=none,mks:=false } K (env args) H { tmps:=cargs++Array.replicate (fnc.ntmps-cargs.size) undef,defers:=[] } w:=
            ⟨hi,.none fun _ h=>h,by simp [← hv.size],fun t=>uf hv _ t⟩
           exact h0.put (.refl K) hi (dst:=some d') hp (fun d e=>by cases e;exact Nat.lt_of_lt_of_le hcond.2 (show fnc.ntmps≤args.length+(fnc.ntmps-args.length) from by omega))
          ·rintro e act w' ⟨K',x,a',H2,hk,he,hr,m,hm2,hx⟩
           cases x with
           |normal=>
            cases e<;>first | exact (he:False).elim | skip
            have hx':ev dec E m fn' H [] a' H2=some (.ret r,H'):=hx;cases m with
            |zero=>cases hx'
            |succ m=>
             simp only [ev,hdf] at hx';obtain ⟨cv,h5,K2,r2,H3,h6,h7,h8,h9,h10⟩:=rA h3 hrs hi hk hr hx';subst h10;exact ⟨hr.defers.bare rfl,u',rfl,cv,h5,cv,rfl,rfl,K2,h6,h8⟩
           |ret=>
            cases e<;>first | exact (he:False).elim | skip
            simp only [evX,kh,hdf] at hx;obtain ⟨cv,h5,K2,r2,H3,h6,h7,h8,h9,h10⟩:=rA h3 hrs hi hk hr hx;subst h10;exact ⟨hr.defers.bare rfl,u',rfl,cv,h5,cv,rfl,rfl,K2,h6,h8⟩
           |panic v=>
            simp only [evX,eR,hdf] at hx;unfold Fi at hx;split at hx<;>cases hx
           |exit id=>simp [evX,unw,u5,kM] at hx
           |goto l=>simp [evX,jmp] at hx
         rcases hrec c₀ cs hm with h1 | ⟨h1,h2,h3⟩
         ·rw [h1]
          exact rest _ rfl
         ·rw [h1]
          subst h2;exact rest _ h3
        ·cases hcomp
       ·cases hcomp
      ·cases hcomp
     ·cases hcomp
    ·cases hcomp
   ·cases hcomp
end
end Go.Am
end
section
namespace Go.Am
open Go.RowKit
section
variable{dec:Dec}{E:bc}
theorem B9{P:Program}{G:Nat→Option (List AV)}{g:FuncId}{x:Nat×AC×Nat×List mZ}(h:B1 P G g=some x)(args:Array Value)(w:World):(callFunc g args).run P w = .ok (.enter g args) w:=by
 unfold B1 at h;split at h
 ·cases h
 ·rename_i fn hf
  split at h
  ·cases h
  ·rename_i hn
   split at h
   ·rename_i hb
    exact eW hf (by simpa using hn) (by rw [hb];rfl) args w
   ·cases h
theorem vc(hE:E.Ok){n:Nat}(hCl:tl dec E n){fn':AFn}{fnc:Func}{rs:List mZ}(h3:rs=fn'.res)(hrs:pD E.P fnc.results.toList=some rs){N:Fr}{K K':aj}{H H2 H3:List AObj}{w w':World}{a':Env}{act:Act}{r:kJ}{H':List AObj}
  (hi:Inv K H w) (hk:K.le K') (hr:Rel N K' a' H2 act w') {v p:AV} (hcall:kN E (ev dec E n) v p H2=some H3) (hf:fin dec fn' H a' H3=some (r,H')) (hg:K.glob=E.G) {g2:FuncId}{vs us:Array Value} (hv:V K' v (.func (.func g2) vs us)) {pv:Value} (hp:V K' p pv) {u u':FrameMode}
  (hu:u≠.run) (hrec:∀ (c₀:Frame) (cs:List Frame),c₀.mode=u→(recoverD (c₀::cs)=some (pv,{ c₀ with mode:=u' }::cs))∨(recoverD (c₀::cs)=none∧pv = .nilIface∧c₀::cs = { c₀ with mode:=u' }::cs)) (hs:settle u' = .returning) :
  Leaves E.P fnc act.tmps (sQ K fun r2 H2=>r2=r∧H2=H') [{ target:=.fn (.func g2) us,args:=vs }] u w':=by
 unfold kN at hcall;split at hcall
 ·rename_i g first cap
  split at hcall
  ·rename_i d fd hd
   split at hcall
   ·rename_i rv H4 hev
    cases hcall;obtain ⟨vs',us',hve,h1,h2⟩:=hv.fn_inv;cases hve;obtain ⟨hcomp,hdf⟩:=hE.dfn _ d fd hd;have hargs:=h1.append h2;refine leaves_cons hu (f:=g2) (args:=vs++us) ?_ ?_
    ·have:=B9 hcomp (vs++us) w'
     exact this
    ·refine (B8 hE hCl hd hev (hk.glob.trans hg) hr.inv hargs hp hrec).mono ?_
     rintro e u2 w2 ⟨v2,rfl,rfl,K2,hk2,hi2⟩;simp only [hs];have hr2:Rel N K2 a' _ act w2:=⟨hi2,hr.defers.mono hk2,hr.size,fun t=>(hr.tmps t).mono hk2⟩
     obtain ⟨cv,h5,h6⟩:=rA h3 hrs hi (hk.trans hk2) hr2 hf;exact ⟨cv,h5,h6⟩
   ·cases hcall
  ·cases hcall
 ·cases hcall
theorem GP(hE:E.Ok){n:Nat}(hC:∀ j,j<n→nA dec E j)(hc:∀ j,j≤n→tl dec E j){g:FuncId}{fn':AFn}{fnc:Func}{rs:List mZ}{args:List AV}{H:List AObj}{r:kJ}{H':List AObj}
  {l:List RO}{x:RX}{aB:AC} (hdf:fn'.dfr=some (l,x,aB)) (hf:E.P.funcs[g]?=some fnc)
  (hname:(fnc.name == "runtime.NumGoroutine")=false) {A B:Code}{id:Nat}{ops:Array Oper}{os:List Oper}{o:Oper} (hb:fnc.body=some (.seq A (.seq (.region id ops false) B))) (hops:ops.toList=os++[o])
  (h3:rs=fn'.res) (hrs:pD E.P fnc.results.toList=some rs) (hA:bY E.P E.G (fn'.muts.contains ·) fnc.ntmps A=some fn'.c.strip) (hB:bY E.P E.G (fn'.muts.contains ·) fnc.ntmps B=some aB.strip)
  (hros:th E.P E.G (fn'.muts.contains id) fnc.ntmps ops os=some l) {c:Call}{f:Operand} (hop:o.op = .defer c) (hcal:c.callee = .value f) (hgd:o.guard=none) (hdst:o.dst=none) (hca:c.args = #[]) (hx:x=cx0 E.G f)
  (h:ev dec E n fn' H [.c fn'.c,.c (.ops l),.df x aB] (env args) H=some (r,H')):cB E.P E.G g args H fun r2 H2=>r2=r∧H2=H':=by
 have hnt:fnc.ntmps≤args.length+(fnc.ntmps-args.length):=by omega
 have hw:=hc n (Nat.le_refl n) fn' H fn'.c [.c (.ops l),.df x aB] (env args) H (r,H') h { n:=args.length+(fnc.ntmps-args.length),mks:=false } _ fnc.ntmps A (fun e=>by rw [hdf] at e;cases e) hnt hA;intro K w cargs hg hi hv;refine .inl ⟨eW hf hname (by simp [hb]) cargs w, ?_⟩;refine calls_of_wp_defers hf hb ((wpIn_wide (n:=0)).1 (wpIn_seq (wpIn_mono (hw K _ w hg ⟨hi,.none fun _ _=>trivial,by simp [← hv.size],fun t=>uf hv _ t⟩) ?_)))
 rintro e act w' ⟨K',xe,a',H2,hk,he,hr,m,hm,hx'⟩;cases xe with
 |normal=>
  cases e<;>first | exact (he:False).elim | skip
  have hx2:ev dec E m fn' H [.c (.ops l),.df x aB] a' H2=some (r,H'):=hx';refine wpIn_seq (wpIn_region ?_)
  have hsz:List.range ops.size=List.range os.length++[os.length]:=by
   rw [← Array.length_toList,hops];simp [List.range_succ]
  rw [hsz];refine qy hE (n:=n) hC (N := { n:=args.length+(fnc.ntmps-args.length),mks:=false }) hnt hg (l2:=[os.length]) ?_ ?_ os l (List.range os.length) m K' a' H2 act w' (by omega) hx2 hros ?_ hk hr
  ·
   intro j K1 a1 H1 act1 w1 hj hk1 hr1 hev;cases j with
   |zero=>cases hev
   |succ j=>
    simp only [ev] at hev;split at hev
    ·rename_i g2 first cap hfe
     split at hev
     ·rename_i hsome
      have ho:ops[os.length]?=some o:=by rw [← Array.getElem?_toList,hops];simp
      rw [wpOpsIn_cons,wpOpIn,ho];have hfv:=gE (hk1.glob.trans hg) hr1 f;rw [← hx,hfe] at hfv;obtain ⟨vs,us,hfv2,h1,h2⟩:=hfv.fn_inv
      have hrun:(execOp act1.eval o).run E.P w1 = .ok (.defer { target:=.fn (.func g2) us,args:=vs }) w1:=by
       unfold execOp;simp only [hop,resolve,hcal,hfv2,hca,pure_bind,Deferred.ofValue,Array.map_empty,Array.append_empty];rfl
      simp only [Region.wanted,hgd,if_true];refine ⟨fun f _=>trivial, ?_⟩;rw [show Oper.semAt (Fence.round _) act1.eval o=execOp act1.eval o from rfl,hrun,Oper.uponIn_defer,hdst];have hd0:act1.defers=[]:=hr1.defers.bare rfl
      have hr2:Rel { n:=args.length+(fnc.ntmps-args.length),mks:=false,ds:=[{ target:=.fn (.func g2) us,args:=vs }] } K1 a1 H1 (({ act1 with defers := { target:=.fn (.func g2) us,args:=vs }::act1.defers }:Act).put none undef) w1:=
       ⟨hr1.inv,by rw [hd0];exact .none fun _ _=>trivial,hr1.size,hr1.tmps⟩
      show Code.wpIn Fence.wide 0 E.P B _ _ w1;refine wpIn_mono (hc j (by omega) fn' H aB [.dr (.fn (.func g2) first cap)] a1 H1 (r,H') hev _ _ fnc.ntmps B (fun e=>by rw [hdf] at e;cases e) hnt hB K1 _ w1 (hk1.glob.trans hg) hr2) ?_;rintro e act2 w2 ⟨K2,x2,a2,H3,hk2,he2,hr3,m2,hm2,hx3⟩
      have hfv3:V K2 (.fn (.func g2) first cap) (.func (.func g2) vs us):=by
       rw [← hfv2];exact hfv.mono hk2
      have hds:act2.defers=[{ target:=.fn (.func g2) us,args:=vs }]:=hr3.defers.bare rfl;have hk3:=hk1.trans hk2
      have plain:∀ m3,m3≤n→kh dec E (ev dec E m3) fn' H [.dr (.fn (.func g2) first cap)] a2 H3=some (r,H')→Leaves E.P fnc act2.tmps (sQ K fun r2 H2=>r2=r∧H2=H') act2.defers .returning w2:=fun m3 hm3 hx4=>by
       simp only [kh,hdf,kM] at hx4;split at hx4
       ·rename_i H4 hcl
        rw [hds];refine vc hE (hc m3 hm3) h3 hrs hi hk3 hr3 hcl hx4 hg hfv3 (.nilif) (u:=.returning) (u':=.returning) (by simp) (fun c₀ cs hm=>.inr ⟨by simp [recoverD,hm],rfl,by rw [← hm]⟩) rfl
       ·cases hx4
      cases x2 with
      |normal=>
       cases e<;>first | exact (he2:False).elim | skip
       have hx4:ev dec E m2 fn' H [.dr (.fn (.func g2) first cap)] a2 H3=some (r,H'):=hx3;cases m2 with
       |zero=>cases hx4
       |succ m2=>exact plain m2 (by omega) hx4
      |ret=>
       cases e<;>first | exact (he2:False).elim | skip
       exact plain m2 (by omega) hx3
      |panic v=>
       cases e<;>first | exact (he2:False).elim | skip
       obtain ⟨cv,rfl,hcv⟩:=he2;simp only [evX,eR,hdf,kM] at hx3;split at hx3
       ·rename_i H4 hcl
        show Leaves E.P fnc act2.tmps _ act2.defers _ w2;rw [hds];refine vc hE (hc m2 (by omega)) h3 hrs hi hk3 hr3 hcl hx3 hg hfv3 hcv (u:=.panicking [{ v:=cv,recovered:=false }]) (u':=.panicking [{ v:=cv,recovered:=true }]) (by simp) (fun c₀ cs hm=>.inl (by simp [recoverD,hm])) rfl
       ·cases hx3
      |exit id=>simp [evX,unw,u5,kM] at hx3
      |goto l=>simp [evX,jmp] at hx3
     ·cases hev
    ·cases hev
  ·intro j K1 a1 H1 act1 w1 v cv hj hk1 hv1 hr1 hev
   simp [eR,hdf,kM] at hev
  ·refine List.ext_getElem? fun i => ?_
   rw [List.getElem?_map,List.getElem?_map]
   by_cases hi':i<os.length
   ·rw [List.getElem?_range hi']
    simp only [Option.map_some];rw [← Array.getElem?_toList,hops,List.getElem?_append_left hi',List.getElem?_eq_getElem hi'];rfl
   ·rw [List.getElem?_eq_none (by simp;omega),List.getElem?_eq_none (by omega)]
    rfl
 |ret=>simp [evX,kh,hdf,kM] at hx'
 |panic v=>simp [evX,eR,hdf,kM] at hx'
 |exit id=>simp [evX,unw,u5,kM] at hx'
 |goto l=>simp [evX,jmp] at hx'
theorem Fp(hE:E.Ok){n:Nat}(hC:∀ j,j<n→nA dec E j)(hc:∀ j,j≤n→tl dec E j):nA dec E n:=by
 intro g args H r H' h;unfold qw pG at h;split at h
 ·rename_i fn' hfn
  have hcomp:=hE.fn g fn' hfn;unfold GA at hcomp;split at hcomp
  ·cases hcomp
  ·rename_i fnc hf
   split at hcomp
   ·cases hcomp
   ·rename_i hname
    split at hcomp
    ·cases hcomp
    ·rename_i c hb
     split at hcomp
     ·cases hcomp
     ·rename_i rs hrs
      split at hcomp
      ·rename_i hsp
       split at hcomp
       ·cases hcomp
       ·rename_i ac hac
        simp only [Option.some.injEq,Prod.mk.injEq] at hcomp;obtain ⟨rfl,h2,h3,h4⟩:=hcomp
        have hdf:fn'.dfr=none:=by
         cases hd:fn'.dfr with
         |none=>rfl
         |some x=>rw [hd] at h4;cases h4
        simp only [hdf] at h;exact Dj (hc n (Nat.le_refl n)) hdf hf (by simpa using hname) hb h3 hrs hac h
      ·rename_i x hsp
       split at hcomp
       ·cases hcomp
       ·rename_i ac l y B hcd
        simp only [Option.some.injEq,Prod.mk.injEq] at hcomp;obtain ⟨rfl,h2,h3,h4⟩:=hcomp;obtain ⟨A0,id,ops,os,o,B0⟩:=x;obtain ⟨rfl,hops⟩:=Do hsp;obtain ⟨cc,f,e1,e2,e3,e4,e5,e6,e7,e8,e9⟩:=Fo hcd;cases hd:fn'.dfr with
        |none=>rw [hd] at h4;cases h4
        |some x=>
         obtain ⟨l',x',aB⟩:=x;rw [hd] at h4;simp only [Option.map_some,Option.some.injEq,Prod.mk.injEq] at h4;obtain ⟨rfl,rfl,rfl⟩:=h4;simp only [hd] at h;exact GP hE hC hc hd hf (by simpa using hname) hb hops h3 hrs e6 e8 e7 e1 e2 e3 e4 e5 e9 h
 ·exact hE.orc g args H r H' h
theorem n7(hE:E.Ok):∀ n,tl dec E n∧nA dec E n:=by
 intro n;induction n using Nat.strongRecOn with
 |ind n ih=>
  have h1:=Dn (fun j hj=>(ih j hj).2) hE (fun j hj=>(ih j hj).1)
  exact ⟨h1,Fp hE (fun j hj=>(ih j hj).2) fun j hj=>by
   rcases Nat.lt_or_eq_of_le hj with h | rfl
   ·exact (ih j h).1
   ·exact h1⟩
end
end Go.Am
end
section
namespace Go.Am
mutual
def AV.eqb:AV→AV→Bool
 |.unk,.unk=>true
 |.bool a,.bool b=>a == b
 |.int k m,.int k' n=>decide (k=k')&&decide (m=n)
 |.str s,.str t=>decide (s=t)
 |.nilp,.nilp=>true
 |.ptr i o,.ptr i' o'=>Nat.beq i i'&&Nat.beq o o'
 |.vptr e r i o,.vptr e' r' i' o'=>Nat.beq e e'&&AV.eqbR r r'&&Nat.beq i i'&&Nat.beq o o'
 |.slice t e r,.slice t' e' r'=>decide (t=t')&&Nat.beq e e'&&AV.eqbR r r'
 |.rslice i o l e r,.rslice i' o' l' e' r'=>Nat.beq i i'&&Nat.beq o o'&&Nat.beq l l'&&Nat.beq e e'&&r == r'
 |.nilmap,.nilmap=>true
 |.map i,.map i'=>Nat.beq i i'
 |.vmap es,.vmap es'=>AV.eqbE es es'
 |.sdp t r,.sdp t' r'=>Nat.beq t t'&&AV.eqbR r r'
 |.fn (.func g) a b,.fn (.func g') a' b'=>Nat.beq g g'&&AV.eqbL a a'&&AV.eqbL b b'
 |.nilfn,.nilfn=>true
 |.iface t v,.iface t' v'=>Nat.beq t t'&&AV.eqb v v'
 |.nilif,.nilif=>true
 |.agg a,.agg b=>AV.eqbL a b
 |.tuple a,.tuple b=>AV.eqbL a b
 |_,_=>false
def AV.eqbL:List AV→List AV→Bool
 |[],[]=>true
 |x::l,y::m=>AV.eqb x y&&AV.eqbL l m
 |_,_=>false
def AV.eqbR:List (List AV)→List (List AV)→Bool
 |[],[]=>true
 |x::l,y::m=>AV.eqbL x y&&AV.eqbR l m
 |_,_=>false
def AV.eqbE:List (AV×AV)→List (AV×AV)→Bool
 |[],[]=>true
 |x::l,y::m=>AV.eqbP x y&&AV.eqbE l m
 |_,_=>false
def AV.eqbP:AV×AV→AV×AV→Bool
 |(x,y),(x',y')=>AV.eqb x x'&&AV.eqb y y'
end
mutual
theorem AV.eqb_eq:∀ {x y:AV},AV.eqb x y=true→x=y
 |.unk,y,h=>by cases y<;>simp [AV.eqb] at h;rfl
 |.bool a,y,h=>by cases y<;>simp [AV.eqb] at h;rw [h]
 |.int k m,y,h=>by cases y<;>simp [AV.eqb] at h;rw [h.1,h.2]
 |.str s,y,h=>by cases y<;>simp [AV.eqb] at h;rw [h]
 |.nilp,y,h=>by cases y<;>simp [AV.eqb] at h;rfl
 |.ptr i o,y,h=>by cases y<;>simp [AV.eqb] at h;rw [h.1,h.2]
 |.vptr e r i o,y,h=>by
  cases y<;>simp [AV.eqb] at h
  obtain ⟨⟨⟨h1,h2⟩,h3⟩,h4⟩:=h;rw [h1,AV.eqbR_eq h2,h3,h4]
 |.slice t e r,y,h=>by
  cases y<;>simp [AV.eqb] at h
  obtain ⟨⟨h1,h2⟩,h3⟩:=h;rw [h1,h2,AV.eqbR_eq h3]
 |.rslice i o l e r,y,h=>by
  cases y<;>simp [AV.eqb] at h
  obtain ⟨⟨⟨⟨h1,h2⟩,h3⟩,h4⟩,h5⟩:=h;rw [h1,h2,h3,h4,h5]
 |.nilmap,y,h=>by cases y<;>simp [AV.eqb] at h;rfl
 |.map i,y,h=>by cases y<;>simp [AV.eqb] at h;rw [h]
 |.vmap es,y,h=>by cases y<;>simp [AV.eqb] at h;rw [AV.eqbE_eq h]
 |.sdp t r,y,h=>by
  cases y<;>simp [AV.eqb] at h
  rw [h.1,AV.eqbR_eq h.2]
 |.fn (.func g) a b,.fn (.func g') a' b',h=>by
  simp [AV.eqb] at h;obtain ⟨⟨h1,h2⟩,h3⟩:=h;rw [h1,AV.eqbL_eq h2,AV.eqbL_eq h3]
 |.fn (.func g) a b,.fn (.method _) a' b',h=>by simp [AV.eqb] at h
 |.fn (.func g) a b,.fn (.methodOf _ _) a' b',h=>by simp [AV.eqb] at h
 |.fn (.func g) a b,.fn (.via _ _ _ _) a' b',h=>by simp [AV.eqb] at h
 |.fn (.func g) a b,.fn (.yield _) a' b',h=>by simp [AV.eqb] at h
 |.fn (.method _) a b,y,h=>by simp [AV.eqb] at h
 |.fn (.methodOf _ _) a b,y,h=>by simp [AV.eqb] at h
 |.fn (.via _ _ _ _) a b,y,h=>by simp [AV.eqb] at h
 |.fn (.yield _) a b,y,h=>by simp [AV.eqb] at h
 |.fn (.func g) a b,.unk,h=>by simp [AV.eqb] at h
 |.fn (.func g) a b,.bool _,h=>by simp [AV.eqb] at h
 |.fn (.func g) a b,.int _ _,h=>by simp [AV.eqb] at h
 |.fn (.func g) a b,.str _,h=>by simp [AV.eqb] at h
 |.fn (.func g) a b,.nilp,h=>by simp [AV.eqb] at h
 |.fn (.func g) a b,.ptr _ _,h=>by simp [AV.eqb] at h
 |.fn (.func g) a b,.vptr _ _ _ _,h=>by simp [AV.eqb] at h
 |.fn (.func g) a b,.slice _ _ _,h=>by simp [AV.eqb] at h
 |.fn (.func g) a b,.rslice _ _ _ _ _,h=>by simp [AV.eqb] at h
 |.fn (.func g) a b,.nilmap,h=>by simp [AV.eqb] at h
 |.fn (.func g) a b,.map _,h=>by simp [AV.eqb] at h
 |.fn (.func g) a b,.vmap _,h=>by simp [AV.eqb] at h
 |.fn (.func g) a b,.sdp _ _,h=>by simp [AV.eqb] at h
 |.fn (.func g) a b,.nilfn,h=>by simp [AV.eqb] at h
 |.fn (.func g) a b,.iface _ _,h=>by simp [AV.eqb] at h
 |.fn (.func g) a b,.nilif,h=>by simp [AV.eqb] at h
 |.fn (.func g) a b,.agg _,h=>by simp [AV.eqb] at h
 |.fn (.func g) a b,.tuple _,h=>by simp [AV.eqb] at h
 |.nilfn,y,h=>by cases y<;>simp [AV.eqb] at h;rfl
 |.iface t v,y,h=>by
  cases y<;>simp [AV.eqb] at h
  rw [h.1,AV.eqb_eq h.2]
 |.nilif,y,h=>by cases y<;>simp [AV.eqb] at h;rfl
 |.agg a,y,h=>by cases y<;>simp [AV.eqb] at h;rw [AV.eqbL_eq h]
 |.tuple a,y,h=>by cases y<;>simp [AV.eqb] at h;rw [AV.eqbL_eq h]
theorem AV.eqbL_eq:∀ {x y:List AV},AV.eqbL x y=true→x=y
 |[],y,h=>by cases y<;>simp [AV.eqbL] at h;rfl
 |x::l,y,h=>by
  cases y<;>simp [AV.eqbL] at h
  rw [AV.eqb_eq h.1,AV.eqbL_eq h.2]
theorem AV.eqbR_eq:∀ {x y:List (List AV)},AV.eqbR x y=true→x=y
 |[],y,h=>by cases y<;>simp [AV.eqbR] at h;rfl
 |x::l,y,h=>by
  cases y<;>simp [AV.eqbR] at h
  rw [AV.eqbL_eq h.1,AV.eqbR_eq h.2]
theorem AV.eqbE_eq:∀ {x y:List (AV×AV)},AV.eqbE x y=true→x=y
 |[],y,h=>by cases y<;>simp [AV.eqbE] at h;rfl
 |x::l,y,h=>by
  cases y<;>simp [AV.eqbE] at h
  rw [AV.eqbP_eq h.1,AV.eqbE_eq h.2]
theorem AV.eqbP_eq:∀ {x y:AV×AV},AV.eqbP x y=true→x=y
 |(x,x'),(y,y'),h=>by
  simp [AV.eqbP] at h;rw [AV.eqb_eq h.1,AV.eqb_eq h.2]
end
def AObj.eqb:AObj→AObj→Bool
 |.dead,.dead=>true
 |.cells a T,.cells b T'=>AV.eqbL a b&&Nat.beq T T'
 |.tok n T,.tok n' T'=>Nat.beq n n'&&Nat.beq T T'
 |.siter s n,.siter s' n'=>decide (s=s')&&Nat.beq n n'
 |.map a,.map b=>AV.eqbE a b
 |_,_=>false
theorem AObj.eqb_eq{x y:AObj}(h:AObj.eqb x y=true):x=y:=by
 cases x<;>cases y<;>simp [AObj.eqb] at h<;>try rfl
 ·rw [AV.eqbL_eq h.1,h.2]
 ·rw [h.1,h.2]
 ·rw [h.1,h.2]
 ·rw [AV.eqbE_eq h]
def oO:List AObj→List AObj→Bool
 |[],_=>true
 |x::l,y::m=>AObj.eqb x y&&oO l m
 |_,_=>false
theorem n8:∀ {H H':List AObj},oO H H'=true→H'.take H.length=H
 |[],_,_=>by simp
 |x::l,y,h=>by
  cases y<;>simp [oO] at h
  rw [← AObj.eqb_eq h.1];simp [n8 h.2]
def Kj(L:List Nat)(H H':List AObj):Bool:=
 L.all fun id=>match H[id]? with
  |none=>true
  |some x=>match H'[id]? with
   |some y=>AObj.eqb x y
   |none=>false
theorem GQ{L:List Nat}{H H':List AObj}(h:Kj L H H'=true):∀ id∈L,id<H.length→H'[id]?=H[id]? := fun id hid hlt=>by
 have:=List.all_eq_true.1 h id hid;rw [List.getElem?_eq_getElem hlt] at this ⊢;simp only at this;split at this
 ·rename_i y hy;rw [hy,AObj.eqb_eq this]
 ·cases this
def I1:Dec where
 frz _ _ _ _:=.no
 deep _ _ _:=none
 hand _ _ _:=.no
 back _ _ _ _:=.no
 ap T L:=if h:L.all (fun x => !T.contains x)=true then .yes (fun x hx ht=>by
   have:=List.all_eq_true.1 h x hx;simp [ht] at this) else .no
 wide _ _ _ _ _ _:=.no
 same H H':=if h:(oO H H'&&Nat.beq H.length H'.length)=true then .yes (by
   simp only [Bool.and_eq_true,Nat.beq_eq] at h;have:=n8 h.1;rwa [h.2,List.take_length] at this) else .no
 keep H H':=if h:oO H H'=true then .yes (n8 h) else .no
 ids L H H':=if h:Kj L H H'=true then .yes (GQ h) else .no
end Go.Am
end
section
namespace Go.Am
open Go.RowKit
def sel{α:Type}(b:Bool)(x y:α):α:=
 match b with
 |true=>x
 |false=>y
def I2(x:Option (AV×List AObj)):Option Out:=
 match x with
 |some (v,H)=>some (.ret v,H)
 |none=>none
def I3(x:AV)(H:List AObj):Option Out:=
 match x with
 |.iface t v=>some (.panic (.iface t v),H)
 |_=>none
def nB(E:bc)(f:Rec)(x:AV)(args:List AV)(H:List AObj):Option Out:=
 match x with
 |.fn (.func g) first cap=>pG E f g (first++args++cap) H
 |_=>none
def lg(E:bc)(f:Rec)(a:Env)(H:List AObj)(s:RS):Option Out:=
 match s with
 |.op op=>I2 (rop a H op)
 |.call x args=>nB E f (rx a x) (args.map (rx a)) H
 |.panic x=>I3 (rx a x) H
 |.inv x m args=>nB E f (AO E (rx a x) m) (args.map (rx a)) H
def qC{α:Type}(v:AV)(w:Bool)(x u:Option α):Option α:=
 match v with
 |.bool b=>sel (b == w) x u
 |.tuple _=>u
 |_=>none
def fM{α:Type}(a:Env)(g:Option (Nat×Bool))(u x:Option α):Option α:=
 match g with
 |none=>x
 |some (t,w)=>qC (dF a t) w x u
def aft(dec:Dec)(E:bc)(f:Rec)(fn:AFn)(H0:List AObj)(os:List RO)(k:List Fra)(a:Env)(d:Option Nat)(r:Option Out):Option Out:=
 match r with
 |some (.ret v,H)=>f fn H0 (.c (.ops os)::k) (fk a d v) H
 |some (.panic v,H)=>eR dec E f fn H0 k a v H
 |none=>none
abbrev vr:=AV×List AObj×List Nat×List Nat
def GR(x:Option (AV×List AObj))(y:Option (List Nat×List Nat)):Option vr:=
 match x,y with
 |some (v,H),some (T,L)=>some (v,H,T,L)
 |_,_=>none
def uk(dec:Dec)(E:bc)(c:Cl)(x:AV)(args:List AV)(H:List AObj)(T L:List Nat)(r:Option Out):Option vr:=
 match x,r with
 |.fn (.func g) first cap,some (.ret v,H')=>if rz dec E c g (first++args++cap) H v H' then some (v,H',T,L) else none
 |_,_=>none
def n9(E:bc)(c:Cl)(x:AV)(args:List AV)(H:List AObj):Option (AV×List Nat):=
 match x with
 |.fn (.func g) first cap=>Ei E c g (first++args++cap) H
 |_=>none
def AZ(w:Option (AV×List Nat))(H:List AObj)(T L:List Nat)(r:Option vr):Option vr:=
 match w with
 |some (v,L1)=>some (v,H,T,L1++L)
 |none=>r
def mK(dec:Dec)(E:bc)(f:Rec)(a:Env)(H:List AObj)(s:Bool)(T L:List Nat)(c:Cl)(x:RS):Option vr:=
 match x with
 |.op op=>GR (rop a H op) (lf s c a op T L)
 |.call x args=>AZ (n9 E c (rx a x) (args.map (rx a)) H) H T L <| uk dec E c (rx a x) (args.map (rx a)) H T L (nB E f (rx a x) (args.map (rx a)) H)
 |.panic _=>none
 |.inv .. => none
def Dp(f:Rec)(fn:AFn)(H0:List AObj)(s:Bool)(l:List (RO×Cl))(k:List Fra)(a:Env)(d:Option Nat)(r:Option vr):Option Out:=
 match r with
 |some (v,H,T,L)=>f fn H0 (.c (.dops s T L l)::k) (fk a d v) H
 |none=>none
def condR(f:Rec)(fn:AFn)(H0:List AObj)(x y:AC)(k:List Fra)(a:Env)(H:List AObj)(c:AV):Option Out:=
 match c with
 |.bool b=>sel b (f fn H0 (.c x::k) a H) (f fn H0 (.c y::k) a H)
 |_=>none
def dfR(E:bc)(f:Rec)(fn:AFn)(H0:List AObj)(B:AC)(k:List Fra)(a:Env)(H:List AObj)(v:AV):Option Out:=
 match v with
 |.fn (.func g) first cap=>if (E.dfn g).isSome then f fn H0 (.c B :: .dr (.fn (.func g) first cap)::k) a H else none
 |_=>none
def emR(dec:Dec)(fn:AFn)(H0:List AObj)(a:Env)(H:List AObj):Option Out:=
 match fn.dfr with
 |none=>fin dec fn H0 a H
 |some _=>none
def vt(f:Rec)(fn:AFn)(H0:List AObj)(a:Env)(H:List AObj)(j:Option Out)(k:Option (List Fra)):Option Out:=
 match k with
 |some k=>f fn H0 k a H
 |none=>j
def GS(id:Nat)(k:List Fra)(H:List AObj):Option Out:=if u5 k=true then some (.ret (.int .i64 id),H) else none
def drR(dec:Dec)(E:bc)(f:Rec)(fn:AFn)(H0:List AObj)(k:List Fra)(a:Env)(H:List AObj)(v:AV):Option Out:=
 match v with
 |.nilp=>some (.ret .nilp,H)
 |v=>kh dec E f fn H0 (.dr v::k) a H
def Dq(f:Rec)(fn:AFn)(H0:List AObj)(k:List Fra)(a:Env)(r:Option (Option AC×List AObj)):Option Out:=
 match r with
 |some (none,H)=>f fn H0 k a H
 |some (some j,H)=>f fn H0 (.c j::k) a H
 |none=>none
def I4(dec:Dec)(E:bc)(f:Rec)(fn:AFn)(H0:List AObj)(ps:List Nat)(y:List (List RO))(z:AC)(k:List Fra)(a:Env)(H:List AObj)(x:AV)(d:Option (List RO×RX×AC)):Option Out:=
 match x,d with
 |.fn (.func g) [] cap,none=>match E.seq g cap H with
  |some (xs,L)=>if Nat.beq (E.sar g) ps.length=true then Dq f fn H0 k a (kg dec f (qv fn) ps y z a L H xs H) else none
  |none=>none
 |_,_=>none
def vd(f:Rec)(fn:AFn)(H0:List AObj)(h:LH)(x:AC)(k:List Fra)(r:Option (Env×List AObj)):Option Out:=
 match r with
 |some (a,H)=>f fn H0 (.c x :: .lp h x H::k) a H
 |none=>none
def inR(f:Rec)(fn:AFn)(H0:List AObj)(h:LH)(x:AC)(k:List Fra)(r:Env×List AObj):Option Out:=f fn H0 (.c x :: .lp h x r.2::k) r.1 r.2
def nC(dec:Dec)(T L:List Nat)(r:Option Out):Option Out:=
 match dec.ap T L with
 |.yes _=>r
 |.no=>none
def el(dec:Dec)(E:bc)(f:Rec)(fn:AFn)(H0:List AObj)(k:List Fra)(a:Env)(H:List AObj):Option Out:=
 match k with
 |[]=>emR dec fn H0 a H
 |.df x B::k=>dfR E f fn H0 B k a H (rx a x)
 |.dr v::k=>drR dec E f fn H0 k a H v
 |.blk _::k=>f fn H0 k a H
 |.sc _::k=>f fn H0 k a H
 |.lp h x He::k=>vd f fn H0 h x k (ke dec h He a H)
 |.c ac::k=>match ac with
  |.skip=>f fn H0 k a H
  |.exit id=>vt f fn H0 a H (GS id k H) (unw id k)
  |.lbl _=>f fn H0 k a H
  |.goto l=>vt f fn H0 a H none (jmp l k)
  |.scope x t=>f fn H0 (.c x :: .sc t::k) a H
  |.tab .. => none
  |.rfn x ps y z=>I4 dec E f fn H0 ps y z k a H (rx a x) fn.dfr
  |.ret=>kh dec E f fn H0 k a H
  |.seq x y=>f fn H0 (.c x :: .c y::k) a H
  |.lv l=>f fn H0 k (kb a l) H
  |.bad=>none
  |.cond c x y=>condR f fn H0 x y k a H (rx a c)
  |.block id x=>f fn H0 (.c x :: .blk id::k) a H
  |.loop h x=>inR f fn H0 h x k (kf h a H)
  |.ops []=>f fn H0 k a H
  |.ops (o::os)=>aft dec E f fn H0 os k a o.d (fM a o.g (some (.ret ej,H)) (lg E f a H o.s))
  |.dops _ T L []=>nC dec T L (f fn H0 k a H)
  |.dops s T L ((o,c)::l)=>Dp f fn H0 s l k a o.d (fM a o.g (some (ej,H,T,L)) (mK dec E f a H s T L c o.s))
section
variable{dec:Dec}{E:bc}
theorem tp{α:Type}(a:Env)(o:RO)(u x:Option α):fM a o.g u x=match r4 a o with
  |none=>none
  |some false=>u
  |some true=>x:=by
 unfold fM r4;cases o.g with
 |none=>rfl
 |some g=>
  simp only [qC];cases dF a g.1<;>simp only
  rename_i b;cases hb:(b == g.2)<;>simp [sel]
theorem A1(n:Nat)(fn:AFn)(H0:List AObj)(k:List Fra)(a:Env)(H:List AObj):ev dec E (n+1) fn H0 k a H=el dec E (ev dec E n) fn H0 k a H:=by
 match k with
 |[]=>
  simp only [ev,el,emR];cases fn.dfr<;>rfl
 |.df x B::k=>
  simp only [ev,el,dfR];cases rx a x with
  |fn f first cap=>cases f<;>rfl
  |_=>rfl
 |.dr v::k=>cases v<;>rfl
 |.blk _::k=>rfl
 |.sc _::k=>rfl
 |.lp h x He::k=>simp only [ev,el,vd];cases ke dec h He a H<;>rfl
 |.c .skip::k=>rfl
 |.c (.exit id)::k=>simp only [ev,el,vt,GS];cases unw id k<;>rfl
 |.c (.lbl _)::k=>rfl
 |.c (.goto l)::k=>simp only [ev,el,vt];cases jmp l k<;>rfl
 |.c (.scope x t)::k=>rfl
 |.c (.tab ..)::k=>rfl
 |.c (.rfn x ps y z)::k=>
  simp only [ev,el];generalize rx a x=v;generalize fn.dfr=d;cases v<;>rfl
 |.c .ret::k=>rfl
 |.c (.seq x y)::k=>rfl
 |.c (.lv l)::k=>rfl
 |.c .bad::k=>rfl
 |.c (.cond c x y)::k=>
  simp only [ev,el,condR];cases rx a c<;>simp only
  rename_i b;cases b<;>rfl
 |.c (.block id x)::k=>rfl
 |.c (.loop h x)::k=>rfl
 |.c (.ops [])::k=>rfl
 |.c (.ops (o::os))::k=>
  simp only [ev,el];rw [tp];cases hw:r4 a o with
  |none=>rfl
  |some b=>
   cases b with
   |false=>rfl
   |true=>
    simp only [lg];cases o.s with
    |op op=>simp only;cases rop a H op<;>rfl
    |call f args=>
     simp only [nB];cases rx a f with
     |fn f first cap=>
      cases f with
      |func g=>
       simp only [pG];cases E.fn g with
       |none=>
        simp only;cases E.orc g (first++args.map (rx a)++cap) H with
        |none=>rfl
        |some r=>obtain ⟨r,H'⟩:=r;cases r<;>rfl
       |some fn'=>
        simp only;cases fn'.dfr with
        |none=>
         simp only;cases ev dec E n fn' H [.c fn'.c] (env (first++args.map (rx a)++cap)) H with
         |none=>rfl
         |some r=>obtain ⟨r,H'⟩:=r;cases r<;>rfl
        |some q=>
         simp only;cases ev dec E n fn' H [.c fn'.c,.c (.ops q.1),.df q.2.1 q.2.2] (env (first++args.map (rx a)++cap)) H with
         |none=>rfl
         |some r=>obtain ⟨r,H'⟩:=r;cases r<;>rfl
      |_=>rfl
     |_=>rfl
    |panic x=>simp only [I3];cases rx a x<;>rfl
    |inv x m args=>
     simp only [nB];cases AO E (rx a x) m with
     |fn f first cap=>
      cases f with
      |func g=>
       simp only [pG];cases E.fn g with
       |none=>
        simp only;cases E.orc g (first++args.map (rx a)++cap) H with
        |none=>rfl
        |some r=>obtain ⟨r,H'⟩:=r;cases r<;>rfl
       |some fn'=>
        simp only;cases fn'.dfr with
        |none=>
         simp only;cases ev dec E n fn' H [.c fn'.c] (env (first++args.map (rx a)++cap)) H with
         |none=>rfl
         |some r=>obtain ⟨r,H'⟩:=r;cases r<;>rfl
        |some q=>
         simp only;cases ev dec E n fn' H [.c fn'.c,.c (.ops q.1),.df q.2.1 q.2.2] (env (first++args.map (rx a)++cap)) H with
         |none=>rfl
         |some r=>obtain ⟨r,H'⟩:=r;cases r<;>rfl
      |_=>rfl
     |_=>rfl
 |.c (.dops s T L [])::k=>rfl
 |.c (.dops s T L ((o,c)::l))::k=>
  simp only [ev,el];rw [tp];cases hw:r4 a o with
  |none=>rfl
  |some b=>
   cases b with
   |false=>rfl
   |true=>
    simp only [mK];cases o.s with
    |op op=>simp only [GR];cases rop a H op<;>cases lf s c a op T L<;>rfl
    |call f args=>
     simp only [nB,uk,AZ,n9];cases rx a f with
     |fn f first cap=>
      cases f with
      |func g=>
       simp only;cases Ei E c g (first++args.map (rx a)++cap) H with
       |some v=>rfl
       |none=>
        simp only;cases pG E (fun fn H0 k a H=>ev dec E n fn H0 k a H) g (first++args.map (rx a)++cap) H with
        |none=>rfl
        |some r=>
         obtain ⟨r,H'⟩:=r;cases r with
         |ret v=>simp only;split<;>rfl
         |panic v=>rfl
      |_=>rfl
     |_=>rfl
    |panic x=>rfl
    |inv x m args=>rfl
def RLe(f g:Rec):Prop:=∀ fn H0 k a H r,f fn H0 k a H=some r→g fn H0 k a H=some r
theorem Fq{f g:Rec}(h:RLe f g){x:FuncId}{args:List AV}{H:List AObj}{r:Out}(hr:pG E f x args H=some r):pG E g x args H=some r:=by
 unfold pG at hr ⊢;split at hr
 ·rename_i fn' he
  split at hr<;>exact h _ _ _ _ _ _ hr
 ·exact hr
theorem callDE_mono{f g:Rec}(h:RLe f g){v p:AV}{H H':List AObj}(hr:kN E f v p H=some H'):kN E g v p H=some H':=by
 unfold kN at hr ⊢;split at hr
 ·split at hr
  ·split at hr
   ·rename_i he;rw [h _ _ _ _ _ _ he];exact hr
   ·cases hr
  ·cases hr
 ·cases hr
theorem xx{f g:Rec}(h:RLe f g){fn:AFn}{H0:List AObj}{k:List Fra}{a:Env}{H:List AObj}{r:Out}(hr:kh dec E f fn H0 k a H=some r):kh dec E g fn H0 k a H=some r:=by
 unfold kh at hr ⊢;split at hr
 ·exact hr
 ·split at hr
  ·exact hr
  ·split at hr
   ·rename_i he;rw [callDE_mono h he];exact hr
   ·cases hr
  ·cases hr
theorem ve{f g:Rec}(h:RLe f g){fn:AFn}{H0:List AObj}{k:List Fra}{a:Env}{p:AV}{H:List AObj}{r:Out}(hr:eR dec E f fn H0 k a p H=some r):eR dec E g fn H0 k a p H=some r:=by
 unfold eR at hr ⊢;split at hr
 ·exact hr
 ·split at hr
  ·split at hr
   ·rename_i he;rw [callDE_mono h he];exact hr
   ·cases hr
  ·cases hr
theorem um{f g:Rec}(h:RLe f g){x:AV}{args:List AV}{H:List AObj}{r:Out}(hr:nB E f x args H=some r):nB E g x args H=some r:=by
 unfold nB at hr ⊢;split at hr
 ·exact Fq h hr
 ·cases hr
theorem xy{f g:Rec}(h:RLe f g){a:Env}{H:List AObj}{s:RS}{r:Out}(hr:lg E f a H s=some r):lg E g a H s=some r:=by
 unfold lg at hr ⊢;cases s with
 |op op=>exact hr
 |call x args=>exact um h hr
 |panic x=>exact hr
 |inv x m args=>exact um h hr
theorem xz{f g:Rec}(h:RLe f g){a:Env}{H:List AObj}{b:Bool}{T L:List Nat}{c:Cl}{s:RS}{r:vr}(hr:mK dec E f a H b T L c s=some r):mK dec E g a H b T L c s=some r:=by
 unfold mK at hr ⊢;cases s with
 |op op=>exact hr
 |call x args=>
  simp only at hr ⊢;unfold AZ at hr ⊢;split at hr
  ·exact hr
  ·cases hv:nB E f (rx a x) (args.map (rx a)) H with
   |none=>rw [hv] at hr;unfold uk at hr;split at hr<;>rename_i he<;>first | (cases he;done) | (cases hr;done)
   |some q=>rw [hv] at hr;rw [um h hv];exact hr
 |panic x=>exact hr
 |inv x m args=>exact hr
theorem ma{α:Type}{a:Env}{g:Option (Nat×Bool)}{u x y:Option α}{r:α}(h:∀ r,x=some r→y=some r)(hr:fM a g u x=some r):fM a g u y=some r:=by
 unfold fM at hr ⊢;cases g with
 |none=>exact h r hr
 |some g=>
  simp only [qC] at hr ⊢;split at hr
  ·rename_i b hb
   cases hc:(b == g.2)<;>rw [hc] at hr<;>simp only [sel] at hr ⊢
   ·exact hr
   ·exact h r hr
  ·exact hr
  ·cases hr
theorem rounds_mono{f g:Rec}(h:RLe f g){rf:AFn}{ps:List Nat}{y:List (List RO)}{z:AC}{a:Env}{L:List Nat}{H0:List AObj}:∀ (xs:List (List AV)) (H:List AObj) (r:Option AC×List AObj),kg dec f rf ps y z a L H0 xs H=some r→kg dec g rf ps y z a L H0 xs H=some r
 |[],_,_,hr=>hr
 |x::xs,H,r,hr=>by
  simp only [kg] at hr ⊢;split at hr
  ·rename_i v H' he
   rw [h _ _ _ _ _ _ he];simp only;split at hr
   ·split at hr
    ·exact rounds_mono h xs _ _ hr
    ·exact hr
    ·exact hr
    ·cases hr
   ·cases hr
  ·cases hr
theorem xA{f g:Rec}(h:RLe f g):RLe (el dec E f) (el dec E g):=by
 intro fn H0 k a H r hr
 match k with
 |[]=>exact hr
 |.df x B::k=>
  simp only [el,dfR] at hr ⊢;split at hr
  ·split at hr
   ·rename_i hs;simp only [hs,if_true];exact h _ _ _ _ _ _ hr
   ·cases hr
  ·cases hr
 |.dr v::k=>
  simp only [el,drR] at hr ⊢;split at hr
  ·exact hr
  ·exact xx h hr
 |.blk _::k=>exact h _ _ _ _ _ _ hr
 |.sc _::k=>exact h _ _ _ _ _ _ hr
 |.c (.lbl _)::k=>exact h _ _ _ _ _ _ hr
 |.c (.goto l)::k=>
  simp only [el,vt] at hr ⊢;split at hr
  ·exact h _ _ _ _ _ _ hr
  ·cases hr
 |.c (.scope x t)::k=>exact h _ _ _ _ _ _ hr
 |.c (.tab ..)::k=>cases hr
 |.c (.rfn x ps y z)::k=>
  simp only [el,I4] at hr ⊢;split at hr
  ·split at hr
   ·rename_i xs L hs
    split at hr
    ·rename_i hb
     rw [if_pos hb];unfold Dq at hr ⊢;split at hr
     ·rename_i he;rw [rounds_mono h _ _ _ he];exact h _ _ _ _ _ _ hr
     ·rename_i he;rw [rounds_mono h _ _ _ he];exact h _ _ _ _ _ _ hr
     ·cases hr
    ·cases hr
   ·cases hr
  ·cases hr
 |.lp lh x He::k=>
  simp only [el,vd] at hr ⊢;split at hr
  ·rename_i he;exact h _ _ _ _ _ _ hr
  ·cases hr
 |.c .skip::k=>exact h _ _ _ _ _ _ hr
 |.c (.exit id)::k=>
  simp only [el,vt] at hr ⊢;split at hr
  ·exact h _ _ _ _ _ _ hr
  ·exact hr
 |.c .ret::k=>exact xx h hr
 |.c (.seq x y)::k=>exact h _ _ _ _ _ _ hr
 |.c (.lv l)::k=>exact h _ _ _ _ _ _ hr
 |.c .bad::k=>cases hr
 |.c (.cond c x y)::k=>
  simp only [el,condR] at hr ⊢;split at hr
  ·rename_i b he
   cases b<;>simp only [sel] at hr ⊢ <;> exact h _ _ _ _ _ _ hr
  ·cases hr
 |.c (.block id x)::k=>exact h _ _ _ _ _ _ hr
 |.c (.loop lh x)::k=>exact h _ _ _ _ _ _ hr
 |.c (.ops [])::k=>exact h _ _ _ _ _ _ hr
 |.c (.ops (o::os))::k=>
  simp only [el] at hr ⊢;cases hv:fM a o.g (some (.ret ej,H)) (lg E f a H o.s) with
  |none=>rw [hv] at hr;cases hr
  |some q=>
   rw [hv] at hr;rw [ma (fun r=>xy h) hv];unfold aft at hr ⊢;obtain ⟨q,H'⟩:=q;cases q with
   |ret v=>exact h _ _ _ _ _ _ hr
   |panic v=>exact ve h hr
 |.c (.dops s T L [])::k=>
  simp only [el,nC] at hr ⊢;split at hr
  ·exact h _ _ _ _ _ _ hr
  ·cases hr
 |.c (.dops s T L ((o,c)::l))::k=>
  simp only [el] at hr ⊢;cases hv:fM a o.g (some (ej,H,T,L)) (mK dec E f a H s T L c o.s) with
  |none=>rw [hv] at hr;cases hr
  |some q=>
   rw [hv] at hr;rw [ma (fun r=>xz h) hv];exact h _ _ _ _ _ _ hr
theorem GT(n:Nat):RLe (ev dec E n) (ev dec E (n+1)):=by
 induction n with
 |zero=>intro fn H0 k a H r hr;cases hr
 |succ n ih=>
  intro fn H0 k a H r hr;rw [A1] at hr ⊢;exact xA ih fn H0 k a H r hr
theorem ki{n m:Nat}(h:n≤m):RLe (ev dec E n) (ev dec E m):=by
 induction m with
 |zero=>
  have:n=0:=by omega
  subst this;exact fun _ _ _ _ _ _ h=>h
 |succ m ih=>
  by_cases e:n=m+1
  ·subst e;exact fun _ _ _ _ _ _ h=>h
  ·exact fun fn H0 k a H r hr=>GT m fn H0 k a H r (ih (by omega) fn H0 k a H r hr)
end
structure bM (dec:Dec) (E:bc) where
 go:Rec
 spec:∀ fn H0 k a H r,go fn H0 k a H=some r↔∃ n,ev dec E n fn H0 k a H=some r
theorem vf(dec:Dec)(E:bc):Nonempty (bM dec E):=by
 have key:∀ (fn:AFn) (H0:List AObj) (k:List Fra) (a:Env) (H:List AObj),∃ o:Option Out,∀ r,o=some r↔∃ n,ev dec E n fn H0 k a H=some r:=by
  intro fn H0 k a H
  by_cases h:∃ n r,ev dec E n fn H0 k a H=some r
  ·obtain ⟨n,r,h⟩:=h
   refine ⟨some r,fun r'=>⟨fun e=>⟨n,by rw [h,e]⟩,fun ⟨m,hm⟩ => ?_⟩⟩;have h1:=ki (Nat.le_max_left n m) fn H0 k a H r h;have h2:=ki (Nat.le_max_right n m) fn H0 k a H r' hm;rw [← h1,← h2]
  ·exact ⟨none,fun r=>⟨fun e=>(by cases e),fun ⟨n,hn⟩=>absurd ⟨n,r,hn⟩ h⟩⟩
 exact ⟨⟨fun fn H0 k a H=>Classical.choose (key fn H0 k a H),fun fn H0 k a H=>Classical.choose_spec (key fn H0 k a H)⟩⟩
section
variable{dec:Dec}{E:bc}
theorem I5{α:Type}{x y:Option α}(h:∀ r,x=some r↔y=some r):x=y:=by
 cases x with
 |none=>
  cases y with
  |none=>rfl
  |some y=>exact ((h y).2 rfl)
 |some x=>exact ((h x).1 rfl).symm
theorem bM.le(M:bM dec E)(n:Nat):RLe (ev dec E n) M.go:=fun fn H0 k a H r h=>(M.spec fn H0 k a H r).2 ⟨n,h⟩
theorem bM.runV_fin(M:bM dec E){x:AV}{args:List AV}{H:List AObj}{r:Out}(h:nB E M.go x args H=some r):∃ n,nB E (ev dec E n) x args H=some r:=by
 unfold nB at h ⊢;split at h
 ·unfold pG at h ⊢
  split at h
  ·split at h<;>exact (M.spec _ _ _ _ _ _).1 h
  ·exact ⟨0,h⟩
 ·cases h
theorem bM.callDE_fin(M:bM dec E){v p:AV}{H H':List AObj}(hr:kN E M.go v p H=some H'):∃ n,kN E (ev dec E n) v p H=some H':=by
 unfold kN at hr ⊢;split at hr
 ·split at hr
  ·split at hr
   ·rename_i he
    obtain ⟨n,hn⟩:=(M.spec _ _ _ _ _ _).1 he;exact ⟨n,by rw [hn];exact hr⟩
   ·cases hr
  ·cases hr
 ·cases hr
theorem bM.finKE_fin(M:bM dec E){fn:AFn}{H0:List AObj}{k:List Fra}{a:Env}{H:List AObj}{r:Out}(hr:kh dec E M.go fn H0 k a H=some r):∃ n,kh dec E (ev dec E n) fn H0 k a H=some r:=by
 unfold kh at hr ⊢;split at hr
 ·exact ⟨0,hr⟩
 ·split at hr
  ·exact ⟨0,hr⟩
  ·split at hr
   ·rename_i he
    obtain ⟨n,hn⟩:=M.callDE_fin he;exact ⟨n,by rw [hn];exact hr⟩
   ·cases hr
  ·cases hr
theorem bM.rounds_fin(M:bM dec E){rf:AFn}{ps:List Nat}{y:List (List RO)}{z:AC}{a:Env}{L:List Nat}{H0:List AObj}:∀ (xs:List (List AV)) (H:List AObj) (r:Option AC×List AObj),kg dec M.go rf ps y z a L H0 xs H=some r→∃ n,kg dec (ev dec E n) rf ps y z a L H0 xs H=some r
 |[],_,_,hr=>⟨0,hr⟩
 |x::xs,H,r,hr=>by
  simp only [kg] at hr ⊢;split at hr
  ·rename_i v H' he
   obtain ⟨n1,h1⟩:=(M.spec _ _ _ _ _ _).1 he;split at hr
   ·rename_i hn hid _
    split at hr
    ·obtain ⟨n2,h2⟩:=M.rounds_fin xs _ _ hr
     refine ⟨max n1 n2, ?_⟩;rw [ki (Nat.le_max_left n1 n2) _ _ _ _ _ _ h1];simp only [*];exact rounds_mono (ki (Nat.le_max_right n1 n2)) _ _ _ h2
    ·exact ⟨n1,by rw [h1];simp only [*]⟩
    ·exact ⟨n1,by rw [h1];simp only [*]⟩
    ·cases hr
   ·cases hr
  ·cases hr
theorem bM.finPKE_fin(M:bM dec E){fn:AFn}{H0:List AObj}{k:List Fra}{a:Env}{p:AV}{H:List AObj}{r:Out}(hr:eR dec E M.go fn H0 k a p H=some r):∃ n,eR dec E (ev dec E n) fn H0 k a p H=some r:=by
 unfold eR at hr ⊢;split at hr
 ·exact ⟨0,hr⟩
 ·split at hr
  ·split at hr
   ·rename_i he
    obtain ⟨n,hn⟩:=M.callDE_fin he;exact ⟨n,by rw [hn];exact hr⟩
   ·cases hr
  ·cases hr
theorem vg{α:Type}{a:Env}{g:Option (Nat×Bool)}{u x:Option α}{y:Nat→Option α}{r:α}(h:x=some r→∃ n,y n=some r)(hr:fM a g u x=some r):∃ n,fM a g u (y n)=some r:=by
 unfold fM at hr ⊢;cases g with
 |none=>exact h hr
 |some g=>
  simp only [qC] at hr ⊢;split at hr
  ·rename_i b hb
   cases hc:(b == g.2)<;>rw [hc] at hr<;>simp only [sel] at hr ⊢
   ·exact ⟨0,hr⟩
   ·exact h hr
  ·exact ⟨0,hr⟩
  ·cases hr
theorem bM.stepR_fin(M:bM dec E){a:Env}{H:List AObj}{s:RS}{q:Out}(hs:lg E M.go a H s=some q):∃ n,lg E (ev dec E n) a H s=some q:=by
 unfold lg at hs ⊢;cases s with
 |op op=>exact ⟨0,hs⟩
 |call x args=>exact M.runV_fin hs
 |panic x=>exact ⟨0,hs⟩
 |inv x m args=>exact M.runV_fin hs
theorem bM.stepD_fin(M:bM dec E){a:Env}{H:List AObj}{b:Bool}{T L:List Nat}{c:Cl}{s:RS}{q:vr}(hs:mK dec E M.go a H b T L c s=some q):∃ n,mK dec E (ev dec E n) a H b T L c s=some q:=by
 unfold mK at hs ⊢;cases s with
 |op op=>exact ⟨0,hs⟩
 |call x args=>
  simp only at hs ⊢;unfold AZ at hs ⊢;split at hs
  ·exact ⟨0,hs⟩
  ·cases hv:nB E M.go (rx a x) (args.map (rx a)) H with
   |none=>rw [hv] at hs;unfold uk at hs;split at hs<;>rename_i he<;>first | (cases he;done) | (cases hs;done)
   |some q=>
    obtain ⟨n,hn⟩:=M.runV_fin hv;exact ⟨n,by simp only [hn];rw [← hv];exact hs⟩
 |panic x=>cases hs
 |inv x m args=>cases hs
theorem bM.step(M:bM dec E)(fn:AFn)(H0:List AObj)(k:List Fra)(a:Env)(H:List AObj):M.go fn H0 k a H=el dec E M.go fn H0 k a H:=by
 refine I5 fun r=>⟨fun h => ?_,fun h => ?_⟩
 ·obtain ⟨n,hn⟩:=(M.spec _ _ _ _ _ _).1 h
  cases n with
  |zero=>cases hn
  |succ n=>rw [A1] at hn;exact xA (M.le n) _ _ _ _ _ _ hn
 ·have tail:∀ {fn H0 k a H r},M.go fn H0 k a H=some r→∃ n,ev dec E n fn H0 k a H=some r:=fun h=>(M.spec _ _ _ _ _ _).1 h
  have back:(∃ n,el dec E (ev dec E n) fn H0 k a H=some r)→M.go fn H0 k a H=some r:=fun ⟨n,hn⟩=>(M.spec _ _ _ _ _ _).2 ⟨n+1,by rw [A1];exact hn⟩
  apply back
  match k with
  |[]=>exact ⟨0,h⟩
  |.df x B::k=>
   simp only [el,dfR] at h ⊢;split at h
   ·split at h
    ·rename_i hs;simp only [hs,if_true];exact tail h
    ·cases h
   ·cases h
  |.dr v::k=>
   simp only [el,drR] at h ⊢;split at h
   ·exact ⟨0,h⟩
   ·exact M.finKE_fin h
  |.blk _::k=>exact tail h
  |.sc _::k=>exact tail h
  |.c (.lbl _)::k=>exact tail h
  |.c (.goto l)::k=>
   simp only [el,vt] at h ⊢;split at h
   ·exact tail h
   ·cases h
  |.c (.scope x t)::k=>exact tail h
  |.c (.tab ..)::k=>cases h
  |.c (.rfn x ps y z)::k=>
   simp only [el,I4] at h ⊢;split at h
   ·split at h
    ·rename_i xs L hs
     split at h
     ·rename_i hb
      simp only [hb,if_true];unfold Dq at h
      have key:∀ {k2 H2}{q:Option AC×List AObj},kg dec M.go (qv fn) ps y z a L H xs H=some q→M.go fn H0 k2 a H2=some r→(∀ f:Rec,f fn H0 k2 a H2=Dq f fn H0 k a (some q))→∃ n,Dq (ev dec E n) fn H0 k a (kg dec (ev dec E n) (qv fn) ps y z a L H xs H)=some r:=fun {k2 H2 q} h1 h2 h3=>by
       obtain ⟨n1,g1⟩:=M.rounds_fin _ _ _ h1;obtain ⟨n2,g2⟩:=tail h2;refine ⟨max n1 n2, ?_⟩;rw [rounds_mono (ki (Nat.le_max_left n1 n2)) _ _ _ g1,← h3];exact ki (Nat.le_max_right n1 n2) _ _ _ _ _ _ g2
      split at h
      ·rename_i he;exact key he h fun _=>rfl
      ·rename_i he;exact key he h fun _=>rfl
      ·cases h
     ·cases h
    ·cases h
   ·cases h
  |.lp lh x He::k=>
   simp only [el,vd] at h ⊢;split at h
   ·rename_i he;exact tail h
   ·cases h
  |.c .skip::k=>exact tail h
  |.c (.exit id)::k=>
   simp only [el,vt] at h ⊢;split at h
   ·exact tail h
   ·exact ⟨0,h⟩
  |.c .ret::k=>exact M.finKE_fin h
  |.c (.seq x y)::k=>exact tail h
  |.c (.lv l)::k=>exact tail h
  |.c .bad::k=>cases h
  |.c (.cond c x y)::k=>
   simp only [el,condR] at h ⊢;split at h
   ·rename_i b he
    cases b<;>simp only [sel] at h ⊢ <;> exact tail h
   ·cases h
  |.c (.block id x)::k=>exact tail h
  |.c (.loop lh x)::k=>exact tail h
  |.c (.ops [])::k=>exact tail h
  |.c (.ops (o::os))::k=>
   simp only [el] at h ⊢;cases hv:fM a o.g (some (.ret ej,H)) (lg E M.go a H o.s) with
   |none=>rw [hv] at h;cases h
   |some q=>
    rw [hv] at h;obtain ⟨n1,h1⟩:=vg (y:=fun n=>lg E (ev dec E n) a H o.s) M.stepR_fin hv;have up:∀ m,n1≤m→fM a o.g (some (.ret ej,H)) (lg E (ev dec E m) a H o.s)=some q:=fun m hm=>ma (fun r=>xy (ki hm)) h1
    obtain ⟨q,H'⟩:=q;cases q with
    |ret v=>
     obtain ⟨n2,h2⟩:=tail h;refine ⟨max n1 n2, ?_⟩;rw [up _ (Nat.le_max_left _ _)];exact ki (Nat.le_max_right _ _) _ _ _ _ _ _ h2
    |panic v=>
     obtain ⟨n2,h2⟩:=M.finPKE_fin h;refine ⟨max n1 n2, ?_⟩;rw [up _ (Nat.le_max_left _ _)];exact ve (ki (Nat.le_max_right _ _)) h2
  |.c (.dops s T L [])::k=>
   simp only [el,nC] at h ⊢;split at h
   ·exact tail h
   ·cases h
  |.c (.dops s T L ((o,c)::l))::k=>
   simp only [el] at h ⊢;cases hv:fM a o.g (some (ej,H,T,L)) (mK dec E M.go a H s T L c o.s) with
   |none=>rw [hv] at h;cases h
   |some q=>
    rw [hv] at h;obtain ⟨n1,h1⟩:=vg (y:=fun n=>mK dec E (ev dec E n) a H s T L c o.s) M.stepD_fin hv;have up:∀ m,n1≤m→fM a o.g (some (ej,H,T,L)) (mK dec E (ev dec E m) a H s T L c o.s)=some q:=fun m hm=>ma (fun r=>xz (ki hm)) h1
    obtain ⟨n2,h2⟩:=tail h;refine ⟨max n1 n2, ?_⟩;rw [up _ (Nat.le_max_left _ _)];exact ki (Nat.le_max_right _ _) _ _ _ _ _ _ h2
def bM.run(M:bM dec E)(f:FuncId)(args:List AV)(H:List AObj):Option Out:=pG E M.go f args H
theorem bM.sound(M:bM dec E)(hE:E.Ok){f:FuncId}{args:List AV}{H:List AObj}{r:kJ}{H':List AObj}(h:M.run f args H=some (r,H')):cB E.P E.G f args H fun r2 H2=>r2=r∧H2=H':=by
 have h1:∃ n,qw dec E n f args H=some (r,H'):=by
  unfold bM.run pG at h;unfold qw pG;split at h
  ·split at h<;>exact (M.spec _ _ _ _ _ _).1 h
  ·exact ⟨0,h⟩
 obtain ⟨n,hn⟩:=h1;exact (n7 (dec:=dec) hE n).2 f args H r H' hn
end
end Go.Am
end
section
namespace Go.Am
open Go.RowKit
open Classical in
noncomputable def b4:Dec where
 frz H0 H v v':=if h:Eh H0 H v v' then .yes h else .no
 deep H0 H v:=if h:∃ v',Fz H0.length H v v'∧Eh H0 H v v' then some ⟨Classical.choose h,(Classical.choose_spec h).2⟩ else none
 hand H0 H v:=if h:dg H0 H∧Wk H0.length v (pE v) then .yes h else .no
 back He H a l:=if h:dg He H∧∀ t∈l,Wk He.length (dF a t) (dF a t) then .yes h else .no
 ap T L:=if h:apart T L then .yes h else .no
 wide E g args H v H':=if h:H'=H∧B3 E g args v then .yes h else .no
 same H H':=if h:H'=H then .yes h else .no
 keep H H':=if h:H'.take H.length=H then .yes h else .no
 ids L H H':=if h:∀ id∈L,id<H.length→H'[id]?=H[id]? then .yes h else .no
theorem Fs{H0 H:List AObj}{v:AV}(h1:dg H0 H)(h2:Wk H0.length v (pE v)):b4.hand H0 H v = .yes ⟨h1,h2⟩:=dif_pos (⟨h1,h2⟩:_∧_)
theorem Ft{He H:List AObj}{a:Env}{l:List Nat}(h1:dg He H)(h2:∀ t∈l,Wk He.length (dF a t) (dF a t)):b4.back He H a l = .yes ⟨h1,h2⟩:=dif_pos (⟨h1,h2⟩:_∧_)
theorem Ep{T L:List Nat}(h:apart T L):b4.ap T L = .yes h:=dif_pos h
theorem zX{H H':List AObj}(h:H'.take H.length=H):b4.keep H H' = .yes h:=dif_pos h
def xC{α β:Type}(o:Option α)(x y:β):β:=
 match o with
 |none=>x
 |some _=>y
theorem dsel_none{α β:Type}(x y:β):xC (none:Option α) x y=x:=rfl
theorem dsel_some{α β:Type}(o:α)(x y:β):xC (some o) x y=y:=rfl
theorem aw{α β:Type}{o o':Option α}{x y:β}(h:o=o'):xC o x y=xC o' x y:=by rw [h]
def GU(dec:Dec)(fn:AFn)(H0:List AObj)(a:Env)(r:Option (List AObj)):Option Out:=
 match r with
 |some H=>fin dec fn H0 a H
 |none=>none
def Fu(dec:Dec)(E:bc)(f:Rec)(fn:AFn)(H0:List AObj)(a:Env)(p:AV)(H:List AObj)(v:Option AV):Option Out:=
 match v with
 |some v=>GU dec fn H0 a (kN E f v p H)
 |none=>none
def Ca(dec:Dec)(E:bc)(f:Rec)(fn:AFn)(H0:List AObj)(a:Env)(H:List AObj)(v:Option AV):Option Out:=
 match v with
 |some .nilp=>some (.ret (.bool true),H)
 |v=>Fu dec E f fn H0 a .nilif H v
theorem dfinK_nil(dec:Dec)(E:bc)(f:Rec)(fn:AFn)(H0:List AObj)(a:Env)(H:List AObj):Ca dec E f fn H0 a H (some .nilp)=some (.ret (.bool true),H):=rfl
theorem dfinK_fn(dec:Dec)(E:bc)(f:Rec)(fn:AFn)(H0:List AObj)(a:Env)(H:List AObj)(g:Fn)(x y:List AV):Ca dec E f fn H0 a H (some (.fn g x y))=Fu dec E f fn H0 a .nilif H (some (.fn g x y)):=rfl
theorem I6(dec:Dec)(E:bc)(f:Rec)(fn:AFn)(H0:List AObj)(k:List Fra)(a:Env)(H:List AObj):kh dec E f fn H0 k a H=xC fn.dfr (fin dec fn H0 a H) (Ca dec E f fn H0 a H (kM k)):=by
 unfold kh;cases fn.dfr with
 |none=>rfl
 |some x=>
  simp only [xC,Ca];cases kM k with
  |none=>rfl
  |some v=>cases v<;>simp only [Fu,GU]<;>split<;>simp_all
theorem GV(dec:Dec)(E:bc)(f:Rec)(fn:AFn)(H0:List AObj)(k:List Fra)(a:Env)(p:AV)(H:List AObj):eR dec E f fn H0 k a p H=xC fn.dfr (Fi dec fn H0 p H) (Fu dec E f fn H0 a p H (kM k)):=by
 unfold eR;cases fn.dfr with
 |none=>rfl
 |some x=>
  simp only [xC,Fu];cases kM k with
  |none=>rfl
  |some v=>simp only [GU];cases kN E f v p H<;>rfl
section
variable{dec:Dec}{E:bc}(M:bM dec E)(fn:AFn)(H0:List AObj)(k:List Fra)(a:Env)(H:List AObj)
theorem go_nil:M.go fn H0 [] a H=xC fn.dfr (fin dec fn H0 a H) none:=by rw [M.step,el,emR];cases fn.dfr<;>rfl
theorem go_blk(id:Nat):M.go fn H0 (.blk id::k) a H=M.go fn H0 k a H:=M.step _ _ _ _ _
theorem go_lp(h:LH)(x:AC)(He:List AObj):M.go fn H0 (.lp h x He::k) a H=vd M.go fn H0 h x k (ke dec h He a H):=M.step _ _ _ _ _
theorem go_skip:M.go fn H0 (.c .skip::k) a H=M.go fn H0 k a H:=M.step _ _ _ _ _
theorem go_exit(id:Nat):M.go fn H0 (.c (.exit id)::k) a H=vt M.go fn H0 a H (GS id k H) (unw id k):=M.step _ _ _ _ _
theorem go_sc(t:AC):M.go fn H0 (.sc t::k) a H=M.go fn H0 k a H:=M.step _ _ _ _ _
theorem go_lbl(l:Nat):M.go fn H0 (.c (.lbl l)::k) a H=M.go fn H0 k a H:=M.step _ _ _ _ _
theorem go_goto(l:Nat):M.go fn H0 (.c (.goto l)::k) a H=vt M.go fn H0 a H none (jmp l k):=M.step _ _ _ _ _
theorem go_scope(x t:AC):M.go fn H0 (.c (.scope x t)::k) a H=M.go fn H0 (.c x :: .sc t::k) a H:=M.step _ _ _ _ _
theorem go_rfn(x:RX)(ps:List Nat)(y:List (List RO))(z:AC):M.go fn H0 (.c (.rfn x ps y z)::k) a H=I4 dec E M.go fn H0 ps y z k a H (rx a x) fn.dfr:=M.step _ _ _ _ _
theorem go_rnd:M.go fn H0 (.dr .nilp::k) a H=some (.ret .nilp,H):=M.step _ _ _ _ _
theorem go_ret:M.go fn H0 (.c .ret::k) a H=xC fn.dfr (fin dec fn H0 a H) (Ca dec E M.go fn H0 a H (kM k)):=by rw [M.step];exact I6 _ _ _ _ _ _ _ _
theorem go_seq(x y:AC):M.go fn H0 (.c (.seq x y)::k) a H=M.go fn H0 (.c x :: .c y::k) a H:=M.step _ _ _ _ _
theorem LM(l:List Nat):M.go fn H0 (.c (.lv l)::k) a H=M.go fn H0 k (kb a l) H:=M.step _ _ _ _ _
theorem go_cond(c:RX)(x y:AC):M.go fn H0 (.c (.cond c x y)::k) a H=condR M.go fn H0 x y k a H (rx a c):=M.step _ _ _ _ _
theorem go_block(id:Nat)(x:AC):M.go fn H0 (.c (.block id x)::k) a H=M.go fn H0 (.c x :: .blk id::k) a H:=M.step _ _ _ _ _
theorem go_loop(h:LH)(x:AC):M.go fn H0 (.c (.loop h x)::k) a H=inR M.go fn H0 h x k (kf h a H):=M.step _ _ _ _ _
theorem go_ops0:M.go fn H0 (.c (.ops [])::k) a H=M.go fn H0 k a H:=M.step _ _ _ _ _
theorem go_op(d:Option Nat)(op:ROp)(os:List RO):M.go fn H0 (.c (.ops (⟨d,none,.op op⟩::os))::k) a H=aft dec E M.go fn H0 os k a d (I2 (rop a H op)):=M.step _ _ _ _ _
theorem go_opg(d:Option Nat)(t:Nat)(w:Bool)(s:RS)(os:List RO):M.go fn H0 (.c (.ops (⟨d,some (t,w),s⟩::os))::k) a H=aft dec E M.go fn H0 os k a d (qC (dF a t) w (lg E M.go a H s) (some (.ret ej,H))):=M.step _ _ _ _ _
theorem go_call(d:Option Nat)(f:RX)(args:List RX)(os:List RO):M.go fn H0 (.c (.ops (⟨d,none,.call f args⟩::os))::k) a H=aft dec E M.go fn H0 os k a d (nB E M.go (rx a f) (args.map (rx a)) H):=M.step _ _ _ _ _
theorem go_inv(d:Option Nat)(x:RX)(m:String)(args:List RX)(os:List RO):M.go fn H0 (.c (.ops (⟨d,none,.inv x m args⟩::os))::k) a H=aft dec E M.go fn H0 os k a d (nB E M.go (AO E (rx a x) m) (args.map (rx a)) H):=M.step _ _ _ _ _
theorem go_panic(d:Option Nat)(x:RX)(os:List RO):M.go fn H0 (.c (.ops (⟨d,none,.panic x⟩::os))::k) a H=aft dec E M.go fn H0 os k a d (I3 (rx a x) H):=M.step _ _ _ _ _
theorem go_dops0(s:Bool)(T L:List Nat):M.go fn H0 (.c (.dops s T L [])::k) a H=nC dec T L (M.go fn H0 k a H):=M.step _ _ _ _ _
theorem go_dop(s:Bool)(T L:List Nat)(d:Option Nat)(op:ROp)(c:Cl)(l:List (RO×Cl)):M.go fn H0 (.c (.dops s T L ((⟨d,none,.op op⟩,c)::l))::k) a H=Dp M.go fn H0 s l k a d (GR (rop a H op) (lf s c a op T L)):=M.step _ _ _ _ _
theorem go_dopg(s:Bool)(T L:List Nat)(d:Option Nat)(t:Nat)(w:Bool)(x:RS)(c:Cl)(l:List (RO×Cl)):M.go fn H0 (.c (.dops s T L ((⟨d,some (t,w),x⟩,c)::l))::k) a H=Dp M.go fn H0 s l k a d (qC (dF a t) w (mK dec E M.go a H s T L c x) (some (ej,H,T,L))):=M.step _ _ _ _ _
theorem go_dcall(s:Bool)(T L:List Nat)(d:Option Nat)(f:RX)(args:List RX)(c:Cl)(l:List (RO×Cl)):M.go fn H0 (.c (.dops s T L ((⟨d,none,.call f args⟩,c)::l))::k) a H=Dp M.go fn H0 s l k a d (AZ (n9 E c (rx a f) (args.map (rx a)) H) H T L <| uk dec E c (rx a f) (args.map (rx a)) H T L (nB E M.go (rx a f) (args.map (rx a)) H)):=M.step _ _ _ _ _
theorem stepR_op(op:ROp):lg E M.go a H (.op op)=I2 (rop a H op):=rfl
theorem stepR_call(f:RX)(args:List RX):lg E M.go a H (.call f args)=nB E M.go (rx a f) (args.map (rx a)) H:=rfl
theorem stepR_inv(x:RX)(m:String)(args:List RX):lg E M.go a H (.inv x m args)=nB E M.go (AO E (rx a x) m) (args.map (rx a)) H:=rfl
theorem stepR_panic(x:RX):lg E M.go a H (.panic x)=I3 (rx a x) H:=rfl
theorem stepD_op(s:Bool)(T L:List Nat)(c:Cl)(op:ROp):mK dec E M.go a H s T L c (.op op)=GR (rop a H op) (lf s c a op T L):=rfl
theorem stepD_call(s:Bool)(T L:List Nat)(c:Cl)(f:RX)(args:List RX):mK dec E M.go a H s T L c (.call f args)=(AZ (n9 E c (rx a f) (args.map (rx a)) H) H T L <| uk dec E c (rx a f) (args.map (rx a)) H T L (nB E M.go (rx a f) (args.map (rx a)) H)):=rfl
theorem aft_ret(os:List RO)(d:Option Nat)(v:AV):aft dec E M.go fn H0 os k a d (some (.ret v,H))=M.go fn H0 (.c (.ops os)::k) (fk a d v) H:=rfl
theorem aft_panic(os:List RO)(d:Option Nat)(v:AV):aft dec E M.go fn H0 os k a d (some (.panic v,H))=xC fn.dfr (Fi dec fn H0 v H) (Fu dec E M.go fn H0 a v H (kM k)):=GV _ _ _ _ _ _ _ _ _
theorem aftD_some(s:Bool)(l:List (RO×Cl))(d:Option Nat)(v:AV)(T L:List Nat):Dp M.go fn H0 s l k a d (some (v,H,T,L))=M.go fn H0 (.c (.dops s T L l)::k) (fk a d v) H:=rfl
theorem Dr(x y:AC)(b:Bool):condR M.go fn H0 x y k a H (.bool b)=sel b (M.go fn H0 (.c x::k) a H) (M.go fn H0 (.c y::k) a H):=rfl
theorem unwR_some(j:Option Out)(k':List Fra):vt M.go fn H0 a H j (some k')=M.go fn H0 k' a H:=rfl
theorem unwR_none(j:Option Out):vt M.go fn H0 a H j none=j:=rfl
theorem jmp_c(l:Nat)(x:AC)(k:List Fra):jmp l (.c x::k)=jmp l k:=rfl
theorem jmp_lp(l:Nat)(h:LH)(x:AC)(He:List AObj)(k:List Fra):jmp l (.lp h x He::k)=jmp l k:=rfl
theorem jmp_blk(l i:Nat)(k:List Fra):jmp l (.blk i::k)=jmp l k:=rfl
def KC(t:AC)(k:List Fra)(r:Option AC):Option (List Fra):=
 match r with
 |some r=>some (.c r :: .sc t::k)
 |none=>none
theorem jmp_sc(l:Nat)(t:AC)(k:List Fra):jmp l (.sc t::k)=KC t k (lY t l):=by
 simp only [jmp,KC];cases lY t l<;>rfl
theorem jmpT_some(t:AC)(k:List Fra)(r:AC):KC t k (some r)=some (.c r :: .sc t::k):=rfl
theorem KD(i:Nat)(t:AC)(k:List Fra):unw i (.sc t::k)=unw i k:=rfl
theorem Ds(l:Nat)(r t:AC):lY (.tab l r t) l=some r:=by simp [lY]
theorem rfnC_none:Dq M.go fn H0 k a (some (none,H))=M.go fn H0 k a H:=rfl
theorem Fv(j:AC):Dq M.go fn H0 k a (some (some j,H))=M.go fn H0 (.c j::k) a H:=rfl
theorem backR_some(h:LH)(x:AC)(a':Env)(H':List AObj):vd M.go fn H0 h x k (some (a',H'))=M.go fn H0 (.c x :: .lp h x H'::k) a' H':=rfl
theorem inR_mk(h:LH)(x:AC)(a':Env)(H':List AObj):inR M.go fn H0 h x k (a',H')=M.go fn H0 (.c x :: .lp h x H'::k) a' H':=rfl
theorem runV_fn(g:FuncId)(first cap args:List AV):nB E M.go (.fn (.func g) first cap) args H=M.run g (first++args++cap) H:=rfl
theorem KE{f:FuncId}{fn:AFn}(hf:E.fn f=some fn)(hd:fn.dfr=none)(args:List AV)(H:List AObj):M.run f args H=M.go fn H [.c fn.c] (env args) H:=by
 unfold bM.run pG;rw [hf];simp only [hd]
theorem tq{f:FuncId}(hf:E.fn f=none)(args:List AV)(H:List AObj):M.run f args H=E.orc f args H:=by
 unfold bM.run pG;rw [hf]
theorem retO_some(v:AV)(H:List AObj):I2 (some (v,H))=some (.ret v,H):=rfl
theorem ronly_mk(v:AV)(H:List AObj):bB H (some v)=some (v,H):=rfl
theorem runit_mk(H:List AObj):qo (some H)=some (ej,H):=rfl
theorem gsel_bool{α:Type}(b w:Bool)(x u:Option α):qC (.bool b) w x u=sel (b == w) x u:=rfl
theorem gsel_tuple{α:Type}(vs:List AV)(w:Bool)(x u:Option α):qC (.tuple vs) w x u=u:=rfl
theorem gsel_undef{α:Type}(w:Bool)(x u:Option α):qC ej w x u=u:=rfl
theorem gsel_sel{α:Type}(b w:Bool)(v v':AV)(x u:Option α):qC (sel b v v') w x u=sel b (qC v w x u) (qC v' w x u):=by cases b<;>rfl
theorem zY(H:List AObj)(T L:List Nat)(r:Option vr):AZ none H T L r=r:=rfl
theorem dynW_some(H:List AObj)(T L:List Nat)(v:AV)(L1:List Nat)(r:Option vr):AZ (some (v,L1)) H T L r=some (v,H,T,L1++L):=rfl
theorem dynV_some(v:AV)(H:List AObj)(T L:List Nat):GR (some (v,H)) (some (T,L))=some (v,H,T,L):=rfl
theorem sel_true{α:Type}(x y:α):sel true x y=x:=rfl
theorem sel_false{α:Type}(x y:α):sel false x y=y:=rfl
theorem sel_self{α:Type}(b:Bool)(x:α):sel b x x=x:=by cases b<;>rfl
theorem sel_some{α:Type}(b:Bool)(x y:α):sel b (some x) (some y)=some (sel b x y):=by cases b<;>rfl
theorem sel_pair{α β:Type}(b:Bool)(x x':α)(y y':β):sel b (x,y) (x',y')=(sel b x x',sel b y y'):=by cases b<;>rfl
theorem sel_ret(b:Bool)(v v':AV):sel b (kJ.ret v) (kJ.ret v') = .ret (sel b v v'):=by cases b<;>rfl
theorem sel_bool(b p q:Bool):sel b (AV.bool p) (AV.bool q) = .bool (sel b p q):=by cases b<;>rfl
theorem sel_not{α:Type}(b:Bool)(x y:α):sel (!b) x y=sel b y x:=by cases b<;>rfl
theorem sel_and{α:Type}(b p:Bool)(x y:α):sel b (sel p x y) y=sel (b&&p) x y:=by cases b<;>cases p<;>rfl
theorem sel_b1(b p:Bool):sel b p false=(b&&p):=by cases b<;>rfl
theorem sel_b2(b p:Bool):sel b true p=(b||p):=by cases b<;>rfl
theorem sel_b3(b p:Bool):sel b p true=(!b||p):=by cases b<;>rfl
theorem sel_b4(b p:Bool):sel b false p=(!b&&p):=by cases b<;>rfl
theorem aA{α:Type}{v v':AV}{w:Bool}{x u:Option α}(h:v=v'):qC v w x u=qC v' w x u:=by rw [h]
theorem aQ{fn:AFn}{H0:List AObj}{k:List Fra}{a a':Env}{H H':List AObj}(ha:a=a')(hH:H=H'):M.go fn H0 k a H=M.go fn H0 k a' H':=by rw [ha,hH]
theorem aH{f:Rec}{fn:AFn}{H0:List AObj}{os:List RO}{k:List Fra}{a:Env}{d:Option Nat}{r r':Option Out}(hr:r=r'):aft dec E f fn H0 os k a d r=aft dec E f fn H0 os k a d r':=by rw [hr]
theorem aC{f:Rec}{fn:AFn}{H0:List AObj}{s:Bool}{l:List (RO×Cl)}{k:List Fra}{a:Env}{d:Option Nat}{r r':Option vr}(hr:r=r'):Dp f fn H0 s l k a d r=Dp f fn H0 s l k a d r':=by rw [hr]
theorem al{f:Rec}{fn:AFn}{H0:List AObj}{x y:AC}{k:List Fra}{a:Env}{H:List AObj}{c c':AV}(hc:c=c'):condR f fn H0 x y k a H c=condR f fn H0 x y k a H c':=by rw [hc]
theorem ao{f:Rec}{fn:AFn}{H0:List AObj}{h:LH}{x:AC}{k:List Fra}{r r':Option (Env×List AObj)}(hr:r=r'):vd f fn H0 h x k r=vd f fn H0 h x k r':=by rw [hr]
theorem aI{f:Rec}{fn:AFn}{H0:List AObj}{h:LH}{x:AC}{k:List Fra}{r r':Env×List AObj}(hr:r=r'):inR f fn H0 h x k r=inR f fn H0 h x k r':=by rw [hr]
theorem aput_some(n:Nat)(v:AV):fk a (some n) v=l6 a n v:=rfl
theorem aput_none(v:AV):fk a none v=a:=rfl
theorem rx_t(n:Nat):rx a (.t n)=dF a n:=rfl
theorem rx_c(v:AV):rx a (.c v)=v:=rfl
def rpk(c x y:AV):Option AV:=
 match c with
 |.bool b=>some (sel b x y)
 |_=>none
theorem rpk_bool(b:Bool)(x y:AV):rpk (.bool b) x y=some (sel b x y):=rfl
theorem KF(c x y:RX):rop a H (.pk c x y)=bB H (rpk (rx a c) (rx a x) (rx a y)):=by
 simp only [rop,rpk];cases rx a c<;>try rfl
 rename_i b;cases b<;>rfl
theorem rop_mv(x:RX):rop a H (.mv x)=some (rx a x,H):=rfl
end
def at2(b:Bool)(x y:AV):AV:=
 match b with
 |true=>x
 |false=>y
theorem at2_true(x y:AV):at2 true x y=x:=rfl
theorem at2_false(x y:AV):at2 false x y=y:=rfl
theorem aJ{b b':Bool}{x y:AV}(h:b=b'):at2 b x y=at2 b' x y:=by rw [h]
theorem fget_at(a:Env)(n m:Nat)(v:AV):dF (l6 a n v) m=at2 (m == n) v (dF a m):=by
 rw [jh]
 by_cases h:m=n
 ·subst h;simp [at2]
 ·have:(m == n)=false:=by simpa using h
  rw [if_neg h,this];rfl
theorem bJ{dec:Dec}{E:bc}(M:bM dec E){f:FuncId}{fn:AFn}{c:AC}(hf:E.fn f=some fn)(hd:fn.dfr=none)(hc:fn.c=c)(args:List AV)(H:List AObj):M.run f args H=M.go fn H [.c c] (env args) H:=by
 rw [KE M hf hd,hc]
def KG(x:Option (AV×List AObj)):Option Out:=
 match x with
 |some (v,H)=>some (.ret v,H)
 |none=>none
def LN(x:Option (AV×List AObj)):Option Out:=
 match x with
 |some (v,H)=>some (.panic v,H)
 |none=>none
def GW(dec:Dec)(m:RM)(H0 H:List AObj)(x:Option AV):Option (AV×List AObj):=
 match x with
 |some v=>r5 dec m H0 H v
 |none=>none
theorem fin_e(dec:Dec)(fn:AFn)(H0:List AObj)(a:Env)(H:List AObj):fin dec fn H0 a H=KG (GW dec fn.mode H0 H (AN a H fn.res)):=by
 unfold fin KG GW;cases AN a H fn.res with
 |none=>rfl
 |some v=>rfl
theorem finP_e(dec:Dec)(fn:AFn)(H0:List AObj)(v:AV)(H:List AObj):Fi dec fn H0 v H=LN (r5 dec fn.mode H0 H v):=rfl
theorem finV_some(v:AV)(H:List AObj):KG (some (v,H))=some (.ret v,H):=rfl
theorem finW_some(v:AV)(H:List AObj):LN (some (v,H))=some (.panic v,H):=rfl
theorem handO_some(dec:Dec)(m:RM)(H0 H:List AObj)(v:AV):GW dec m H0 H (some v)=r5 dec m H0 H v:=rfl
theorem handV_keep(dec:Dec)(H0 H:List AObj)(v:AV):r5 dec .keep H0 H v=some (v,H):=rfl
theorem handV_drop{H0 H:List AObj}{v:AV}(h1:dg H0 H)(h2:Wk H0.length v (pE v)):r5 b4 .drop H0 H v=some (pE v,H.take H0.length):=by
 unfold r5;simp only [Fs h1 h2]
theorem rres_one(a:Env)(H:List AObj)(r:mZ):AN a H [r]=qt a H r:=rfl
theorem rres1_t(a:Env)(H:List AObj)(n:Nat):qt a H (.t n)=some (dF a n):=rfl
theorem rres1_cell(a:Env)(H:List AObj)(x:Nat)(g:Option Nat):qt a H (.cell x g)=j8 g H (dF a x):=rfl
def GX(x:Option AV)(l:Option (List AV)):Option (List AV):=
 match x,l with
 |some v,some l=>some (v::l)
 |_,_=>none
def LO(l:Option (List AV)):Option AV:=
 match l with
 |some l=>some (.tuple l)
 |none=>none
theorem consO_some(v:AV)(l:List AV):GX (some v) (some l)=some (v::l):=rfl
theorem tupO_some(l:List AV):LO (some l)=some (.tuple l):=rfl
theorem rresL_nil(a:Env)(H:List AObj):nm a H []=some []:=rfl
theorem rresL_cons(a:Env)(H:List AObj)(r:mZ)(l:List mZ):nm a H (r::l)=GX (qt a H r) (nm a H l):=by
 simp only [nm,GX];cases qt a H r<;>cases nm a H l<;>rfl
theorem rres_two(a:Env)(H:List AObj)(r r':mZ)(l:List mZ):AN a H (r::r'::l)=LO (nm a H (r::r'::l)):=rfl
theorem rres_none(a:Env)(H:List AObj):AN a H []=some (.tuple []):=rfl
theorem cut_refl(H:List AObj):dg H H:=⟨Nat.le_refl _,fun _ _ _ h=>.inl h⟩
theorem cut_app(H L:List AObj):dg H (H++L):=⟨by simp,fun i x hi h=>.inl (by rwa [List.getElem?_append_left hi] at h)⟩
theorem nn{n:Nat}{v v':AV}(h:∀ (K K':aj) (x:Value),V K v x→V K' v' x):Wk n v v':=fun K x _ hv=>h K _ x hv
theorem wk_int(n:Nat)(k:IntKind)(i:Int):Wk n (.int k i) (.int k i):=nn fun _ _ _ h=>by cases h;exact .int _ _
theorem wk_bool(n:Nat)(b:Bool):Wk n (.bool b) (.bool b):=nn fun _ _ _ h=>by cases h;exact .bool _
theorem wk_str(n:Nat)(s:List UInt8):Wk n (.str s) (.str s):=nn fun _ _ _ h=>by cases h;exact .str _
theorem wk_unk(n:Nat):Wk n .unk .unk:=nn fun _ _ _ _=>.unk _
theorem wk_nilp(n:Nat):Wk n .nilp .nilp:=nn fun _ _ _ h=>by cases h;exact .nilp
theorem wk_nilif(n:Nat):Wk n .nilif .nilif:=nn fun _ _ _ h=>by cases h;exact .nilif
theorem wk_nilfn(n:Nat):Wk n .nilfn .nilfn:=nn fun _ _ _ h=>by cases h;exact .nilfn
theorem Fw(n:Nat):Wk n .nilmap .nilmap:=nn fun _ _ _ h=>by cases h;exact .nilmap
section
variable(a:Env)(H:List AObj)
theorem rop_nw(cs:List AV)(e:TypeId):rop a H (.nw cs e)=some (.ptr H.length 0,H++[.cells cs e]):=rfl
theorem KH(z:List AV)(pl:List (Nat×Nat))(ps:List (Nat×RX)):rop a H (.bd z pl ps)=bB H ((fN (pl[·]?) z (ps.map fun p=>(p.1,rx a p.2))).map .agg):=rfl
theorem rop_bs(sz:Nat)(z:List AV)(len:Nat)(ps:List (Nat×RX)):rop a H (.bs sz z len ps)=bB H ((fN (fun i=>some (i*sz,sz)) (qe len z) (ps.map fun p=>(p.1,rx a p.2))).map fun cs=>.slice .full sz (nS sz len (cs.map AV.strip))):=rfl
theorem rop_ld(g:Option Nat)(x:RX):rop a H (.ld g x)=bB H (j8 g H (rx a x)):=rfl
theorem rop_st(sz:Nat)(x v:RX):rop a H (.st sz x v)=qo (ug sz H (rx a x) (rx a v)):=rfl
theorem rop_ar(op:BinOp)(x y:RX):rop a H (.ar op x y)=bB H (rar op (rx a x) (rx a y)):=rfl
theorem rop_sh(op:BinOp)(x y:RX):rop a H (.sh op x y)=bB H (rsh op (rx a x) (rx a y)):=rfl
theorem rop_an(x y:RX):rop a H (.an x y)=bB H (ran (rx a x) (rx a y)):=rfl
theorem rop_eq(neg:Bool)(k:EK)(x y:RX):rop a H (.eq neg k x y)=bB H ((req k (rx a x) (rx a y)).map fun b=>.bool (if neg then !b else b)):=rfl
theorem rop_un(op:UnOp)(x:RX):rop a H (.un op x)=bB H (zI op (rx a x)):=rfl
theorem rop_cvi(k:IntKind)(x:RX):rop a H (.cvi k x)=bB H (Kq k (rx a x)):=rfl
theorem rop_cvs(x:RX):rop a H (.cvs x)=bB H (Kr (rx a x)):=rfl
theorem GY(x:RX):rop a H (.cvbs x)=bB H (rZ H (rx a x)):=rfl
theorem rop_cvsr(x:RX):rop a H (.cvsr x)=bB H (w4 (rx a x)):=rfl
theorem GZ(x:RX):rop a H (.cvrs x)=bB H (w5 (rx a x)):=rfl
theorem rop_ba(sz:Nat)(z:List AV)(ps:List (Nat×RX)):rop a H (.ba sz z ps)=bB H ((fN (fun i=>some (i*sz,sz)) z (ps.map fun p=>(p.1,rx a p.2))).map .agg):=rfl
theorem rop_bm(e:TypeId)(sz:Nat)(z:List AV)(len:Nat)(ps:List (Nat×RX)):rop a H (.bm e sz z len ps)=rbm H e sz len (fN (fun i=>some (i*sz,sz)) (qe len z) (ps.map fun p=>(p.1,rx a p.2))):=rfl
theorem rop_cvsb(x:RX):rop a H (.cvsb x)=bB H (zO (rx a x)):=rfl
theorem rop_mi(t:TypeId)(x:RX):rop a H (.mi t x)=some (.iface t (rx a x),H):=rfl
theorem rop_ta(T:TypeId)(z:Option AV)(ok:Bool)(x:RX):rop a H (.ta T z ok x)=bB H (rta T z ok (rx a x)):=rfl
theorem rop_mf(f:Fn)(xs ys:List RX):rop a H (.mf f xs ys)=some (.fn f (xs.map (rx a)) (ys.map (rx a)),H):=rfl
theorem rop_sls(x:RX)(l h:Option RX):rop a H (.sls x l h)=bB H (BN (rx a x) (l.map (rx a)) (h.map (rx a))):=rfl
theorem rop_sll(sz:Nat)(x:RX)(l h m:Option RX):rop a H (.sll sz x l h m)=bB H (C8 sz (rx a x) (l.map (rx a)) (h.map (rx a)) (m.map (rx a))):=rfl
theorem rop_sla(n sz:Nat)(x:RX)(l h:Option RX):rop a H (.sla n sz x l h)=bB H (Ko n sz (rx a x) (l.map (rx a)) (h.map (rx a))):=rfl
theorem rop_fa(o:Nat)(x:RX):rop a H (.fa o x)=bB H (rfa o (rx a x)):=rfl
theorem rop_fd(g:Option Nat)(o:Nat)(x:RX):rop a H (.fd g o x)=bB H (rfd g o (rx a x)):=rfl
theorem rop_ias(sz:Nat)(x i:RX):rop a H (.ias sz x i)=bB H (pC sz (rx a x) (rx a i)):=rfl
theorem I7(n sz:Nat)(x i:RX):rop a H (.iaa n sz x i)=bB H (wZ n sz (rx a x) (rx a i)):=rfl
theorem rop_ixs(x i:RX):rop a H (.ixs x i)=bB H (AE (rx a x) (rx a i)):=rfl
theorem rop_ixa(n:Nat)(g:Option Nat)(sz:Nat)(x i:RX):rop a H (.ixa n g sz x i)=bB H (IP n g sz (rx a x) (rx a i)):=rfl
theorem rop_ex(x:RX)(i:Nat):rop a H (.ex x i)=bB H (j4 (rx a x) i):=rfl
theorem rop_mm:rop a H (.mm)=some (.map H.length,H++[.map []]):=rfl
theorem rop_ms(e:TypeId)(bytes:Nat)(cs:List AV)(l c:RX):rop a H (.ms e bytes cs l c)=rms H e bytes cs (rx a l) (rx a c):=rfl
theorem rop_mu(kk:CK)(m k v:RX):rop a H (.mu kk m k v)=qo (rmu H kk (rx a m) (rx a k) (rx a v)):=rfl
theorem rop_lk(kk:CK)(z:Option AV)(ok:Bool)(x k:RX):rop a H (.lk kk z ok x k)=bB H (rlk H kk z ok (rx a x) (rx a k)):=rfl
theorem rop_rg(x:RX):rop a H (.rg x)=rrg H (rx a x):=rfl
theorem rop_nx(x:RX):rop a H (.nx x)=BK H (rx a x):=rfl
theorem rop_len(k:LK)(x:RX):rop a H (.len k x)=bB H (oI H k (rx a x)):=rfl
theorem I8(x:RX):rop a H (.cap x)=bB H (Ks (rx a x)):=rfl
theorem rop_ap(m:Bool)(e:TypeId)(sz bytes:Nat)(str:Bool)(s x:RX):rop a H (.ap m e sz bytes str s x)=rap m H e sz bytes str (rx a s) (rx a x):=rfl
theorem rop_cp(sz:Nat)(str:Bool)(d s:RX):rop a H (.cp sz str d s)=rcp H sz str (rx a d) (rx a s):=rfl
theorem rop_mx(x y:RX):rop a H (.mx x y)=bB H (BE (rx a x) (rx a y)):=rfl
theorem rop_mn(x y:RX):rop a H (.mn x y)=bB H (BF (rx a x) (rx a y)):=rfl
theorem rbm_some(e:TypeId)(sz len:Nat)(cs:List AV):rbm H e sz len (some cs)=some (.rslice H.length 0 len sz true,H++[.cells cs e]):=rfl
def rbx(H:List AObj)(e:TypeId)(x:Option (List AV)):Option (AV×List AObj):=
 match x with
 |some cs=>some (.ptr H.length 0,H++[.cells cs e])
 |none=>none
theorem rop_bx(e:TypeId)(x:RX):rop a H (.bx e x)=rbx H e (cG (rx a x)):=by
 simp only [rop,rbx];cases cG (rx a x)<;>rfl
theorem rbx_some(e:TypeId)(cs:List AV):rbx H e (some cs)=some (.ptr H.length 0,H++[.cells cs e]):=rfl
def rnc(H:List AObj)(x:AV):Option (AV×List AObj):=
 match x with
 |.ptr i o=>some (.ptr i o,H)
 |.vptr e r i o=>some (.vptr e r i o,H)
 |.fn (.func f) x y=>some (.fn (.func f) x y,H)
 |_=>none
theorem rop_nc(x:RX):rop a H (.nc x)=rnc H (rx a x):=rfl
end
theorem rar_int(op:BinOp)(k:IntKind)(m n:Int):rar op (.int k m) (.int k n)=jq op k m n:=by simp [rar]
theorem rar_str(op:BinOp)(s t:List UInt8):rar op (.str s) (.str t)=bj op s t:=rfl
end Go.Am
end
section
namespace Go.Am
open Go.RowKit
def WkL(n:Nat):List AV→List AV→Prop
 |[],[]=>True
 |x::xs,y::ys=>Wk n x y∧WkL n xs ys
 |_,_=>False
theorem WkL.len{n:Nat}:∀ {xs ys:List AV},WkL n xs ys→xs.length=ys.length
 |[],[],_=>rfl
 |_::_,_::_,h=>by simp [WkL.len h.2]
 |[],_::_,h=>h.elim
 |_::_,[],h=>h.elim
theorem WkL.get{n:Nat}:∀ {xs ys:List AV},WkL n xs ys→∀ (i:Nat) (y:AV),ys[i]?=some y→∃ x,xs[i]?=some x∧Wk n x y
 |[],[],_,i,y,h=>by simp at h
 |x::xs,z::ys,h,0,y,hy=>by simp at hy;subst hy;exact ⟨x,rfl,h.1⟩
 |x::xs,z::ys,h,i+1,y,hy=>by simpa using WkL.get h.2 i y (by simpa using hy)
 |[],_::_,h,_,_,_=>h.elim
 |_::_,[],h,_,_,_=>h.elim
theorem WkL.vs{n:Nat}{xs ys:List AV}(h:WkL n xs ys){K:aj}(hn:n≤K.loc.length){vs:Array Value}(hv:Vs K xs vs):Vs (K.trunc n) ys vs:=
 ⟨by rw [← h.len];exact hv.size,fun i av hi=>by
  obtain ⟨x,h1,h2⟩:=h.get i av hi;exact h2 K _ hn (hv.at_ i x h1)⟩
theorem wk_tuple{n:Nat}{xs ys:List AV}(h:WkL n xs ys):Wk n (.tuple xs) (.tuple ys):=fun K x hn hv=>by
 obtain ⟨vs,rfl,hvs⟩:=hv.tuple_inv;have:=h.vs hn hvs;exact .tuple _ _ this.size this.at_
theorem wk_agg{n:Nat}{xs ys:List AV}(h:WkL n xs ys):Wk n (.agg xs) (.agg ys):=fun K x hn hv=>by
 obtain ⟨vs,rfl,hvs⟩:=hv.agg_inv;have:=h.vs hn hvs;exact .agg _ _ this.size this.at_
theorem wk_iface{n:Nat}{t:TypeId}{v:AV}(h:Wk n v v):Wk n (.iface t v) (.iface t v):=fun K x hn hv=>by
 cases hv with | iface _ _ y hy=>exact .iface _ _ _ (h K y hn hy)
theorem wk_fn{n:Nat}{f:Fn}{xs ys:List AV}(h1:WkL n xs xs)(h2:WkL n ys ys):Wk n (.fn f xs ys) (.fn f xs ys):=fun K x hn hv=>by
 obtain ⟨vs,us,rfl,h3,h4⟩:=hv.fn_inv;exact Vs.fn (h1.vs hn h3) (h2.vs hn h4)
theorem wk_ptr{n id off:Nat}(h:id<n):Wk n (.ptr id off) (.ptr id off):=fun K x hn hv=>by
 cases hv with | ptr _ _ b hb=>exact .ptr _ _ b (gD hb h)
theorem wk_map{n id:Nat}(h:id<n):Wk n (.map id) (.map id):=fun K x hn hv=>by
 cases hv with | map _ b hb=>exact .map _ b (gD hb h)
theorem wk_rslice{n id off len esz:Nat}{room:Bool}(h:id<n):Wk n (.rslice id off len esz room) (.rslice id off len esz room):=fun K x hn hv=>by
 cases hv with | rslice _ _ _ _ _ b cap hb hc hs=>exact .rslice _ _ _ _ _ b cap (gD hb h) hc hs
def gJ(n:Nat)(rows:List (List AV)):Prop:=∀ r∈rows,WkL n r r
theorem gJ.get{n:Nat}{rows:List (List AV)}(h:gJ n rows){K:aj}(hn:n≤K.loc.length){i j:Nat}{r:List AV}{av:AV}(h1:rows[i]?=some r)(h2:r[j]?=some av){v:Value}(hv:V K av v):V (K.trunc n) av v:=by
 obtain ⟨x,h3,h4⟩:=(h r (List.mem_of_getElem? h1)).get j av h2;rw [h2] at h3;cases h3;exact h4 K v hn hv
def Cb(n:Nat):Tag→Prop
 |.own t=>t<n
 |_=>True
theorem wk_slice{n esz:Nat}{tag:Tag}{rows:List (List AV)}(ht:Cb n tag)(h:gJ n rows):Wk n (.slice tag esz rows) (.slice tag esz rows):=fun K x hn hv=>by
 cases hv with
 |slice0 _ _ a ha=>
  refine .slice0 _ _ a ⟨fun t e => ?_,ha.2⟩;subst e;have h1:t<n:=ht;have h2:=ha.1 t rfl;refine ⟨?_,h2.2⟩;show t<(_:List Nat).length;simp only [aj.trunc,List.length_take];omega
 |sliceAny _ _ a cap hs=>exact .sliceAny _ _ a cap hs
 |slice _ _ _ b o cap vs hl hi hv hc htag=>
  exact .slice _ _ _ b o cap vs hl hi (fun i j r av h1 h2=>h.get hn h1 h2 (hv i j r av h1 h2)) hc (p6 htag fun t e=>by subst e;exact ht)
theorem wk_any{n esz:Nat}{tag:Tag}{rows:List (List AV)}(h:gJ n rows):Wk n (.slice tag esz rows) (.slice .any esz rows):=fun K x hn hv=>by
 cases hv with
 |slice0 _ _ a ha=>exact .sliceAny .any _ a 0 (.inl rfl)
 |sliceAny _ _ a cap h=>exact .sliceAny .any _ a cap (.inl rfl)
 |slice _ _ _ b o cap vs hl hi hv hc htag=>
  exact .slice _ _ _ b o cap vs hl hi (fun i j r av h1 h2=>h.get hn h1 h2 (hv i j r av h1 h2)) hc trivial
theorem wk_vptr{n esz i off:Nat}{rows:List (List AV)}(h:gJ n rows):Wk n (.vptr esz rows i off) (.vptr esz rows i off):=fun K x hn hv=>by
 cases hv with
 |vptr _ _ _ _ b o vs hl hi hv=>exact .vptr _ _ _ _ b o vs hl hi (fun i j r av h1 h2=>h.get hn h1 h2 (hv i j r av h1 h2))
theorem xD(n:Nat):gJ n []:=fun _ h=>by cases h
theorem rowsWk_cons(n:Nat)(r:List AV)(rows:List (List AV)):gJ n (r::rows)=(WkL n r r∧gJ n rows):=by simp [gJ]
theorem rowsWk_append(n:Nat)(r rows:List (List AV)):gJ n (r++rows)=(gJ n r∧gJ n rows):=by
 simp only [gJ,List.mem_append,eq_iff_iff];exact ⟨fun h=>⟨fun x hx=>h x (.inl hx),fun x hx=>h x (.inr hx)⟩,fun h x hx=>hx.elim (h.1 x) (h.2 x)⟩
theorem rowsWk_map{α:Type}(n:Nat)(l:List α)(f:α→List AV):gJ n (l.map f) = ∀ x∈l,WkL n (f x) (f x):=by simp [gJ]
theorem wkL_nil(n:Nat):WkL n [] []:=trivial
theorem wkL_cons(n:Nat)(x y:AV)(xs ys:List AV):WkL n (x::xs) (y::ys)=(Wk n x y∧WkL n xs ys):=rfl
theorem anyV_bool(b:Bool):pE (.bool b) = .bool b:=rfl
theorem anyV_int(k:IntKind)(n:Int):pE (.int k n) = .int k n:=rfl
theorem anyV_str(s:List UInt8):pE (.str s) = .str s:=rfl
theorem anyV_slice(t:Tag)(n:Nat)(r:List (List AV)):pE (.slice t n r) = .slice .any n r:=rfl
theorem anyV_agg(l:List AV):pE (.agg l) = .agg (l.map oM):=rfl
theorem anyV_tuple(l:List AV):pE (.tuple l) = .tuple (l.map oM):=rfl
theorem anyV_iface(t:TypeId)(v:AV):pE (.iface t v) = .iface t v:=rfl
theorem anyV_nilif:pE .nilif = .nilif:=rfl
theorem anyV_nilp:pE .nilp = .nilp:=rfl
theorem G4(i o:Nat):pE (.ptr i o) = .ptr i o:=rfl
theorem anyV_fn(f:Fn)(x y:List AV):pE (.fn f x y) = .fn f x y:=rfl
theorem anyV_undef:pE ej=ej:=rfl
theorem anyS_bool(b:Bool):oM (.bool b) = .bool b:=rfl
theorem anyS_int(k:IntKind)(n:Int):oM (.int k n) = .int k n:=rfl
theorem anyS_str(s:List UInt8):oM (.str s) = .str s:=rfl
theorem anyS_slice(t:Tag)(n:Nat)(r:List (List AV)):oM (.slice t n r) = .slice .any n r:=rfl
theorem anyS_agg(l:List AV):oM (.agg l) = .agg l:=rfl
theorem anyS_iface(t:TypeId)(v:AV):oM (.iface t v) = .iface t v:=rfl
theorem anyS_nilif:oM .nilif = .nilif:=rfl
theorem Fx:oM .nilp = .nilp:=rfl
theorem anyS_ptr(i o:Nat):oM (.ptr i o) = .ptr i o:=rfl
theorem anyS_fn(f:Fn)(x y:List AV):oM (.fn f x y) = .fn f x y:=rfl
def WkE(n:Nat)(a:Env):List Nat→Prop
 |[]=>True
 |t::l=>Wk n (dF a t) (dF a t)∧WkE n a l
theorem WkE.all{n:Nat}{a:Env}:∀ {l:List Nat},WkE n a l→∀ t∈l,Wk n (dF a t) (dF a t)
 |[],_,t,h=>by cases h
 |x::l,h,t,ht=>by
  rcases List.mem_cons.1 ht with rfl | ht
  ·exact h.1
  ·exact WkE.all h.2 t ht
theorem wkE_nil(n:Nat)(a:Env):WkE n a []:=trivial
theorem wkE_cons(n:Nat)(a:Env)(t:Nat)(l:List Nat):WkE n a (t::l)=(Wk n (dF a t) (dF a t)∧WkE n a l):=rfl
theorem fkeep_nil(a:Env):kb a [] = .leaf:=rfl
theorem fkeep_cons(a:Env)(t:Nat)(l:List Nat):kb a (t::l)=l6 (kb a l) t (dF a t):=rfl
theorem back_no(dec:Dec)(l:List Nat)(t:List (Nat×Nat×TypeId))(He:List AObj)(a:Env)(H:List AObj):ke dec ⟨some l,t,false⟩ He a H=some (kb a l,H):=rfl
theorem G5(l:List Nat)(t:List (Nat×Nat×TypeId)){He:List AObj}{a:Env}{H:List AObj}(h1:dg He H)(h2:WkE He.length a l):ke b4 ⟨some l,t,true⟩ He a H=some (kb a l,H.take He.length):=by
 unfold ke;simp only [if_true,Ft h1 h2.all]
theorem in_no(l:List Nat)(c:Bool)(a:Env)(H:List AObj):kf ⟨some l,[],c⟩ a H=(kb a l,H):=rfl
def Kk(l:List Nat)(r:Env×List AObj):Env×List AObj:=(kb r.1 l,r.2)
theorem in_tok(l:List Nat)(t:Nat×Nat×TypeId)(ts:List (Nat×Nat×TypeId))(c:Bool)(a:Env)(H:List AObj):kf ⟨some l,t::ts,c⟩ a H=Kk l (n5 (t::ts) a H):=rfl
theorem reliv_mk(l:List Nat)(a:Env)(H:List AObj):Kk l (a,H)=(kb a l,H):=rfl
def G6(l:List (Nat×Nat×TypeId))(a:Env)(H:List AObj)(t sz:Nat)(e:TypeId)(v:AV):Env×List AObj:=
 match v with
 |.slice .nil _ []=>n5 l (l6 a t (.slice (.own H.length) sz [])) (H++[.tok 0 e])
 |.slice .full n rows=>if wF rows=false then n5 l (l6 a t (.slice (.own H.length) n rows)) (H++[.tok (rows.length*n) e]) else n5 l a H
 |_=>n5 l a H
theorem tokz_nil(a:Env)(H:List AObj):n5 [] a H=(a,H):=rfl
theorem tokz_cons(t sz:Nat)(e:TypeId)(l:List (Nat×Nat×TypeId))(a:Env)(H:List AObj):n5 ((t,sz,e)::l) a H=G6 l a H t sz e (dF a t):=rfl
theorem tokV_nil(l:List (Nat×Nat×TypeId))(a:Env)(H:List AObj)(t sz:Nat)(e:TypeId)(n:Nat):G6 l a H t sz e (.slice .nil n [])=n5 l (l6 a t (.slice (.own H.length) sz [])) (H++[.tok 0 e]):=rfl
theorem tokV_full(l:List (Nat×Nat×TypeId))(a:Env)(H:List AObj)(t sz:Nat)(e:TypeId)(n:Nat)(rows:List (List AV)):G6 l a H t sz e (.slice .full n rows)=if wF rows=false then n5 l (l6 a t (.slice (.own H.length) n rows)) (H++[.tok (rows.length*n) e]) else n5 l a H:=rfl
theorem tokV_own(l:List (Nat×Nat×TypeId))(a:Env)(H:List AObj)(t sz:Nat)(e:TypeId)(n t':Nat)(rows:List (List AV)):G6 l a H t sz e (.slice (.own t') n rows)=n5 l a H:=rfl
theorem tokV_any(l:List (Nat×Nat×TypeId))(a:Env)(H:List AObj)(t sz:Nat)(e:TypeId)(n:Nat)(rows:List (List AV)):G6 l a H t sz e (.slice .any n rows)=n5 l a H:=rfl
def kv:List (Nat×AV)→Env
 |[]=>.leaf
 |(t,v)::l=>l6 (kv l) t v
theorem kv_nil:kv [] = .leaf:=rfl
theorem kv_cons(t:Nat)(v:AV)(l:List (Nat×AV)):kv ((t,v)::l)=l6 (kv l) t v:=rfl
theorem ak{dec:Dec}{E:bc}(M:bM dec E){fn:AFn}{H0:List AObj}{x y:AC}(h:x=y){k:List Fra}{a:Env}{H:List AObj}:M.go fn H0 (.c x::k) a H=M.go fn H0 (.c y::k) a H:=by rw [h]
def I9(b:Bool)(id:Nat)(k:List Fra):Option (List Fra):=
 match b with
 |true=>some k
 |false=>unw id k
theorem unw_c(id:Nat)(x:AC)(k:List Fra):unw id (.c x::k)=unw id k:=rfl
theorem unw_lp(id:Nat)(h:LH)(x:AC)(He:List AObj)(k:List Fra):unw id (.lp h x He::k)=unw id k:=rfl
theorem unw_blk(id j:Nat)(k:List Fra):unw id (.blk j::k)=I9 (j == id) id k:=by
 simp only [unw,I9]
 by_cases h:j=id
 ·subst h;simp
 ·rw [if_neg h,show (j == id)=false by simpa using h]
theorem unwB_true(id:Nat)(k:List Fra):I9 true id k=some k:=rfl
theorem Dt(id:Nat)(k:List Fra):I9 false id k=unw id k:=rfl
theorem lx_map0(f:RX→AV):List.map f []=[]:=rfl
theorem lx_map1(f:RX→AV)(x:RX)(l:List RX):List.map f (x::l)=f x::List.map f l:=rfl
theorem lx_any0:List.map oM []=[]:=rfl
theorem lx_any1(x:AV)(l:List AV):List.map oM (x::l)=oM x::List.map oM l:=rfl
theorem lx_str0:List.map AV.strip []=[]:=rfl
theorem lx_str1(x:AV)(l:List AV):List.map AV.strip (x::l)=AV.strip x::List.map AV.strip l:=rfl
theorem lx_app0(l:List AV):[]++l=l:=rfl
theorem lx_app1(x:AV)(l l':List AV):(x::l)++l'=x::(l++l'):=rfl
theorem lx_app2(l:List AV):l++[]=l:=List.append_nil l
theorem lx_app3(l l' l2:List AV):(l++l')++l2=l++(l'++l2):=List.append_assoc l l' l2
theorem Ja(x:AObj)(l l':List AObj):(x::l)++l'=x::(l++l'):=rfl
theorem lo_app0(l:List AObj):[]++l=l:=rfl
theorem lo_app2(l:List AObj):l++[]=l:=List.append_nil l
theorem lo_app3(l l' l2:List AObj):(l++l')++l2=l++(l'++l2):=List.append_assoc l l' l2
theorem lo_len(l l':List AObj):(l++l').length=l.length+l'.length:=List.length_append
theorem lo_len0:([]:List AObj).length=0:=rfl
theorem lo_len1(x:AObj)(l:List AObj):(x::l).length=l.length+1:=rfl
theorem lo_get0(x:AObj)(l:List AObj):(x::l)[0]?=some x:=rfl
theorem lo_get1(x:AObj)(l:List AObj)(n:Nat):(x::l)[n+1]?=l[n]? := rfl
theorem lo_set0(x y:AObj)(l:List AObj):(x::l).set 0 y=y::l:=rfl
theorem lo_set1(x y:AObj)(l:List AObj)(n:Nat):(x::l).set (n+1) y=x::l.set n y:=rfl
theorem Jb(x:AV)(l:List AV):(x::l)[0]?=some x:=rfl
theorem lv_get1(x:AV)(l:List AV)(n:Nat):(x::l)[n+1]?=l[n]? := rfl
theorem lv_set0(x y:AV)(l:List AV):(x::l).set 0 y=y::l:=rfl
theorem lv_set1(x y:AV)(l:List AV)(n:Nat):(x::l).set (n+1) y=x::l.set n y:=rfl
theorem lv_len0:([]:List AV).length=0:=rfl
theorem lv_len1(x:AV)(l:List AV):(x::l).length=l.length+1:=rfl
theorem ln_lt(i j:Nat):((i:Int)<(j:Int))=(i<j):=by rw [Int.ofNat_lt]
theorem ln_le(i j:Nat):((i:Int)≤(j:Int))=(i≤j):=by rw [Int.ofNat_le]
theorem ln_eq(i j:Nat):((i:Int) == (j:Int))=(i == j):=by
 rw [Bool.eq_iff_iff];simp [Int.ofNat_inj]
theorem lr_row0(cs:List AV)(o:Nat):bC cs o []=cs:=by cases cs<;>rfl
theorem lr_row1(cs:List AV)(o:Nat)(v:AV)(r:List AV):bC cs o (v::r)=bC (cs.set o v) (o+1) r:=rfl
theorem aP(H L:List AObj):(H++L)[H.length]?=L[0]? := by rw [List.getElem?_append_right (Nat.le_refl _)];simp
theorem hp_getk(H L:List AObj)(k:Nat):(H++L)[H.length+k]?=L[k]? := by rw [List.getElem?_append_right (by omega)];congr 1;omega
theorem iw{H L:List AObj}{i:Nat}{x:AObj}(h:H[i]?=some x):(H++L)[i]?=some x:=by
 rw [List.getElem?_append_left (List.getElem?_eq_some_iff.1 h).1];exact h
theorem hp_set0(H L:List AObj)(x:AObj):(H++L).set H.length x=H++L.set 0 x:=by rw [List.set_append_right _ _ (Nat.le_refl _)];simp
theorem hp_setk(H L:List AObj)(k:Nat)(x:AObj):(H++L).set (H.length+k) x=H++L.set k x:=by
 rw [List.set_append_right _ _ (by omega)];congr 2;omega
theorem hp_take(H L:List AObj):(H++L).take H.length=H:=List.take_left' rfl
theorem hp_self(H:List AObj):H.take H.length=H:=List.take_length
theorem eX{n:Int}(h1 : -9223372036854775808≤n)(h2:n≤9223372036854775807):IntKind.i64.wrap n=n:=IntWalk.i64_in n ⟨h1,h2⟩
def tt(x:Option UInt8):Option AV:=
 match x with
 |some c=>some (.int .u8 c.toNat)
 |none=>none
theorem byteO_some(c:UInt8):tt (some c)=some (.int .u8 c.toNat):=rfl
theorem rixs_i(s:List UInt8)(k:IntKind)(i:Nat):AE (.str s) (.int k (i:Int))=tt s[i]? := by
 simp [AE,tt];cases s[i]? <;> rfl
theorem rixs_l0(s:List UInt8)(k:IntKind):AE (.str s) (.int k 0)=tt s[0]? := rixs_i s k 0
theorem rixs_l1(s:List UInt8)(k:IntKind):AE (.str s) (.int k 1)=tt s[1]? := rixs_i s k 1
theorem rixs_l2(s:List UInt8)(k:IntKind):AE (.str s) (.int k 2)=tt s[2]? := rixs_i s k 2
theorem rias_nat{tag:Tag}{sz esz:Nat}{rows:List (List AV)}{k:IntKind}{i:Nat}(h:i<rows.length):pC sz (.slice tag sz rows) (.int k (i:Int))=some (.vptr sz rows i 0):=by
 simp [pC,h]
theorem G7(H:List AObj)(s:List UInt8):oI H .str (.str s)=some (.int .i64 s.length):=rfl
theorem rlen_sl(H:List AObj)(t:Tag)(n:Nat)(r:List (List AV)):oI H .sl (.slice t n r)=some (.int .i64 r.length):=rfl
theorem rlen_rs(H:List AObj)(i o l n:Nat)(b:Bool):oI H .sl (.rslice i o l n b)=some (.int .i64 l):=rfl
theorem aun_not(b:Bool):zI .not (.bool b)=some (.bool (!b)):=rfl
theorem ar_add(k:IntKind)(m n:Int):jq .add k m n=some (.int k (k.wrap (m+n))):=rfl
theorem ar_sub(k:IntKind)(m n:Int):jq .sub k m n=some (.int k (k.wrap (m-n))):=rfl
theorem ar_mul(k:IntKind)(m n:Int):jq .mul k m n=some (.int k (k.wrap (m*n))):=rfl
theorem ar_eql(k:IntKind)(m n:Int):jq .eql k m n=some (.bool (m == n)):=rfl
theorem ar_neq(k:IntKind)(m n:Int):jq .neq k m n=some (.bool (!(m == n))):=rfl
theorem ar_lss(k:IntKind)(m n:Int):jq .lss k m n=some (.bool (decide (m<n))):=rfl
theorem ar_leq(k:IntKind)(m n:Int):jq .leq k m n=some (.bool (decide (m≤n))):=rfl
theorem KI(k:IntKind)(m n:Int):jq .gtr k m n=some (.bool (decide (n<m))):=rfl
theorem ar_geq(k:IntKind)(m n:Int):jq .geq k m n=some (.bool (decide (n≤m))):=rfl
theorem st_eql(s t:List UInt8):bj .eql s t=some (.bool (s == t)):=rfl
theorem st_neq(s t:List UInt8):bj .neq s t=some (.bool (!(s == t))):=rfl
theorem st_lss(s t:List UInt8):bj .lss s t=some (.bool (Op.bytesLess s t)):=rfl
theorem st_leq(s t:List UInt8):bj .leq s t=some (.bool (Op.bytesLess s t||s == t)):=rfl
theorem st_gtr(s t:List UInt8):bj .gtr s t=some (.bool (!(Op.bytesLess s t||s == t))):=rfl
theorem st_geq(s t:List UInt8):bj .geq s t=some (.bool (!Op.bytesLess s t)):=rfl
def LP(g:Option Nat)(off:Nat)(r:Option (List AV)):Option AV:=
 match r with
 |some r=>bW g r off
 |none=>none
def objO(g:Option Nat)(off:Nat)(x:Option AObj):Option AV:=
 match x with
 |some (.cells cs _)=>bW g cs off
 |_=>none
theorem ld_ptr(g:Option Nat)(H:List AObj)(i o:Nat):j8 g H (.ptr i o)=objO g o H[i]? := rfl
theorem ld_vptr(g:Option Nat)(H:List AObj)(n:Nat)(rows:List (List AV))(i o:Nat):j8 g H (.vptr n rows i o)=LP g o rows[i]? := rfl
theorem rowO_some(g:Option Nat)(o:Nat)(r:List AV):LP g o (some r)=bW g r o:=rfl
theorem Du(g:Option Nat)(o:Nat)(cs:List AV)(T:TypeId):objO g o (some (.cells cs T))=bW g cs o:=rfl
def Er(x:AV)(l:Option (List AV)):Option (List AV):=
 match l with
 |some l=>some (x::l)
 |none=>none
def oc:Nat→List AV→Option (List AV)
 |0,_=>some []
 |_+1,[]=>none
 |n+1,x::l=>Er x (oc n l)
def KJ(l:Option (List AV)):Option AV:=
 match l with
 |some l=>some (.agg l)
 |none=>none
theorem Cc:∀ (n:Nat) (l:List AV),oc n l=if n≤l.length then some (l.take n) else none
 |0,l=>by simp [oc]
 |n+1,[]=>by simp [oc]
 |n+1,x::l=>by
  rw [oc,Cc n l]
  by_cases h:n≤l.length<;>simp [Er,h]
theorem rl_agg0(n:Nat)(cs:List AV):bW (some n) cs 0=KJ (oc n cs):=by
 rw [Cc];simp only [bW,Nat.zero_add,List.drop_zero]
 by_cases h:n≤cs.length<;>simp [KJ,h]
theorem rl_agg1(n:Nat)(x:AV)(cs:List AV)(o:Nat):bW (some n) (x::cs) (o+1)=bW (some n) cs o:=by
 simp only [bW,List.length_cons,List.drop_succ_cons]
 by_cases h:o+n≤cs.length
 ·rw [if_pos h,if_pos (by omega)]
 ·rw [if_neg h,if_neg (by omega)]
theorem rl_one0(x:AV)(cs:List AV):bW none (x::cs) 0=some x:=rfl
theorem rl_one1(x:AV)(cs:List AV)(o:Nat):bW none (x::cs) (o+1)=bW none cs o:=rfl
theorem takeO_0(l:List AV):oc 0 l=some []:=by cases l<;>rfl
theorem takeO_1(n:Nat)(x:AV)(l:List AV):oc (n+1) (x::l)=Er x (oc n l):=rfl
theorem consL_some(x:AV)(l:List AV):Er x (some l)=some (x::l):=rfl
theorem aggO_some(l:List AV):KJ (some l)=some (.agg l):=rfl
theorem fa_ptr(o i off:Nat):rfa o (.ptr i off)=some (.ptr i (off+o)):=rfl
theorem fa_vptr(o n:Nat)(rows:List (List AV))(i off:Nat):rfa o (.vptr n rows i off)=some (.vptr n rows i (off+o)):=rfl
theorem KK(g:Option Nat)(o:Nat)(cs:List AV):rfd g o (.agg cs)=bW g cs o:=rfl
theorem ex_0(x:AV)(l:List AV):j4 (.tuple (x::l)) 0=some x:=rfl
theorem ex_1(x y:AV)(l:List AV):j4 (.tuple (x::y::l)) 1=some y:=rfl
theorem ex_2(x y z:AV)(l:List AV):j4 (.tuple (x::y::z::l)) 2=some z:=rfl
theorem ac_int(k:IntKind)(n:Int):cG (.int k n)=some [.int k n]:=rfl
theorem ac_bool(b:Bool):cG (.bool b)=some [.bool b]:=rfl
theorem ac_str(s:List UInt8):cG (.str s)=some [.str s]:=rfl
theorem ac_agg(l:List AV):cG (.agg l)=some l:=rfl
theorem ac_slice(t:Tag)(n:Nat)(r:List (List AV)):cG (.slice t n r)=some [.slice t n r]:=rfl
theorem ac_rslice(i o l n:Nat)(b:Bool):cG (.rslice i o l n b)=some [.rslice i o l n b]:=rfl
theorem ac_fn(f:Fn)(x y:List AV):cG (.fn f x y)=some [.fn f x y]:=rfl
theorem ac_ptr(i o:Nat):cG (.ptr i o)=some [.ptr i o]:=rfl
theorem ac_nilp:cG .nilp=some [.nilp]:=rfl
theorem ac_nilfn:cG .nilfn=some [.nilfn]:=rfl
theorem ac_nilif:cG .nilif=some [.nilif]:=rfl
theorem ac_iface(t:TypeId)(v:AV):cG (.iface t v)=some [.iface t v]:=rfl
def stO(sz:Nat)(H:List AObj)(id off:Nat)(cs:List AV)(x:Option AObj):Option (List AObj):=
 match x with
 |some (.cells old T)=>if cs.length=sz∧off+sz≤old.length∧cs.all AV.cell=true then some (H.set id (.cells (bC old off cs) T)) else none
 |_=>none
def stA(sz:Nat)(H:List AObj)(id off:Nat)(cs:Option (List AV)):Option (List AObj):=
 match cs with
 |some cs=>stO sz H id off cs H[id]?
 |none=>none
theorem st_ptr(sz:Nat)(H:List AObj)(id off:Nat)(v:AV):ug sz H (.ptr id off) v=stA sz H id off (cG v):=by
 unfold ug stA;cases cG v<;>rfl
theorem stA_some(sz:Nat)(H:List AObj)(id off:Nat)(cs:List AV):stA sz H id off (some cs)=stO sz H id off cs H[id]? := rfl
theorem stO_cells{sz:Nat}{H:List AObj}{id off:Nat}{cs old:List AV}{T:TypeId}(h1:cs.length=sz)(h2:off+sz≤old.length)(h3:cs.all AV.cell=true):stO sz H id off cs (some (.cells old T))=some (H.set id (.cells (bC old off cs) T)):=by
 simp only [stO];rw [if_pos ⟨h1,h2,h3⟩]
end Go.Am
end
section
set_option linter.defProp false
namespace Go.Am
open Go.RowKit
def am1{dec:Dec}{E:bc}(M:bM dec E):=And.intro (@go_nil dec E M) (And.intro (@go_blk dec E M) (And.intro (@go_lp dec E M) (And.intro (@go_skip dec E M) (And.intro (@go_exit dec E M) (And.intro (@go_ret dec E M) (And.intro (@go_seq dec E M) (And.intro (@LM dec E M) (And.intro (@go_cond dec E M) (And.intro (@go_block dec E M) (And.intro (@go_loop dec E M) (And.intro (@go_ops0 dec E M) (And.intro (@go_op dec E M) (And.intro (@go_opg dec E M) (And.intro (@go_call dec E M) (And.intro (@go_panic dec E M) (And.intro (@go_dops0 dec E M) (And.intro (@go_dop dec E M) (And.intro (@go_dopg dec E M) (And.intro (@go_dcall dec E M) (And.intro (@stepR_op dec E M) (And.intro (@stepR_call dec E M) (And.intro (@stepR_panic dec E M) (And.intro (@stepD_op dec E M) (And.intro (@stepD_call dec E M) (And.intro (@aft_ret dec E M) (And.intro (@aft_panic dec E M) (And.intro (@aftD_some dec E M) (And.intro (@Dr dec E M) (And.intro (@unwR_some dec E M) (And.intro (@backR_some dec E M) (And.intro (@inR_mk dec E M) (And.intro (@runV_fn dec E M) (And.intro (@go_sc dec E M) (And.intro (@go_lbl dec E M) (And.intro (@go_goto dec E M) (And.intro (@go_scope dec E M) (And.intro (@go_rfn dec E M) (And.intro (@go_rnd dec E M) (And.intro (@go_inv dec E M) (And.intro (@stepR_inv dec E M) (And.intro (@unwR_none dec E M) (And.intro (@rfnC_none dec E M) ((@Fv dec E M))))))))))))))))))))))))))))))))))))))))))))
def am2:=And.intro @dsel_none (And.intro @dsel_some (And.intro @retO_some (And.intro @ronly_mk (And.intro @runit_mk (And.intro @gsel_bool (And.intro @gsel_tuple (And.intro @gsel_undef (And.intro @gsel_sel (And.intro @zY (And.intro @dynW_some (And.intro @dynV_some (And.intro @sel_true (And.intro @sel_false (And.intro @sel_self (And.intro @sel_some (And.intro @sel_pair (And.intro @sel_ret (And.intro @sel_bool (And.intro @sel_not (And.intro @sel_and (And.intro @sel_b1 (And.intro @sel_b2 (And.intro @sel_b3 (And.intro @sel_b4 (And.intro @aput_some (And.intro @aput_none (And.intro @rx_t (And.intro @rx_c (And.intro @rpk_bool (And.intro @KF (And.intro @rop_mv (And.intro @at2_true (And.intro @at2_false (And.intro @fin_e (And.intro @finP_e (And.intro @finV_some (And.intro @finW_some (And.intro @handO_some (And.intro @handV_keep (And.intro @rres_one (And.intro @rres1_t (And.intro @rres1_cell (And.intro @consO_some (And.intro @tupO_some (And.intro @rresL_nil (And.intro @rresL_cons (And.intro @rres_two (And.intro @rres_none (And.intro @rop_nw (And.intro @KH (And.intro @rop_bs (And.intro @rop_ld (And.intro @rop_st (And.intro @rop_ar (And.intro @rop_sh (And.intro @rop_an (And.intro @rop_eq (And.intro @rop_un (And.intro @rop_cvi (And.intro @rop_cvs (And.intro @GY (And.intro @rop_cvsb (And.intro @rop_mi (And.intro @rop_ta (And.intro @rop_mf (And.intro @rop_sls (And.intro @rop_sll (And.intro @rop_sla (And.intro @rop_fa (And.intro @rop_fd (And.intro @rop_ias (And.intro @I7 (And.intro @rop_ixs (And.intro @rop_ixa (And.intro @rop_ex (And.intro @rop_mm (And.intro @rop_ms (And.intro @rop_mu (And.intro @rop_lk (And.intro @rop_rg (And.intro @rop_nx (And.intro @rop_len (And.intro @I8 (And.intro @rop_ap (And.intro @rop_cp (And.intro @rop_mx (And.intro @rop_mn (And.intro @rop_bx (And.intro @rbx_some (And.intro @rop_nc (And.intro @rar_int (And.intro @rar_str (And.intro @rop_cvsr (And.intro @GZ (And.intro @rop_bm (And.intro @rbm_some (And.intro @rop_ba (And.intro @dfinK_nil (And.intro @dfinK_fn (And.intro @jmp_c (And.intro @jmp_lp (And.intro @jmp_blk (And.intro @jmp_sc (And.intro @jmpT_some (And.intro @KD @Ds)))))))))))))))))))))))))))))))))))))))))))))))))))))))))))))))))))))))))))))))))))))))))))))))))))))))))
def am3:=And.intro @anyV_bool (And.intro @anyV_int (And.intro @anyV_str (And.intro @anyV_slice (And.intro @anyV_agg (And.intro @anyV_tuple (And.intro @anyV_iface (And.intro @anyV_nilif (And.intro @anyV_nilp (And.intro @G4 (And.intro @anyV_fn (And.intro @anyV_undef (And.intro @anyS_bool (And.intro @anyS_int (And.intro @anyS_str (And.intro @anyS_slice (And.intro @anyS_agg (And.intro @anyS_iface (And.intro @anyS_nilif (And.intro @Fx (And.intro @anyS_ptr (And.intro @anyS_fn (And.intro @fkeep_nil (And.intro @fkeep_cons (And.intro @back_no (And.intro @in_no (And.intro @in_tok (And.intro @reliv_mk (And.intro @tokz_nil (And.intro @tokz_cons (And.intro @tokV_nil (And.intro @tokV_full (And.intro @tokV_own (And.intro @tokV_any (And.intro @kv_nil (And.intro @kv_cons (And.intro @unw_c (And.intro @unw_lp (And.intro @unw_blk (And.intro @unwB_true (And.intro @Dt (And.intro @lx_map0 (And.intro @lx_map1 (And.intro @lx_any0 (And.intro @lx_any1 (And.intro @lx_str0 (And.intro @lx_str1 (And.intro @lx_app0 (And.intro @lx_app1 (And.intro @lx_app2 (And.intro @lx_app3 (And.intro @Ja (And.intro @lo_app0 (And.intro @lo_app2 (And.intro @lo_app3 (And.intro @lo_len (And.intro @lo_len0 (And.intro @lo_len1 (And.intro @lo_get0 (And.intro @lo_get1 (And.intro @lo_set0 (And.intro @lo_set1 (And.intro @Jb (And.intro @lv_get1 (And.intro @lv_set0 (And.intro @lv_set1 (And.intro @lv_len0 (And.intro @lv_len1 (And.intro @ln_lt (And.intro @ln_le (And.intro @ln_eq (And.intro @lr_row0 (And.intro @lr_row1 (And.intro @aP (And.intro @hp_getk (And.intro @hp_set0 (And.intro @hp_setk (And.intro @hp_take (And.intro @hp_self (And.intro @byteO_some (And.intro @rixs_i (And.intro @rixs_l0 (And.intro @rixs_l1 (And.intro @rixs_l2 (And.intro @G7 (And.intro @rlen_sl (And.intro @rlen_rs (And.intro @aun_not (And.intro @ar_add (And.intro @ar_sub (And.intro @ar_mul (And.intro @ar_eql (And.intro @ar_neq (And.intro @ar_lss (And.intro @ar_leq (And.intro @KI (And.intro @ar_geq (And.intro @st_eql (And.intro @st_neq (And.intro @st_lss (And.intro @st_leq (And.intro @st_gtr (And.intro @st_geq (And.intro @ld_ptr (And.intro @ld_vptr (And.intro @rowO_some (And.intro @Du (And.intro @rl_agg0 (And.intro @rl_agg1 (And.intro @rl_one0 (And.intro @rl_one1 (And.intro @takeO_0 (And.intro @takeO_1 (And.intro @consL_some (And.intro @aggO_some (And.intro @fa_ptr (And.intro @fa_vptr (And.intro @KK (And.intro @ex_0 (And.intro @ex_1 (And.intro @ex_2 (And.intro @ac_int (And.intro @ac_bool (And.intro @ac_str (And.intro @ac_agg (And.intro @ac_slice (And.intro @ac_rslice (And.intro @ac_fn (And.intro @ac_ptr (And.intro @ac_nilp (And.intro @ac_nilfn (And.intro @ac_nilif (And.intro @ac_iface (And.intro @st_ptr (@stA_some))))))))))))))))))))))))))))))))))))))))))))))))))))))))))))))))))))))))))))))))))))))))))))))))))))))))))))))))))))))))))))))))))))))
def am4:=And.intro @cut_refl (And.intro @cut_app (And.intro @handV_drop (And.intro @wk_int (And.intro @wk_bool (And.intro @wk_str (And.intro @wk_unk (And.intro @wk_nilp (And.intro @wk_nilif (And.intro @wk_nilfn (And.intro @Fw (And.intro @wk_tuple (And.intro @wk_agg (And.intro @wk_iface (And.intro @wk_fn (And.intro @wk_ptr (And.intro @wk_map (And.intro @wk_rslice (And.intro @wk_slice (And.intro @wk_any (And.intro @wk_vptr (And.intro @xD (And.intro @rowsWk_cons (And.intro @rowsWk_append (And.intro @rowsWk_map (And.intro @wkL_nil (And.intro @wkL_cons (And.intro @wkE_nil (And.intro @wkE_cons (And.intro @rias_nat (And.intro @stO_cells (And.intro @G5 (@stO_cells))))))))))))))))))))))))))))))))
end Go.Am
end
section
namespace Go.Am
open Go.RowKit
theorem Dv(s:Bool)(a:Env)(op:ROp)(T L:List Nat):lf s .pure a op T L=some (T,L):=rfl
theorem Cd(a:Env)(op:ROp)(T L:List Nat):lf false .wide a op T L=some (T,L):=rfl
theorem Fy(s:Bool)(a:Env)(op:ROp)(T L:List Nat):lf s .eff a op T L=some (T,L):=rfl
theorem G8(s:Bool)(a:Env)(cs:List AV)(e:TypeId)(T L:List Nat):lf s .keep a (.nw cs e) T L=some (T,L):=rfl
theorem G9(s:Bool)(a:Env)(e:TypeId)(x:RX)(T L:List Nat):lf s .keep a (.bx e x) T L=some (T,L):=rfl
theorem FA(E:bc)(x:AV)(args:List AV)(H:List AObj):n9 E .eff x args H=none:=by unfold n9;split<;>rfl
theorem Dw(E:bc)(x:AV)(args:List AV)(H:List AObj):n9 E .keep x args H=none:=by unfold n9;split<;>rfl
theorem Ce(E:bc)(x:AV)(args:List AV)(H:List AObj):n9 E .quiet x args H=none:=by unfold n9;split<;>rfl
theorem Ha(dec:Dec)(E:bc)(g:FuncId)(first cap args:List AV)(H:List AObj)(T L:List Nat)(v:AV)(H':List AObj):uk dec E .eff (.fn (.func g) first cap) args H T L (some (.ret v,H'))=some (v,H',T,L):=rfl
theorem FB(E:bc)(g:FuncId)(first cap args:List AV)(H:List AObj)(T L:List Nat)(v:AV):uk b4 E .keep (.fn (.func g) first cap) args H T L (some (.ret v,H))=some (v,H,T,L):=by
 unfold uk rz;simp only [zX (List.take_length (l:=H)),pF.b,if_true]
theorem Dx(T:List Nat)(r:Option Out):nC b4 T [] r=r:=by
 unfold nC;rw [Ep (fun x hx=>by cases hx)]
theorem Cf(L:List Nat)(r:Option Out):nC b4 [] L r=r:=by
 unfold nC;rw [Ep (fun x _ hx=>by cases hx)]
theorem am5 :
 (∀ (s:Bool) (a:Env) (op:ROp) (T L:List Nat),lf s .pure a op T L=some (T,L)) ∧
 (∀ (a:Env) (op:ROp) (T L:List Nat),lf false .wide a op T L=some (T,L)) ∧
 (∀ (s:Bool) (a:Env) (op:ROp) (T L:List Nat),lf s .eff a op T L=some (T,L)) ∧
 (∀ (s:Bool) (a:Env) (cs:List AV) (e:TypeId) (T L:List Nat),lf s .keep a (.nw cs e) T L=some (T,L)) ∧
 (∀ (s:Bool) (a:Env) (e:TypeId) (x:RX) (T L:List Nat),lf s .keep a (.bx e x) T L=some (T,L)) ∧
 (∀ (E:bc) (x:AV) (args:List AV) (H:List AObj),n9 E .eff x args H=none) ∧
 (∀ (E:bc) (x:AV) (args:List AV) (H:List AObj),n9 E .keep x args H=none) ∧
 (∀ (E:bc) (x:AV) (args:List AV) (H:List AObj),n9 E .quiet x args H=none) ∧
 (∀ (H:List AObj) (T L:List Nat) (r:Option vr),AZ none H T L r=r) ∧
 (∀ (dec:Dec) (E:bc) (g:FuncId) (first cap args:List AV) (H:List AObj) (T L:List Nat) (v:AV) (H':List AObj),uk dec E .eff (.fn (.func g) first cap) args H T L (some (.ret v,H'))=some (v,H',T,L)) ∧
 (∀ (E:bc) (g:FuncId) (first cap args:List AV) (H:List AObj) (T L:List Nat) (v:AV),uk b4 E .keep (.fn (.func g) first cap) args H T L (some (.ret v,H))=some (v,H,T,L)) ∧
 (∀ (T:List Nat) (r:Option Out),nC b4 T [] r=r) ∧
 (∀ (L:List Nat) (r:Option Out),nC b4 [] L r=r) ∧
 (wF []=true)∧(∀ (s:List UInt8) (r:List (List AV)),wF ([.str s]::r)=false)∧(∀ (a b:AV) (c:List AV) (r:List (List AV)),wF ((a::b::c)::r)=false)∧(∀ (k:IntKind) (n:Int) (r:List (List AV)),wF ([.int k n]::r)=true) ∧
 (∀ (i o:Nat) (r:List (List AV)),wF ([.ptr i o]::r)=false)∧(∀ (t:Tag) (n:Nat) (x r:List (List AV)),wF ([.slice t n x]::r)=false) ∧
 (∀ (α:Type) (x y:α),(if true=false then x else y)=y)∧(∀ (α:Type) (x y:α),(if false=false then x else y)=x):=
 ⟨Dv,Cd,Fy,G8,G9,FA,Dw,Ce,zY,Ha,FB,Dx,Cf,rfl,fun _ _=>rfl,fun a _ _ _=>(by cases a<;>rfl),fun _ _ _=>rfl,fun _ _ _=>rfl,fun _ _ _ _=>rfl,fun _ _ _=>rfl,fun _ _ _=>rfl⟩
def KL(o:Option Nat)(T L:List Nat):Option (List Nat×List Nat):=
 match o with
 |some id=>some (id::T,L)
 |none=>some (T,L)
theorem amZ :
 (∀ (a:Env) (H:List AObj) (e:TypeId) (sz bytes:Nat) (z:List AV) (s n:RX),rop a H (.apz e sz bytes z s n)=Gv H e sz bytes z (rx a s) (rx a n)) ∧
 (∀ (a:Env) (H:List AObj) (sz:Nat) (z:List AV) (x:RX),rop a H (.cl sz z x)=qo (rcl H sz z (rx a x))) ∧
 (∀ (s:Bool) (a:Env) (m:Bool) (e:TypeId) (sz bytes:Nat) (str:Bool) (x y:RX) (T L:List Nat),lf s .keep a (.ap m e sz bytes str x y) T L=KL (iE (rx a x)) T L) ∧
 (∀ T L:List Nat,KL none T L=some (T,L))∧(∀ (id:Nat) (T L:List Nat),KL (some id) T L=some (id::T,L)) ∧
 (∀ (n:Nat) (r:List (List AV)),iE (.slice .nil n r)=none)∧(∀ (n:Nat) (r:List (List AV)),iE (.slice .any n r)=none)∧(∀ (n:Nat) (r:List (List AV)),iE (.slice .full n r)=none) ∧
 (∀ (t n:Nat) (r:List (List AV)),iE (.slice (.own t) n r)=some t)∧(∀ (id off len esz:Nat) (room:Bool),iE (.rslice id off len esz room)=some id):=
 ⟨fun _ _ _ _ _ _ _ _=>rfl,fun _ _ _ _ _=>rfl,fun _ _ _ _ _ _ _ _ _ _ _=>rfl,fun _ _=>rfl,fun _ _ _=>rfl,fun _ _=>rfl,fun _ _=>rfl,fun _ _=>rfl,fun _ _ _=>rfl,fun _ _ _ _ _=>rfl⟩
theorem setRow_nil(cs:List AV)(o:Nat):bC cs o []=cs:=by cases cs<;>rfl
theorem setRow_cons(cs:List AV)(o:Nat)(v:AV)(r:List AV):bC cs o (v::r)=bC (cs.set o v) (o+1) r:=by cases cs<;>rfl
end Go.Am
end
section
namespace Go.Am
open Go.RowKit
end Go.Am
end
section
namespace Go.Am
open Go.RowKit
end Go.Am
end
section
namespace Go.Am
open Go.RowKit
end Go.Am
end
section
namespace Go.Am
open Go.RowKit
theorem uo{a b:Nat}(h:Nat.blt a b=true):a<b:=by rwa [Nat.blt_eq] at h
mutual
def wkb(n:Nat):AV→Bool
 |.unk | .bool _ | .int _ _ | .str _ | .nilp | .nilmap | .nilfn | .nilif=>true
 |.ptr i _=>Nat.blt i n
 |.rslice i _ _ _ _=>Nat.blt i n
 |.map i=>Nat.blt i n
 |.vptr _ r _ _=>wkbR n r
 |.slice (.own t) _ r=>Nat.blt t n&&wkbR n r
 |.slice _ _ r=>wkbR n r
 |.vmap es=>wkbE n es
 |.sdp t r=>Nat.blt t n&&wkbR n r
 |.fn _ a b=>wkbL n a&&wkbL n b
 |.iface _ v=>wkb n v
 |.agg l=>wkbL n l
 |.tuple l=>wkbL n l
def wkbL(n:Nat):List AV→Bool
 |[]=>true
 |x::l=>wkb n x&&wkbL n l
def wkbR(n:Nat):List (List AV)→Bool
 |[]=>true
 |x::l=>wkbL n x&&wkbR n l
def wkbE(n:Nat):List (AV×AV)→Bool
 |[]=>true
 |x::l=>wkbP n x&&wkbE n l
def wkbP(n:Nat):AV×AV→Bool
 |(x,y)=>wkb n x&&wkb n y
end
theorem iF{n:Nat}:∀ {l:List AV}{i:Nat}{x:AV},wkbL n l=true→l[i]?=some x→wkb n x=true
 |[],_,_,_,h=>by simp at h
 |y::l,0,x,h,e=>by simp only [wkbL,Bool.and_eq_true] at h;simp at e;subst e;exact h.1
 |y::l,i+1,x,h,e=>by simp only [wkbL,Bool.and_eq_true] at h;simp at e;exact iF h.2 e
theorem tu{n:Nat}:∀ {l:List (List AV)}{i:Nat}{x:List AV},wkbR n l=true→l[i]?=some x→wkbL n x=true
 |[],_,_,_,h=>by simp at h
 |y::l,0,x,h,e=>by simp only [wkbR,Bool.and_eq_true] at h;simp at e;subst e;exact h.1
 |y::l,i+1,x,h,e=>by simp only [wkbR,Bool.and_eq_true] at h;simp at e;exact tu h.2 e
theorem lj{n:Nat}:∀ {l:List (AV×AV)}{i:Nat}{x y:AV},wkbE n l=true→l[i]?=some (x,y)→wkb n x=true∧wkb n y=true
 |[],_,_,_,_,h=>by simp at h
 |e0::l,0,x,y,h,e=>by simp only [wkbE,Bool.and_eq_true] at h;simp at e;subst e;simpa [wkbP] using h.1
 |e0::l,i+1,x,y,h,e=>by simp only [wkbE,Bool.and_eq_true] at h;simp at e;exact lj h.2 e
def Hb(n:Nat):AObj→Bool
 |.cells cs _=>wkbL n cs
 |.map es=>wkbE n es
 |_=>true
structure VLe (K K':aj):Prop where
 imm:∀ b o v,K.imm b o=some v→K'.imm b o=some v
 own:∀ b x,K.own b=some x→K'.own b=some x
 loc:∀ (i b:Nat),K.loc[i]?=some b→K'.loc[i]?=some b
 shape:∀ b s,K.shape b=some s→K'.shape b=some s
theorem VLe.lt{K K':aj}(h:VLe K K'){i:Nat}(hi:i<K.loc.length):i<K'.loc.length:=
 (List.getElem?_eq_some_iff.1 (h.loc i _ (List.getElem?_eq_getElem hi))).1
theorem V.vle{K K':aj}(h:VLe K K'){a:AV}{v:Value}(hv:V K a v):V K' a v:=by
 induction hv with
 |unk v=>exact .unk v
 |bool b=>exact .bool b
 |int k n=>exact .int k n
 |str s=>exact .str s
 |nilp=>exact .nilp
 |ptr id off b hb=>exact .ptr id off b (h.loc _ _ hb)
 |vptr esz rows i off b o vs hl hi hv ih=>exact .vptr esz rows i off b o vs hl (fun i j r av h1 h2=>h.imm _ _ _ (hi i j r av h1 h2)) ih
 |slice0 tag esz a ht=>exact .slice0 tag esz a ⟨fun t e=>⟨h.lt (ht.1 t e).1,(ht.1 t e).2⟩,ht.2⟩
 |sliceAny tag esz a cap h=>exact .sliceAny tag esz a cap h
 |slice tag esz rows b o cap vs hl hi hv hc ht ih=>
  refine .slice tag esz rows b o cap vs hl (fun i j r av h1 h2=>h.imm _ _ _ (hi i j r av h1 h2)) ih hc ?_;cases tag with
  |any=>trivial
  |some=>trivial
  |full=>exact ht
  |nil=>exact ht
  |own t=>exact ⟨h.lt ht.1,ht.2.imp id fun h2=>⟨h2.1,h.own _ _ h2.2⟩⟩
 |rslice id off len esz room b cap hb hc hs=>exact .rslice id off len esz room b cap (h.loc _ _ hb) hc (fun hr=>let ⟨n,h1,h2⟩:=hs hr;⟨n,h.shape _ _ h1,h2⟩)
 |vmap es b mes hb hl hk hv ih1 ih2=>exact .vmap es b mes (h.shape _ _ hb) hl ih1 ih2
 |nilmap=>exact .nilmap
 |map id b hb=>exact .map id b (h.loc _ _ hb)
 |sdp0 t p=>exact .sdp0 t p
 |sdp t rows b cap vs htl ho hl hi hv hc ih=>exact .sdp t rows b cap vs (h.lt htl) (h.own _ _ ho) hl (fun i j r av h1 h2=>h.imm _ _ _ (hi i j r av h1 h2)) ih hc
 |fn f first captured vs us h1 h2 hv hu ih1 ih2=>exact .fn f first captured vs us h1 h2 ih1 ih2
 |nilfn=>exact .nilfn
 |iface t v x hx ih=>exact .iface t v x ih
 |nilif=>exact .nilif
 |agg cs vs h1 hv ih=>exact .agg cs vs h1 ih
 |tuple cs vs h1 hv ih=>exact .tuple cs vs h1 ih
theorem oP{K:aj}{n b t m:Nat}(h:K.own b=some (t,m))(hlt:t<n):(K.trunc n).own b=some (t,m):=by
 simp [aj.trunc,h,hlt]
theorem zZ{K:aj}{n:Nat}(hn:n≤K.loc.length){a:AV}{v:Value}(hv:V K a v)(hw:wkb n a=true):V (K.trunc n) a v:=by
 have hlen:(K.trunc n).loc.length=n:=by simp [aj.trunc,Nat.min_eq_left hn]
 induction hv with
 |unk v=>exact .unk v
 |bool b=>exact .bool b
 |int k n=>exact .int k n
 |str s=>exact .str s
 |nilp=>exact .nilp
 |ptr id off b hb=>exact .ptr id off b (gD hb (uo hw))
 |vptr esz rows i off b o vs hl hi hv ih=>exact .vptr esz rows i off b o vs hl (fun i j r av h1 h2=>hi i j r av h1 h2) fun i j r av h1 h2=>ih i j r av h1 h2 (iF (tu hw h1) h2)
 |slice0 tag esz a ht=>
  refine .slice0 tag esz a ⟨fun t e=>⟨?_,(ht.1 t e).2⟩,ht.2⟩;subst e;simp only [wkb,Bool.and_eq_true] at hw;rw [hlen];exact uo hw.1
 |sliceAny tag esz a cap h=>exact .sliceAny tag esz a cap h
 |slice tag esz rows b o cap vs hl hi hv hc ht ih=>
  have hr:wkbR n rows=true:=by cases tag<;>simp only [wkb,Bool.and_eq_true] at hw<;>first | exact hw.2 | exact hw
  refine .slice tag esz rows b o cap vs hl (fun i j r av h1 h2=>hi i j r av h1 h2) (fun i j r av h1 h2=>ih i j r av h1 h2 (iF (tu hr h1) h2)) hc (p6 ht fun t e => ?_);subst e;simp only [wkb,Bool.and_eq_true] at hw;exact uo hw.1
 |rslice id off len esz room b cap hb hc hs=>exact .rslice id off len esz room b cap (gD hb (uo hw)) hc hs
 |vmap es b mes hb hl hk hv ih1 ih2=>exact .vmap es b mes hb hl (fun i k v he=>ih1 i k v he (lj hw he).1) fun i k v he=>ih2 i k v he (lj hw he).2
 |nilmap=>exact .nilmap
 |map id b hb=>exact .map id b (gD hb (uo hw))
 |sdp0 t p=>exact .sdp0 t p
 |sdp t rows b cap vs htl ho hl hi hv hc ih=>
  simp only [wkb,Bool.and_eq_true] at hw;have ht:=uo hw.1;exact .sdp t rows b cap vs (by rw [hlen];exact ht) (oP ho ht) hl hi (fun i j r av h1 h2=>ih i j r av h1 h2 (iF (tu hw.2 h1) h2)) hc
 |fn f first captured vs us h1 h2 hv hu ih1 ih2=>
  simp only [wkb,Bool.and_eq_true] at hw;exact .fn f first captured vs us h1 h2 (fun i av h=>ih1 i av h (iF hw.1 h)) fun i av h=>ih2 i av h (iF hw.2 h)
 |nilfn=>exact .nilfn
 |iface t v x hx ih=>exact .iface t v x (ih hw)
 |nilif=>exact .nilif
 |agg cs vs h1 hv ih=>exact .agg cs vs h1 fun i av h=>ih i av h (iF hw h)
 |tuple cs vs h1 hv ih=>exact .tuple cs vs h1 fun i av h=>ih i av h (iF hw h)
def Tag.fz:Tag→Tag
 |.nil=>.nil
 |_=>.any
def fzD:Nat→Nat→List AObj→AV→Option AV
 |0,_,_,_=>none
 |k+1,n,H,v=>
  match v with
  |.rslice id off len esz _=>bif Nat.blt id n then none else (match H[id]? with
    |some (.cells cs _)=>bif Nat.ble (off+len*esz) cs.length then (match l9 (l9 (fzD k n H)) (jH esz len (cs.drop off)) with
     |some rows=>some (.slice .any esz rows)
     |none=>none) else none
    |_=>none)
  |.map id=>bif Nat.blt id n then none else (match H[id]? with
    |some (.map es)=>bif wkbE n es then some (.vmap es) else none
    |_=>none)
  |.slice tag esz rows=>(match l9 (l9 (fzD k n H)) rows with
    |some rows=>some (.slice tag.fz esz rows)
    |none=>none)
  |.agg cs=>(match l9 (fzD k n H) cs with
    |some cs=>some (.agg cs)
    |none=>none)
  |.tuple cs=>(match l9 (fzD k n H) cs with
    |some cs=>some (.tuple cs)
    |none=>none)
  |v=>bif wkb n v then some v else none
def fzV(n:Nat)(H:List AObj)(v:AV):Option AV:=fzD 12 n H v
theorem Inv.live_own{K:aj}{H:List AObj}{w:World}(hi:Inv K H w){id b:Nat}{x:AObj}(hx:H[id]?=some x)(hl:x.live=true)(hb:K.loc[id]?=some b):K.own b=none:=by
 cases ho:K.own b with
 |none=>rfl
 |some p=>
  obtain ⟨_,fr,us,T,lo,hh,_,g2,_⟩:=hi.own b p.1 p.2 ho;have:=hi.obj id x hx;cases x with
  |dead=>cases hl
  |tok=>cases hl
  |cells cs T0=>
   obtain ⟨b2,vs,T2,h1,h2,h3,h4,h5,h6,h7,h8,h9⟩:=this;rw [hb] at h1;cases h1;rw [ho] at h7;cases h7
  |siter s p=>obtain ⟨b2,h1,h2,h3,_⟩:=this;rw [hb] at h1;cases h1;rw [g2] at h3;cases h3
  |map es=>obtain ⟨b2,me,cl,h1,h2,h3,_⟩:=this;rw [hb] at h1;cases h1;rw [g2] at h3;cases h3
def r6(w:World)(b:Nat):Option Shp:=
 match w.heap[b]? with
 |some (.cells vs _ _)=>some (.rows vs.size)
 |some (.map es _)=>some (.mapv es)
 |some o=>some (.fix o)
 |none=>none
theorem Cg{w:World}{b:Nat}{s:Shp}(h:r6 w b=some s):zG w b s:=by
 unfold r6 at h;split at h
 ·rename_i vs T f hb;cases h;exact ⟨vs,T,f,hb,rfl⟩
 ·rename_i es c hb;cases h;exact ⟨c,hb⟩
 ·rename_i o n1 n2 hb;cases h;exact ⟨hb,by cases o<;>first | rfl | exact (n1 _ _ _ rfl).elim | exact (n2 _ _ rfl).elim⟩
 ·cases h
theorem Hc{w:World}{b:Nat}{s:Shp}(h:zG w b s):r6 w b=some s:=by
 cases s with
 |rows n=>obtain ⟨vs,T,f,h1,h2⟩:=h;simp [r6,h1,h2]
 |mapv es=>obtain ⟨c,h1⟩:=h;simp [r6,h1]
 |fix o=>obtain ⟨h1,h2⟩:=h;cases o<;>first | (cases h2;done) | simp [r6,h1]
section
variable{P:Program}{G:Nat→Option (List AV)}
theorem Inv.unsee{K:aj}{H H':List AObj}{w:World}(hi:Inv K H w)(hl:H'.length=H.length)(hs:∀ (i:Nat) (x:AObj),H'[i]?=some x→x = .dead∨H[i]?=some x)
  (ht:∀ (t fr:Nat) (T:TypeId),H[t]?=some (.tok fr T)→H'[t]?=some (.tok fr T)):Inv K H' w:=by
 refine ⟨hi.below,hi.base,hi.imm,by rw [hi.len,hl],fun id x hx => ?_,fun i j x y hx hy lx ly hij => ?_,fun b t n ho => ?_,hi.glob,hi.shape⟩
 ·rcases hs id x hx with rfl | h
  ·trivial
  ·exact hi.obj id x h
 ·rcases hs i x hx with rfl | h1
  ·cases lx
  ·rcases hs j y hy with rfl | h2
   ·cases ly
   ·exact hi.inj i j x y h1 h2 lx ly hij
 ·obtain ⟨hb,fr,us,T,lo,hh,g1,g2⟩:=hi.own b t n ho
  exact ⟨hb,fr,us,T,lo,hh,ht t fr T g1,g2⟩
theorem cB.frame{He H1:List AObj}{f:FuncId}{args:List AV}{v0 v:AV}(h:cB P G f args He fun r H'=>r = .ret v0∧H'=H1)(hk1:H1.take He.length=He)
  (hG:∀ n g cs,G g=some cs→wkbL n cs=true) (ha:∀ a∈args,wkb He.length a=true) (hH:∀ x∈He,Hb He.length x=true) (hf:fzV He.length H1 v0=some v)
  (H2:List AObj) (hm2:He.length≤H2.length) (hag:∀ (i:Nat) (x:AObj),He[i]?=some x→x = .dead∨H2[i]?=some x)
  (htok:∀ (t fr:Nat) (T:TypeId),t<He.length→H2[t]?=some (.tok fr T)→He[t]?=some (.tok fr T)):cB P G f args H2 fun r H'=>r = .ret v∧H'=H2:=by
 classical
 intro K w cargs hg hi hv;generalize hm:He.length=m at *
 have hlen:m≤K.loc.length:=by rw [hi.len];exact hm2
 have hkill:Inv K (He++H2.drop m) w:=by
  refine hi.unsee (by simp [hm];omega) (fun i x hx => ?_) (fun t fr T ht => ?_)
  ·by_cases hlt:i<m
   ·rw [List.getElem?_append_left (by omega)] at hx;exact hag i x hx
   ·rw [List.getElem?_append_right (by omega),List.getElem?_drop,hm,Nat.add_sub_cancel' (by omega)] at hx;exact .inr hx
  ·by_cases hlt:t<m
   ·rw [List.getElem?_append_left (by omega)];exact htok t fr T hlt ht
   ·rw [List.getElem?_append_right (by omega),List.getElem?_drop,hm,Nat.add_sub_cancel' (by omega)];exact ht
 have htk:(He++H2.drop m).take m=He:=by rw [← hm];simp
 have hkl:∀ {i:Nat},i<m→(He++H2.drop m)[i]?=He[i]? := fun h=>List.getElem?_append_left (by omega)
 have hvis:∀ {i:Nat}{x:AObj},He[i]?=some x→x.live=true→H2[i]?=some x:=fun h hl=>by
  rcases hag _ _ h with rfl | h
  ·cases hl
  ·exact h
 let M2:Nat→Prop:=fun b=>w.heap.size≤b∨(∃ (i:Nat) (x:AObj),He[i]?=some x∧x.live=true∧K.loc[i]?=some b)∨∃ t n,K.own b=some (t,n)∧t<m
 have hlt_of:∀ {i:Nat}{x:AObj},He[i]?=some x→i<m:=fun h=>by have:=(List.getElem?_eq_some_iff.1 h).1;omega
 have hM:∀ b,M2 b→K.base b:=fun b hb=>by
  rcases hb with hb | ⟨i,x,h1,h2,h3⟩ | ⟨t,n,h1,_⟩
  ·exact hi.base b hb
  ·obtain ⟨b',h4,h5,_⟩:=hi.live_block (hvis h1 h2) h2
   rw [h3] at h4;cases h4;exact h5
  ·exact (hi.own b t n h1).1
 have hno:∀ {i b:Nat}{x:AObj},He[i]?≠some x→H2[i]?=some x→x.live=true→K.loc[i]?=some b→¬ M2 b:=fun {i b x} h1 h2 h3 h4 hb=>by
  rcases hb with hb | ⟨j,y,g1,g2,g3⟩ | ⟨t,n,g1,_⟩
  ·obtain ⟨b',h5,_,h6⟩:=hi.live_block h2 h3
   rw [h4] at h5;cases h5;omega
  ·have hj:=hvis g1 g2
   exact hi.inj i j x y h2 hj h3 g2 (fun e=>by subst e;rw [hj] at h2;cases h2;exact h1 g1) (h4.trans g3.symm)
  ·rw [hi.live_own h2 h3 h4] at g1;cases g1
 let K2:aj := { K.trunc m with base:=M2,w0:=w }
 have hv2:VLe (K.trunc m) K2:=⟨fun _ _ _ h=>h,fun _ _ h=>h,fun _ _ h=>h,fun _ _ h=>h⟩
 have hglw:∀ (g:Nat) (cs:List AV),K.glob g=some cs→wkb m (.vptr cs.length [cs] 0 0)=true:=fun g cs hgc=>by
  have:=hG m g cs (by rw [← hg];exact hgc);simp [wkb,wkbR,this]
 have hit:Inv (K.trunc m) He w:=by
  have:=hkill.trunc m (fun i cs T0 hlt hcs j av x hj hx=>by
   have h1:He[i]?=some (.cells cs T0):=(hkl hlt).symm.trans hcs;exact zZ hlen hx (iF (hH _ (List.mem_of_getElem? h1)) hj)) (fun i es hlt hes j x y z hj=>by
   have h1:He[i]?=some (.map es):=(hkl hlt).symm.trans hes;have h2:=lj (hH _ (List.mem_of_getElem? h1)) hj;exact ⟨fun hx=>zZ hlen hx h2.1,fun hy=>zZ hlen hy h2.2⟩)
   (fun g cs hgc=>zZ hlen (hi.glob g cs hgc) (hglw g cs hgc))
  rwa [htk] at this
 have hi2:Inv K2 He w:=by
  refine ⟨k7.refl _ _,fun b hb=>.inl hb,hit.imm,hit.len,fun id x hx => ?_,hit.inj,fun b t n ho => ?_,fun g cs hgc=>(hit.glob g cs hgc).vle hv2,hit.shape⟩
  ·have:=hit.obj id x hx
   have hMb:∀ b,x.live=true→(K.trunc m).loc[id]?=some b→M2 b:=fun b hl hb=>.inr (.inl ⟨id,x,hx,hl,by
    have h':(K.loc.take m)[id]?=some b:=hb;rwa [List.getElem?_take,if_pos (hlt_of hx)] at h'⟩)
   cases x with
   |dead=>trivial
   |tok=>trivial
   |cells cs T0=>
    obtain ⟨b,vs,T,h1,h2,h3,h4,h5,h6,h7,h8,h9⟩:=this;exact ⟨b,vs,T,h1,hMb b rfl h1,h3,h4,fun i av hh=>(h5 i av hh).vle hv2,h6,h7,h8,h9⟩
   |siter s p=>obtain ⟨b,h1,h2,h3⟩:=this;exact ⟨b,h1,hMb b rfl h1,h3⟩
   |map es=>
    obtain ⟨b,me,cl,h1,h2,h3,h4,h5,h6⟩:=this;exact ⟨b,me,cl,h1,hMb b rfl h1,h3,h4,fun i k v hh=>let ⟨e,g1,g2,g3⟩:=h5 i k v hh;⟨e,g1,g2.vle hv2,g3.vle hv2⟩,h6⟩
  ·obtain ⟨_,h2⟩:=hit.own b t n ho
   obtain ⟨h3,h4⟩:=aj.trunc_own ho;exact ⟨.inr (.inr ⟨t,n,h3,h4⟩),h2⟩
 have hargs:Vs K2 args cargs:=⟨hv.size,fun i av hh=>(zZ hlen (hv.at_ i av hh) (ha av (List.mem_of_getElem? hh))).vle hv2⟩
 have back:∀ e w',sQ K2 (fun r H'=>r = .ret v0∧H'=H1) e w'→sQ K (fun r H'=>r = .ret v∧H'=H2) e w':=by
  rintro e w' ⟨K3,r,H',hle,hend,hi3,rfl,rfl⟩;have hb3:K3.base=M2:=hle.base
  have hm3:m≤K3.loc.length:=by
   rw [hi3.len];have:=congrArg List.length hk1;simp at this;omega
  have hH1:∀ {i:Nat},i<m→H'[i]?=He[i]? := fun {i} hlt=>by rw [← hk1,List.getElem?_take,if_pos hlt]
  have hloc3:∀ {i b:Nat},i<m→K.loc[i]?=some b→K3.loc[i]?=some b:=fun {i b} hlt hb=>hle.loc i b (by
   show (K.loc.take m)[i]?=_;rw [List.getElem?_take,if_pos hlt];exact hb)
  have hloc3':∀ {i b:Nat},i<m→K3.loc[i]?=some b→K.loc[i]?=some b:=fun {i b} hlt hb=>by
   have h1:K.loc[i]?=some K.loc[i]:=List.getElem?_eq_getElem (by omega);rw [hloc3 hlt h1] at hb;rw [h1];exact hb
  let NB:Nat→Prop:=fun b => ∃ (id:Nat) (x:AObj),m≤id∧H'[id]?=some x∧x.live=true∧K3.loc[id]?=some b
  have hNM:∀ b,NB b→M2 b:=fun b ⟨id,x,h1,h2,h3,h4⟩=>by
   obtain ⟨b',h5,h6,_⟩:=hi3.live_block h2 h3;rw [h4] at h5;cases h5;rw [hb3] at h6;exact h6
  have hNO:∀ b,NB b→K3.own b=none:=fun b ⟨id,x,h1,h2,h3,h4⟩=>hi3.live_own h2 h3 h4
  have hNI:∀ {i b:Nat}{x:AObj},i<m→H'[i]?=some x→x.live=true→K3.loc[i]?=some b→¬ NB b:=fun {i b x} h1 h2 h3 h4 ⟨id,y,g1,g2,g3,g4⟩=>
   hi3.inj i id x y h2 g2 h3 g3 (by omega) (h4.trans g4.symm)
  let K4:aj := { imm:=fun b o=>if NB b then w'.cell? ⟨b,o,none⟩ else K3.imm b o,own:=fun b=>if M2 b then (K3.trunc m).own b else K.own b,loc:=K.loc,base:=K.base,w0:=K.w0,glob:=K.glob,shape:=fun b=>if NB b then r6 w' b else K3.shape b }
  have imm4:∀ {b o:Nat},¬ NB b→K4.imm b o=K3.imm b o:=fun h=>if_neg h
  have hv4:VLe (K3.trunc m) K4:=by
   refine ⟨fun b o x hx => ?_,fun b x hx => ?_,fun i b hb => ?_,fun b s hs => ?_⟩
   ·have hx':K3.imm b o=some x:=hx
    show (if NB b then _ else _)=_;split
    ·exact hi3.imm b o x hx'
    ·exact hx'
   ·obtain ⟨t,n⟩:=x
    have h1:=(aj.trunc_own hx).1;have h2:=(hi3.own b t n h1).1;rw [hb3] at h2;show (if M2 b then _ else _)=_;rw [if_pos h2];exact hx
   ·have h':(K3.loc.take m)[i]?=some b:=hb
    rw [List.getElem?_take] at h';split at h'
    ·rename_i hlt;exact hloc3' hlt h'
    ·cases h'
   ·have hs':K3.shape b=some s:=hs
    show (if NB b then _ else _)=_;split
    ·exact Hc (hi3.shape b s hs')
    ·exact hs'
  have low4:∀ b,¬ M2 b→(∀ o,K4.imm b o=K.imm b o)∧K4.shape b=K.shape b:=fun b hb=>by
   have hnb:¬ NB b:=fun e=>hb (hNM b e)
   have:=hle.low b hb;exact ⟨fun o=>(if_neg hnb).trans (this.1 o),(if_neg hnb).trans this.2⟩
  have hle4:K.le K4:=by
   refine ⟨fun b o x hx=>hv4.imm b o x (hle.imm b o x hx),fun b x hx => ?_,fun _ _ h=>h,rfl,rfl,rfl,fun b s hs=>hv4.shape b s (hle.shape b s hs),fun b hb=>low4 b fun e=>hb (hM b e)⟩;obtain ⟨t,n⟩:=x;show (if M2 b then _ else _)=_;split
   ·rename_i hb
    have hlt:t<m:=by
     rcases hb with hb | ⟨i,x,h1,h2,h3⟩ | ⟨t',n',h1,h2⟩
     ·have:=hi.own_lt hx;omega
     ·rw [hi.live_own (hvis h1 h2) h2 h3] at hx;cases hx
     ·rw [hx] at h1;cases h1;exact h2
    exact oP (hle.own b _ (oP hx hlt)) hlt
   ·exact hx
  have vback:∀ {a:AV}{x:Value},V K3 a x→wkb m a=true→V K4 a x:=fun hx hw=>(zZ hm3 hx hw).vle hv4
  have hk3:k7 M2 w w':=by
   have:=hi3.below;rw [hb3,hle.w0] at this;exact this
  have hi4:Inv K4 H2 w':=by
   refine ⟨hi.below.trans (hk3.mono hM),fun b hb=>hi.base b (Nat.le_trans hk3.size hb),fun b o x hx => ?_,hi.len,fun id x hx => ?_,hi.inj,fun b t n ho => ?_,fun g cs hgc=>(hi.glob g cs hgc).mono hle4,fun b s hs => ?_⟩
   ·have hx':(if NB b then w'.cell? ⟨b,o,none⟩ else K3.imm b o)=some x:=hx
    split at hx'
    ·exact hx'
    ·exact hi3.imm b o x hx'
   ·by_cases hx1:He[id]?=some x
    ·have hlt:=hlt_of hx1
     have hx3:H'[id]?=some x:=(hH1 hlt).trans hx1;have hcl:=hH x (List.mem_of_getElem? hx1);have:=hi3.obj id x hx3;have hMb:∀ b,K3.base b→M2 b:=fun b hb=>by rwa [hb3] at hb
     cases x with
     |dead=>trivial
     |tok=>trivial
     |cells cs T0=>
      obtain ⟨b,vs,T,h1,h2,h3,h4,h5,h6,h7,h8,h9⟩:=this;have hnb:=hNI hlt hx3 rfl h1;refine ⟨b,vs,T,hloc3' hlt h1,hM b (hMb b h2),h3,h4,fun i av hh=>vback (h5 i av hh) (iF hcl hh),fun o=>(imm4 hnb).trans (h6 o), ?_,(if_neg hnb).trans h8,h9⟩;show (if M2 b then _ else _)=_;rw [if_pos (hMb b h2)];simp [aj.trunc,h7]
     |siter s p=>obtain ⟨b,h1,h2,h3,h4⟩:=this;exact ⟨b,hloc3' hlt h1,hM b (hMb b h2),h3,(if_neg (hNI hlt hx3 rfl h1)).trans h4⟩
     |map es=>
      obtain ⟨b,me,cl,h1,h2,h3,h4,h5,h6⟩:=this;have hnb:=hNI hlt hx3 rfl h1;exact ⟨b,me,cl,hloc3' hlt h1,hM b (hMb b h2),h3,h4,fun i k v hh=>let ⟨e,g1,g2,g3⟩:=h5 i k v hh;⟨e,g1,vback g2 (lj hcl hh).1,vback g3 (lj hcl hh).2⟩,(if_neg hnb).trans h6⟩
    ·by_cases ly:x.live=true
     ·refine (hi.obj id x hx).mono hle4 (fun b hb _ _=>hk3.block b (hno hx1 hx ly hb)) (fun b hb _ => ?_)
      have hnm:=hno hx1 hx ly hb;have hl:=low4 b hnm;exact ⟨fun o h=>(hl.1 o).trans h,fun h=>(if_neg hnm).trans h,fun h=>hl.2.trans h⟩
     ·cases x<;>first | exact absurd rfl ly | trivial
   ·have ho':(if M2 b then (K3.trunc m).own b else K.own b)=some (t,n):=ho
    split at ho'
    ·rename_i hb
     obtain ⟨h1,h2⟩:=aj.trunc_own ho';obtain ⟨_,fr,us,T,lo,hh,g1,g2,g3,g4,g5⟩:=hi3.own b t n h1;have hnb:¬ NB b:=fun e=>by rw [hNO b e] at h1;cases h1
     exact ⟨hM b hb,fr,us,T,lo,hh,by
      rcases hag t _ ((hH1 h2).symm.trans g1) with h | h
      ·cases h
      ·exact h,g2,g3,g4,fun o x hx=>g5 o x (by rw [← imm4 hnb];exact hx)⟩
    ·rename_i hb
     obtain ⟨h0,fr,us,T,lo,hh,g1,g2,g3,g4,g5⟩:=hi.own b t n ho';exact ⟨h0,fr,us,T,lo,hh,g1,by rw [hk3.block b hb];exact g2,g3,g4,fun o x hx=>g5 o x (by rw [← (low4 b hb).1 o];exact hx)⟩
   ·have hs':(if NB b then r6 w' b else K3.shape b)=some s:=hs
    split at hs'
    ·exact Cg hs'
    ·exact hi3.shape b s hs'
  have fzD_ok:∀ (k:Nat) {a a':AV}{x:Value},V K3 a x→fzD k m H' a=some a'→V K4 a' x:=by
   intro k;induction k with
   |zero=>intro a a' x _ he;cases he
   |succ k ih=>
   intro a a' x hx he
   have other:∀ {a'':AV},V K3 a x→(bif wkb m a then some a else none)=some a''→V K4 a'' x:=fun hx he=>by
    cases hw:wkb m a with
    |false=>rw [hw] at he;cases he
    |true=>rw [hw] at he;cases he;exact vback hx hw
   have two:∀ {rows rows':List (List AV)},l9 (l9 (fzD k m H')) rows=some rows'→rows'.length=rows.length∧(∀ (i:Nat) (r:List AV),rows'[i]?=some r→∃ r0,rows[i]?=some r0∧r.length=r0.length∧∀ (j:Nat) (av:AV),r[j]?=some av→∃ a0,r0[j]?=some a0∧fzD k m H' a0=some av):=fun h=>by
    obtain ⟨g1,g2⟩:=qu h;refine ⟨g1,fun i r hr => ?_⟩;obtain ⟨r0,e1,e2⟩:=g2 i r hr;obtain ⟨e3,e4⟩:=qu e2;exact ⟨r0,e1,e3,e4⟩
   cases hx with
   |rslice id off len esz room b cap hb hcap hro=>
    simp only [fzD] at he;cases hlt:Nat.blt id m with
    |true=>rw [hlt] at he;cases he
    |false=>
     rw [hlt,cond_false] at he
     have hge:m≤id:=by
      refine Nat.le_of_not_lt fun e => ?_
      rw [← Nat.blt_eq,hlt] at e;cases e
     split at he
     ·rename_i cs T0 hc
      cases hcnd:Nat.ble (off+len*esz) cs.length with
      |false=>rw [hcnd] at he;cases he
      |true=>
       rw [hcnd,cond_true] at he;have hsz:=Nat.le_of_ble_eq_true hcnd;split at he
       ·rename_i rows' hrows
        cases he;obtain ⟨t1,t2⟩:=two hrows;rw [kW] at t1;obtain ⟨b2,vs,T2,h1,h2,h3,h4,h5,h6,h7,h8,h9⟩:=hi3.obj _ _ hc;rw [hb] at h1;cases h1;have hnb:NB b:=⟨id,_,hge,hc,rfl,hb⟩
        have row:∀ (i j:Nat) (r:List AV) (av:AV),(jH esz len (cs.drop off))[i]?=some r→r[j]?=some av→i<len∧j<esz∧cs[off+i*esz+j]?=some av:=fun i j r av hr hj=>by
         obtain ⟨g1,rfl⟩:=mB esz len (cs.drop off) i r hr;rw [List.getElem?_take] at hj;split at hj
         ·rename_i hlt
          rw [List.getElem?_drop,List.getElem?_drop] at hj;exact ⟨g1,hlt,by rw [← hj];congr 1;omega⟩
         ·cases hj
        have:=V.slice (K:=K4) .any esz rows' b off cap (fun i j=>vs.getD (off+i*esz+j) undef) (fun r hr => ?_) (fun i j r av hr hj => ?_) (fun i j r av hr hj => ?_) (by rw [t1];exact hcap) trivial
        ·rwa [t1] at this
        ·obtain ⟨i,hi1⟩:=List.mem_iff_getElem?.1 hr
         obtain ⟨r0,e1,e2,_⟩:=t2 i r hi1;obtain ⟨g1,rfl⟩:=mB esz len (cs.drop off) i r0 e1
         have:i*esz+esz≤len*esz:=by rw [← Nat.succ_mul];exact Nat.mul_le_mul_right _ g1
         rw [e2];simp;omega
        ·obtain ⟨r0,e1,_,e3⟩:=t2 i r hr
         obtain ⟨a0,e4,e5⟩:=e3 j av hj;obtain ⟨g1,g2,g3⟩:=row i j r0 a0 e1 e4;have hlt:off+i*esz+j<vs.size:=Nat.lt_of_lt_of_le (List.getElem?_eq_some_iff.1 g3).1 h4;show (if NB b then _ else _)=_;rw [if_pos hnb,b6 h3,Array.getElem?_eq_getElem hlt];simp [Array.getD,hlt]
        ·obtain ⟨r0,e1,_,e3⟩:=t2 i r hr
         obtain ⟨a0,e4,e5⟩:=e3 j av hj;obtain ⟨g1,g2,g3⟩:=row i j r0 a0 e1 e4;exact ih (h5 _ _ g3) e5
       ·cases he
     ·cases he
   |map id b hb=>
    simp only [fzD] at he;cases hlt:Nat.blt id m with
    |true=>rw [hlt] at he;cases he
    |false=>
     rw [hlt,cond_false] at he
     have hge:m≤id:=by
      refine Nat.le_of_not_lt fun e => ?_
      rw [← Nat.blt_eq,hlt] at e;cases e
     split at he
     ·rename_i es hc
      cases hw:wkbE m es with
      |false=>rw [hw] at he;cases he
      |true=>
       rw [hw] at he;cases he;obtain ⟨b2,mes,clock,h1,h2,h3,h4,h5,h6⟩:=hi3.obj _ _ hc;rw [hb] at h1;cases h1;have hnb:NB b:=⟨id,_,hge,hc,rfl,hb⟩
       refine .vmap es b mes ((if_pos hnb).trans (by simp [r6,h3])) h4 (fun i k v he => ?_) (fun i k v he => ?_)
       ·obtain ⟨e,g1,g2,g3⟩:=h5 i k v he
        rw [show mes.getD i ⟨undef,undef,0⟩=e by simp [Array.getD_eq_getD_getElem?,g1]];exact vback g2 (lj hw he).1
       ·obtain ⟨e,g1,g2,g3⟩:=h5 i k v he
        rw [show mes.getD i ⟨undef,undef,0⟩=e by simp [Array.getD_eq_getD_getElem?,g1]];exact vback g3 (lj hw he).2
     ·cases he
   |slice0 tag esz a h=>
    cases he;cases tag with
    |nil=>rw [h.2.1 rfl];exact .slice0 .nil esz none ⟨fun _ e=>(by cases e),fun _=>rfl,fun e=>(by cases e)⟩
    |some=>exact absurd rfl h.2.2
    |any=>exact .slice0 .any esz a ⟨fun _ e=>(by cases e),fun e=>(by cases e),fun e=>(by cases e)⟩
    |full=>exact .slice0 .any esz a ⟨fun _ e=>(by cases e),fun e=>(by cases e),fun e=>(by cases e)⟩
    |own t=>exact .slice0 .any esz a ⟨fun _ e=>(by cases e),fun e=>(by cases e),fun e=>(by cases e)⟩
   |sliceAny tag esz a cap h=>
    cases he
    have:tag.fz = .any:=by rcases h with rfl | ⟨rfl,_⟩<;>rfl
    rw [this];exact .sliceAny .any esz a cap (.inl rfl)
   |slice tag esz rows b o cap vs hl him hvv hc ht=>
    simp only [fzD] at he;split at he
    ·rename_i rows' hrows
     cases he;obtain ⟨t1,t2⟩:=two hrows;have htag:tag.fz = .any:=by cases tag<;>first | rfl | exact (ht:False).elim
     have:=V.slice (K:=K4) .any esz rows' b o cap vs (fun r hr => ?_) (fun i j r av hr hj => ?_) (fun i j r av hr hj => ?_) (by rw [t1];exact hc) trivial
     ·rw [htag];rwa [t1] at this
     ·obtain ⟨i,hi1⟩:=List.mem_iff_getElem?.1 hr
      obtain ⟨r0,e1,e2,_⟩:=t2 i r hi1;rw [e2];exact hl r0 (List.mem_of_getElem? e1)
     ·obtain ⟨r0,e1,_,e3⟩:=t2 i r hr
      obtain ⟨a0,e4,e5⟩:=e3 j av hj;exact hv4.imm _ _ _ (him i j r0 a0 e1 e4)
     ·obtain ⟨r0,e1,_,e3⟩:=t2 i r hr
      obtain ⟨a0,e4,e5⟩:=e3 j av hj;exact ih (hvv i j r0 a0 e1 e4) e5
    ·cases he
   |unk=>exact other (.unk _) he
   |bool b=>exact other (.bool b) he
   |int k n=>exact other (.int k n) he
   |str s=>exact other (.str s) he
   |nilp=>exact other .nilp he
   |ptr id off b hb=>exact other (.ptr id off b hb) he
   |vptr esz rows i off b o vs hl hi hv=>exact other (.vptr esz rows i off b o vs hl hi hv) he
   |vmap es b mes hb hl hk hv=>exact other (.vmap es b mes hb hl hk hv) he
   |nilmap=>exact other .nilmap he
   |sdp0 t p=>exact other (.sdp0 t p) he
   |sdp t rows b cap vs htl ho hl hi hv hc=>exact other (.sdp t rows b cap vs htl ho hl hi hv hc) he
   |fn f first captured vs us h1 h2 hv hu=>exact other (.fn f first captured vs us h1 h2 hv hu) he
   |nilfn=>exact other .nilfn he
   |iface t v x hx=>exact other (.iface t v x hx) he
   |nilif=>exact other .nilif he
   |agg cs vs h1 hv=>
    simp only [fzD] at he;split at he
    ·rename_i cs' hcs
     cases he;obtain ⟨g1,g2⟩:=qu hcs
     exact .agg _ _ (g1.trans h1) fun i av h=>by
      obtain ⟨a0,e1,e2⟩:=g2 i av h;exact ih (hv i a0 e1) e2
    ·cases he
   |tuple cs vs h1 hv=>
    simp only [fzD] at he;split at he
    ·rename_i cs' hcs
     cases he;obtain ⟨g1,g2⟩:=qu hcs
     exact .tuple _ _ (g1.trans h1) fun i av h=>by
      obtain ⟨a0,e1,e2⟩:=g2 i av h;exact ih (hv i a0 e1) e2
    ·cases he
  refine ⟨K4,.ret v,H2,hle4, ?_,hi4,rfl,rfl⟩;cases e with
  |panicked c=>exact hend.elim
  |outgrown=>exact hend.elim
  |returned x=>
   have hx:V K3 v0 x:=hend;show V K4 v x;exact fzD_ok 12 hx hf
 rcases h K2 w cargs hg hi2 hargs with ⟨h1,h2⟩ | ⟨cv,w',h1,h2⟩
 ·exact .inl ⟨h1,h2.mono back⟩
 ·exact .inr ⟨cv,w',h1,back _ _ h2⟩
end
end Go.Am
end
section
namespace Go.Am
open Go.RowKit
end Go.Am
end
section
namespace Go.Am
open Go.RowKit
end Go.Am
end
section
namespace Go.Am
open Go.RowKit
structure r7 (P:Program) (f:FuncId) (e:Array Value→Sem Value):Prop where
 run:∀ (args:Array Value) (w:World),(callFunc f args).run P w=((e args).run P w).andThen fun v w'=>.ok (.value v) w'
theorem r7.of {P:Program}{f:FuncId}{fn:Func}{e:Array Value→Sem Value} (hf:P.funcs[f]?=some fn) (hname:(fn.name == "runtime.NumGoroutine")=false)
  (hb:fn.body.isNone=true) (hn:Extern.findNext fn=none) (he:Extern.find fn=some e):r7 P f e:=⟨fun args w=>run_callFunc_extern hf hname hb hn he args w⟩
section
variable{P:Program}{G:Nat→Option (List AV)}{f:FuncId}{e:Array Value→Sem Value}
theorem r7.calls(h:r7 P f e){args:List AV}{H:List AObj}{R:kJ→List AObj→Prop}
  (hr:∀ (K:aj) (w:World) (cargs:Array Value),Inv K H w→Vs K args cargs→∃ cv w',(e cargs).run P w = .ok cv w'∧sQ K R (.returned cv) w'):cB P G f args H R:=fun K w cargs _ hi hv=>by
 obtain ⟨cv,w',h1,h2⟩:=hr K w cargs hi hv;exact .inr ⟨cv,w',by rw [h.run,h1];rfl,h2⟩
theorem FC(h:r7 P f Extern.BytealgCount.count)(s:List UInt8)(c:Int)(H:List AObj) :
  cB P G f [.str s,.int .u8 c] H fun r H'=>r = .ret (.int .i64 (Lib.countByte s c.toNat.toUInt8:Nat))∧H'=H:=h.calls fun K w cargs hi hv=>by
 obtain ⟨x,y,rfl,hx,hy⟩:=nW hv;cases hx;cases hy;exact ⟨_,_,Lib.run_countString _ _ _,K,.ret (.int .i64 (Lib.countByte s c.toNat.toUInt8:Nat)),H,.refl K,V.int _ _,hi,rfl,rfl⟩
theorem FD(h:r7 P f Extern.BytealgIndexByte.indexByte)(s:List UInt8)(c:Int)(H:List AObj) :
  cB P G f [.str s,.int .u8 c] H fun r H'=>r = .ret (.int .i64 (Lib.indexByte s c.toNat.toUInt8))∧H'=H:=h.calls fun K w cargs hi hv=>by
 obtain ⟨x,y,rfl,hx,hy⟩:=nW hv;cases hx;cases hy;exact ⟨_,_,Lib.run_indexByteString _ _ _,K,.ret (.int .i64 (Lib.indexByte s c.toNat.toUInt8)),H,.refl K,V.int _ _,hi,rfl,rfl⟩
theorem Hd(h:r7 P f Extern.AbiNoEscape.same)(v:AV)(H:List AObj):cB P G f [v] H fun r H'=>r = .ret v∧H'=H:=h.calls fun K w cargs hi hv=>by
 obtain ⟨x,rfl,hx⟩:=s3 hv;exact ⟨_,_,Lib.run_noEscape _ x,K,.ret v,H,.refl K,hx,hi,rfl,rfl⟩
end
def woK(E0:bc)(n:Nat)(f:FuncId)(args:List AV)(H:List AObj):Option (AV×List Nat):=
 bif wkbL 0 args then (match qw I1 E0 n f args [] with
  |some (.ret v0,H1)=>match fzV 0 H1 v0 with
   |some v=>some (v,[])
   |none=>none
  |_=>none)
 else bif wkbL H.length args&&H.all (Hb H.length) then (match qw I1 E0 n f args H with
  |some (.ret v0,H1)=>bif oO H H1 then (match fzV H.length H1 v0 with
   |some v=>some (v,List.range H.length)
   |none=>none) else none
  |_=>none)
 else none
theorem xE{n:Nat}{l:List AV}(h:wkbL n l=true):∀ a∈l,wkb n a=true:=fun a ha=>by
 obtain ⟨i,hi⟩:=List.mem_iff_getElem?.1 ha;exact iF h hi
theorem FE{α:Type}{H H2:List α}(h:∀ i,i<H.length→H2[i]?=H[i]?):H.length≤H2.length:=by
 refine Nat.le_of_not_lt fun e => ?_
 have h1:=h H2.length e;rw [List.getElem?_eq_none (Nat.le_refl _),List.getElem?_eq_getElem e] at h1;cases h1
theorem Hf{E0:bc}(h0:E0.Ok)(hG:∀ n g cs,E0.G g=some cs→wkbL n cs=true){n:Nat}{f:FuncId}{args:List AV}{H:List AObj}{v:AV}{L:List Nat}(h:woK E0 n f args H=some (v,L)) :
  ∀ H2:List AObj,(∀ id∈L,id<H.length→H2[id]?=H[id]?)→cB E0.P E0.G f args H2 fun r H'=>r = .ret v∧H'=H2:=by
 intro H2 hag;unfold woK at h;cases hw:wkbL 0 args with
 |true=>
  rw [hw,cond_true] at h;split at h
  ·rename_i v0 H1 hc
   split at h
   ·rename_i v' hf
    cases h;exact cB.frame (He:=[]) ((n7 h0 n).2 _ _ _ _ _ hc |>.mono fun r H' e=>e) (by simp) hG (xE hw) (fun x hx=>by simp at hx) hf H2 (by simp) (fun i x hx=>by simp at hx) (fun t fr T ht=>by simp at ht)
   ·cases h
  ·cases h
 |false=>
  rw [hw,cond_false] at h;cases hw2:wkbL H.length args&&H.all (Hb H.length) with
  |false=>rw [hw2] at h;cases h
  |true=>
   rw [hw2,cond_true] at h;simp only [Bool.and_eq_true] at hw2;split at h
   ·rename_i v0 H1 hc
    cases hb:oO H H1 with
    |false=>rw [hb] at h;cases h
    |true=>
     rw [hb,cond_true] at h;split at h
     ·rename_i v' hf
      cases h;exact cB.frame ((n7 h0 n).2 _ _ _ _ _ hc |>.mono fun r H' e=>e) (n8 hb) hG (xE hw2.1) (fun x hx=>List.all_eq_true.1 hw2.2 x hx) hf H2 (FE fun i hi=>hag i (by simpa using hi) hi) (fun i x hx=>.inr ((hag i (by simpa using (List.getElem?_eq_some_iff.1 hx).1) (List.getElem?_eq_some_iff.1 hx).1).trans hx)) (fun t fr T hlt ht=>(hag t (by simpa using hlt) hlt).symm.trans ht)
     ·cases h
   ·cases h
def xF:List AObj→List AObj→Bool
 |[],_=>true
 |.dead::_,.tok _ _::_=>false
 |.dead::l,_::m=>xF l m
 |x::l,y::m=>AObj.eqb x y&&xF l m
 |_,_=>false
theorem Et:∀ {H H2:List AObj},xF H H2=true→H.length≤H2.length∧(∀ (i:Nat) (x:AObj),H[i]?=some x→x = .dead∨H2[i]?=some x) ∧
  (∀ (t fr:Nat) (T:TypeId),t<H.length→H2[t]?=some (.tok fr T)→H[t]?=some (.tok fr T))
 |[],_,_=>⟨by simp,fun i x h=>by simp at h,fun t fr T h=>by simp at h⟩
 |x::l,[],h=>by cases x<;>simp [xF] at h
 |x::l,y::m,h=>by
  have key:(x = .dead∧∀ fr T,y≠.tok fr T)∨x=y:=by
   cases x<;>cases y<;>simp only [xF,Bool.and_eq_true] at h<;>first | (cases h;done) | exact .inr (AObj.eqb_eq h.1) | exact .inl ⟨rfl,fun _ _ e=>by cases e⟩
  have hr:xF l m=true:=by
   cases x<;>cases y<;>simp only [xF,Bool.and_eq_true] at h<;>first | (cases h;done) | exact h.2 | exact h
  obtain ⟨h1,h2,h3⟩:=Et hr;refine ⟨by simpa using h1,fun i z hz => ?_,fun t fr T ht hz => ?_⟩
  ·cases i with
   |zero=>simp at hz;subst hz;rcases key with ⟨h,_⟩ | h
          ·exact .inl h
          ·exact .inr (by simp [h])
   |succ i=>simp at hz;simpa using h2 i z hz
  ·cases t with
   |zero=>simp at hz;subst hz;rcases key with ⟨_,h⟩ | h
          ·exact absurd rfl (h fr T)
          ·simp [h]
   |succ t=>simp at hz ht;simpa using h3 t fr T ht hz
def Eu(E0:bc)(n:Nat)(f:FuncId)(args:List AV)(H:List AObj):Option AV:=
 bif wkbL H.length args&&H.all (Hb H.length) then (match qw I1 E0 n f args H with
  |some (.ret v0,H1)=>bif oO H H1 then fzV H.length H1 v0 else none
  |_=>none)
 else none
theorem Ch{E0:bc}(h0:E0.Ok)(hG:∀ n g cs,E0.G g=some cs→wkbL n cs=true){n:Nat}{f:FuncId}{args:List AV}{He:List AObj}{v:AV}
  (h:Eu E0 n f args He=some v) {H2:List AObj} (hb:xF He H2=true):cB E0.P E0.G f args H2 fun r H'=>r = .ret v∧H'=H2:=by
 unfold Eu at h;cases hw2:wkbL He.length args&&He.all (Hb He.length) with
 |false=>rw [hw2] at h;cases h
 |true=>
  rw [hw2,cond_true] at h;simp only [Bool.and_eq_true] at hw2;split at h
  ·rename_i v0 H1 hc
   cases hb2:oO He H1 with
   |false=>rw [hb2] at h;cases h
   |true=>
    rw [hb2,cond_true] at h;obtain ⟨h1,h2,h3⟩:=Et hb;exact cB.frame ((n7 h0 n).2 _ _ _ _ _ hc |>.mono fun r H' e=>e) (n8 hb2) hG (xE hw2.1) (fun x hx=>List.all_eq_true.1 hw2.2 x hx) h H2 h1 h2 h3
  ·cases h
end Go.Am
end
section
namespace Go.Am
def dE(P:Program)(G:Nat→Option (List AV))(f:FuncId)(af:AFn):Prop:=GA P G af.muts f=some (af.c.strip,af.n,af.res,af.dfr.map fun x=>(x.1,x.2.1,x.2.2.strip))
def AFn.k(a:AFn):AFn:=⟨a.c.strip,a.n,a.res,.keep,a.muts,none⟩
def Jc(P:Program)(G:Nat→Option (List AV))(f:FuncId)(x:Nat×AFn):Prop:=B1 P G f=some (x.1,x.2.c.strip,x.2.n,x.2.res)∧x.2.dfr=none
def Jd{α:Type}:List (Nat×α)→Nat→Option α
 |[],_=>none
 |p::l,f=>bif Nat.beq f p.1 then some p.2 else Jd l f
def Ci{α:Type}:List (Nat×List (Nat×α))→Nat→Option α
 |[],_=>none
 |p::l,f=>bif Nat.ble f p.1 then Jd p.2 f else Ci l f
def ll{α:Type}(C:Nat→α→Prop):List (Nat×α)→Prop
 |[]=>True
 |p::l=>C p.1 p.2∧ll C l
def A2{α:Type}(C:Nat→α→Prop):List (Nat×List (Nat×α))→Prop
 |[]=>True
 |p::l=>ll C p.2∧A2 C l
theorem Ev{α:Type}{C:Nat→α→Prop}{f:Nat}{a:α}:∀ {l:List (Nat×α)},ll C l→Jd l f=some a→C f a
 |[],_,h=>by cases h
 |p::l,h,e=>by
  unfold Jd at e;cases hb:Nat.beq f p.1 with
  |true=>rw [hb] at e;cases e;rw [Nat.eq_of_beq_eq_true hb];exact h.1
  |false=>rw [hb] at e;exact Ev h.2 e
theorem xG{α:Type}{C:Nat→α→Prop}{f:Nat}{a:α}:∀ {l:List (Nat×List (Nat×α))},A2 C l→Ci l f=some a→C f a
 |[],_,h=>by cases h
 |p::l,h,e=>by
  unfold Ci at e;cases hb:Nat.ble f p.1 with
  |true=>rw [hb] at e;exact Ev h.1 e
  |false=>rw [hb] at e;exact xG h.2 e
end Go.Am
end
section
namespace Go.Am
structure RPc where
 f:FuncId
 args:List AV
 heap:List AObj
 v:AV
def dd(n:Nat)(l:List AObj):List AObj:=List.replicate n .dead++l
def Ew(f:FuncId)(args:List AV)(H:List AObj):List RPc→Option AV
 |[]=>none
 |p::ps=>bif Nat.beq f p.f&&AV.eqbL args p.args&&xF p.heap H then some p.v else Ew f args H ps
def pin(f:FuncId):List RPc→Bool
 |[]=>false
 |p::ps=>bif Nat.beq f p.f then true else pin f ps
def RPc.Ok(P:Program)(G:Nat→Option (List AV))(p:RPc):Prop:=∀ H2,xF p.heap H2=true→cB P G p.f p.args H2 fun r H'=>r = .ret p.v∧H'=H2
def LQ(E0:bc):bc := { E0 with wo:=woK E0 100000 }
def KM(E0:bc)(ps:List RPc)(f:FuncId)(args:List AV)(H:List AObj):Option Out:=
 match Ew f args H ps with
 |some v=>some (.ret v,H)
 |none=>bif pin f ps then qw I1 (LQ E0) 100000 f args H else E0.orc f args H
def EPo(E0:bc)(ps:List RPc):bc := { E0 with fn:=fun f=>bif pin f ps then none else E0.fn f,orc:=KM E0 ps }
def EP(E0:bc)(ps:List RPc):bc := { EPo E0 ps with wo:=woK (EPo E0 ps) 100000 }
theorem Cj{P:Program}{G:Nat→Option (List AV)}{f:FuncId}{args:List AV}{H:List AObj}{v:AV}:∀ {ps:List RPc},(∀ p∈ps,p.Ok P G)→Ew f args H ps=some v→cB P G f args H fun r H'=>r = .ret v∧H'=H
 |[],_,h=>by cases h
 |p::ps,hp,h=>by
  unfold Ew at h;cases hb:(Nat.beq f p.f&&AV.eqbL args p.args&&xF p.heap H) with
  |true=>
   rw [hb] at h;cases h;simp only [Bool.and_eq_true] at hb;rw [Nat.eq_of_beq_eq_true hb.1.1,AV.eqbL_eq hb.1.2];exact hp p (by simp) H hb.2
  |false=>rw [hb] at h;exact Cj (fun q hq=>hp q (by simp [hq])) h
section
variable{E0:bc}(h0:E0.Ok)(hG:∀ n g cs,E0.G g=some cs→wkbL n cs=true)
include h0 hG in
theorem Je:(LQ E0).Ok:=⟨h0.mixed,h0.fn,h0.dfn,fun _ _ _ _ _ h=>Hf h0 hG h,h0.orc,h0.meth,h0.seq⟩
include h0 hG in
theorem KN{ps:List RPc}(hp:∀ p∈ps,p.Ok E0.P E0.G)(hw:∀ f args H,E0.wo f args H=none):(EPo E0 ps).Ok:=⟨h0.mixed,fun f af h=>by
  have h':(bif pin f ps then none else E0.fn f)=some af:=h;cases hb:pin f ps with
  |true=>rw [hb] at h';cases h'
  |false=>rw [hb] at h';exact h0.fn f af h',h0.dfn,(fun f args H v L h=>by
  have h':E0.wo f args H=some (v,L):=h;rw [hw] at h';cases h'),fun f args H r H' h=>by
  have h':KM E0 ps f args H=some (r,H'):=h;unfold KM at h';split at h'
  ·rename_i v hv
   cases h';exact Cj hp hv
  ·cases hb:pin f ps with
   |true=>
    rw [hb] at h';exact ((n7 (Je h0 hG) 100000).2 _ _ _ _ _ h').mono fun r H' e=>e
   |false=>rw [hb] at h';exact h0.orc _ _ _ _ _ h',h0.meth,h0.seq⟩
include h0 hG in
theorem Kl{ps:List RPc}(hp:∀ p∈ps,p.Ok E0.P E0.G)(hw:∀ f args H,E0.wo f args H=none):(EP E0 ps).Ok:=
 have h:=KN h0 hG hp hw
 ⟨h.mixed,h.fn,h.dfn,fun _ _ _ _ _ e=>Hf h hG e,h.orc,h.meth,h.seq⟩
include h0 hG in
theorem qD{ps:List RPc}(hp:∀ p∈ps,p.Ok E0.P E0.G)(hw:∀ f args H,E0.wo f args H=none){p:RPc}(h:Eu (EP E0 ps) 100000 p.f p.args p.heap=some p.v):∀ q∈p::ps,q.Ok E0.P E0.G:=fun q hq=>by
 rcases List.mem_cons.1 hq with rfl | hq
 ·exact fun H2 hs=>Ch (Kl h0 hG hp hw) hG h hs
 ·exact hp q hq
end
end Go.Am
end
section
namespace Go.Am
open Go.RowKit Go.ChangeShapes
def aj.start(W:World)(G:Nat→Option (List AV)):aj:=
 {imm:=fun b o=>W.cell? ⟨b,o,none⟩,own:=fun _=>none,loc:=[],base:=fun b=>W.heap.size≤b,w0:=W,glob:=G,shape:=r6 W }
theorem Inv.start(W:World)(G:Nat→Option (List AV))(hG:∀ (g:Nat) (cs:List AV),G g=some cs→V (aj.start W G) (.vptr cs.length [cs] 0 0) (.pointer (some ⟨g,0,none⟩))):Inv (aj.start W G) [] W:=
 ⟨k7.refl _ _,fun _ h=>h,fun _ _ _ h=>h,rfl,(fun id x h=>by simp at h),(fun i j x y h=>by simp at h),(fun b t n h=>by cases h),hG,fun b s h=>Cg h⟩
section
variable{P:Program}
theorem FF{G:Nat→Option (List AV)}{f:FuncId}{args:List AV}{W:World}{cargs:Array Value}(h:cB P G f args [] fun r H'=>r = .ret (.bool true)∧H'=[])
  (hG:∀ (g:Nat) (cs:List AV),G g=some cs→V (aj.start W G) (.vptr cs.length [cs] 0 0) (.pointer (some ⟨g,0,none⟩)))
  (hb:(callFunc f cargs).run P W = .ok (.enter f cargs) W) (hv:Vs (aj.start W G) args cargs):Calls P f cargs W fun e w'=>e = .returned (.bool true)∧Below W.heap.size W w':=by
 rcases h (aj.start W G) W cargs rfl (Inv.start W G hG) hv with ⟨_,h2⟩ | ⟨cv,w',h1,_⟩
 ·refine h2.mono ?_
  rintro e w' ⟨K',r,H',hk,he,hi,rfl,rfl⟩;have hkept:=hi.below;rw [hk.base,hk.w0] at hkept;refine ⟨?_,hkept.below fun b hb=>hb⟩;cases e with
  |panicked c=>exact he.elim
  |outgrown=>exact he.elim
  |returned x=>
   have hx:V K' (.bool true) x:=he;cases hx;rfl
 ·rw [hb] at h1;cases h1
theorem r8{H:Type}{enc:TypeId×Value→H}(hl:laidOutB P=true){W W':World}(hb:Below W.heap.size W W'):∀ (ts:List TypeId) (vs:List Value) (ds:List (DataW H)) (ps:List MemPlace),
  (∀ t∈ts,P.readableRec t=true∧t<P.types.size)→DataW.TrodAll enc P W 0 (fun _=>true) true ts vs ds ps→(∀ x∈ps,x.block<W.heap.size) →
  DataW.TrodAll enc P W' 0 (fun b=>decide (b<W.heap.size)) true ts vs ds ps
 |[],_,_,_,_,h,_=>by
  obtain ⟨rfl,rfl,rfl⟩:=trodAll_nil h;rfl
 |t::ts,_,_,_,hr,h,hlt=>by
  obtain ⟨v,vs1,d,ds1,a,b,rfl,rfl,rfl,h1,h2⟩:=trodAll_cons h;exact ⟨a,b,Below.trod hl (hr t (by simp)).1 (hr t (by simp)).2 h1 hb (fun x hx=>hlt x (by simp [hx])),r8 hl hb ts vs1 ds1 b (fun u hu=>hr u (by simp [hu])) h2 (fun x hx=>hlt x (by simp [hx])),rfl⟩
end
end Go.Am
end
section
namespace Go.Am.Sh
open Go.RowKit
abbrev t(n:Nat):RX:=.t n
abbrev i(n:Int):RX:=.c (.int .i64 n)
abbrev u(n:Int):RX:=.c (.int .u8 n)
abbrev T:RX:=.c (.bool true)
abbrev F:RX:=.c (.bool false)
abbrev s(x:List UInt8):RX:=.c (.str x)
abbrev f(n:Nat):RX:=.c (.fn (.func n) [] [])
abbrev o(d:Nat)(x:ROp):RO:=⟨some d,none,.op x⟩
abbrev n(x:ROp):RO:=⟨none,none,.op x⟩
abbrev g(d q:Nat)(x:ROp):RO:=⟨some d,some (q,true),.op x⟩
abbrev h(d q:Nat)(x:ROp):RO:=⟨some d,some (q,false),.op x⟩
abbrev k(d:Nat)(x:RX)(l:List RX):RO:=⟨some d,none,.call x l⟩
abbrev m(d x:Nat):RO:=⟨some d,none,.op (.mv (.t x))⟩
abbrev mc(d:Nat)(x:RX):RO:=⟨some d,none,.op (.mv x)⟩
abbrev ld(d x:Nat):RO:=⟨some d,none,.op (.ld none (.t x))⟩
abbrev la(d j x:Nat):RO:=⟨some d,none,.op (.ld (some j) (.t x))⟩
abbrev fa(d j x:Nat):RO:=⟨some d,none,.op (.fa j (.t x))⟩
abbrev ia(d j x y:Nat):RO:=⟨some d,none,.op (.ias j (.t x) (.t y))⟩
abbrev ls(d x:Nat):RO:=⟨some d,none,.op (.len .sl (.t x))⟩
abbrev lt(d x:Nat):RO:=⟨some d,none,.op (.len .str (.t x))⟩
abbrev ad(d x:Nat):RO:=⟨some d,none,.op (.ar .add (.t x) (.c (.int .i64 1)))⟩
abbrev bl(d x y:Nat):RO:=⟨some d,none,.op (.ar .lss (.t x) (.t y))⟩
abbrev no(d x:Nat):RO:=⟨some d,none,.op (.un .not (.t x))⟩
abbrev ex(d x j:Nat):RO:=⟨some d,none,.op (.ex (.t x) j)⟩
abbrev P(x:RO):RO×Cl:=(x,.pure)
abbrev W(x:RO):RO×Cl:=(x,.wide)
abbrev E(x:RO):RO×Cl:=(x,.eff)
abbrev K(x:RO):RO×Cl:=(x,.keep)
abbrev Q(x y:AC):AC:=.seq x y
abbrev C(c:Nat)(x y:AC):AC:=.cond (.t c) x y
abbrev O(l:List RO):AC:=.ops l
abbrev D(l:List (RO×Cl)):AC:=.dops false [] [] l
abbrev Y(l:List Nat):AC:=.lv l
abbrev R:AC:=.ret
abbrev X:AC:=.skip
abbrev ar(d:Nat)(op:BinOp)(x y:Nat):RO:=⟨some d,none,.op (.ar op (.t x) (.t y))⟩
abbrev ac(d:Nat)(op:BinOp)(x:Nat)(y:RX):RO:=⟨some d,none,.op (.ar op (.t x) y)⟩
abbrev pf(d c x:Nat):RO:=⟨some d,none,.op (.pk (.t c) (.t x) (.c (.bool false)))⟩
abbrev pt(d c x:Nat):RO:=⟨some d,none,.op (.pk (.t c) (.c (.bool true)) (.t x))⟩
abbrev k1(d f x:Nat):RO:=⟨some d,none,.call (.c (.fn (.func f) [] [])) [.t x]⟩
abbrev k2(d f x y:Nat):RO:=⟨some d,none,.call (.c (.fn (.func f) [] [])) [.t x,.t y]⟩
abbrev rt(d:Nat)(x:RX):AC:=.seq (.ops [⟨some d,none,.op (.mv x)⟩]) .ret
abbrev lo(l:List Nat)(x:AC):AC:=.loop ⟨some l,[],false⟩ x
abbrev lc(l:List Nat)(x:AC):AC:=.loop ⟨some l,[],true⟩ x
abbrev ic(b a c:Nat):AC:=.ops [⟨some b,none,.op (.mv (.t a))⟩,⟨some c,none,.op (.ar .add (.t b) (.c (.int .i64 1)))⟩,⟨some a,none,.op (.mv (.t c))⟩]
abbrev Pm(d x:Nat):RO×Cl:=(⟨some d,none,.op (.mv (.t x))⟩,.pure)
abbrev Pf(d j x:Nat):RO×Cl:=(⟨some d,none,.op (.fa j (.t x))⟩,.pure)
abbrev Wl(d x:Nat):RO×Cl:=(⟨some d,none,.op (.ld none (.t x))⟩,.wide)
abbrev qf(a:AFn)(r:List mZ)(m:RM):Prop:=a.res=r∧a.mode=m∧a.dfr=none
end Go.Am.Sh
end
section
namespace Go.Am
def tw:List (List AV)→Option (List (List AV))
 |[]=>some []
 |[.int .u8 k,.str s,.bool _]::l=>match tw l with
  |some r=>if k=5 then some ([.agg [.int .i32 0,.bool true]]::r)
   else if k=1 then some ((dQ s).map (fun n=>[.agg [.int .i32 n,.bool false]])++r)
   else some r
  |none=>none
 |_=>none
def wC(cap:List AV)(H:List AObj):Option (List (List AV)×List Nat):=
 match cap with
 |[.ptr id 0]=>match H[id]? with
  |some (.cells (.slice _ 3 rows::_) _)=>match tw rows with
   |some r=>bif Nat.ble rows.length 9223372036854775807 then some (r,[]) else none
   |none=>none
  |_=>none
 |_=>none
end Go.Am
end
section
namespace Go.Am
end Go.Am
end
section
namespace Go.Am
open Go.RowKit
theorem Inv.kept{K:aj}{H:List AObj}{w w':World}(hi:Inv K H w)(h:Below w.heap.size w w'):Inv K H w':=by
 have hheap:∀ b,b<w.heap.size→w'.heap[b]?=w.heap[b]? := h.block;refine ⟨⟨h.os.trans hi.below.os,h.tape.trans hi.below.tape,h.output.trans hi.below.output,Nat.le_trans hi.below.size h.size,fun k hk => ?_⟩,fun b hb=>hi.base b (Nat.le_trans h.size hb),fun b off v hv => ?_,hi.len,fun id y hy => ?_,hi.inj,fun b t n ho => ?_,hi.glob,fun b s hs=>(k8.of_lt hheap).shp (hi.shape b s hs)⟩
 ·by_cases hk2:k<w.heap.size
  ·rw [hheap k hk2];exact hi.below.block k hk
  ·exact absurd (hi.base k (by omega)) hk
 ·rw [eV (hheap b (hi.imm_lt hv))];exact hi.imm _ _ _ hv
 ·exact (hi.obj id y hy).mono (.refl K) (fun b _ _ hb=>hheap b hb) (fun _ _ _=>⟨fun _ h=>h,fun h=>h,fun h=>h⟩)
 ·obtain ⟨hb,fr,us,T',lo,hh,h1,h2,h3,h4,h5⟩:=hi.own b t n ho
  exact ⟨hb,fr,us,T',lo,hh,h1,by rw [hheap b (Array.getElem?_eq_some_iff.1 h2).1];exact h2,h3,h4,h5⟩
end Go.Am
end
