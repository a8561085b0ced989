import Derived.Test.YtaigoffbhbpplaaGreatDoorA2
import Derived.Recover
import Derived.Laws.Externs
import Derived.Lib.Bytealg
import Derived.Lib.MakeNoZero
import Derived.Lib.Builder
import Derived.Carry
/-
  Part 3 of the tool: an abstract machine over the model, proved sound, and what it says of the functions that the law reaches. Condition: none but those that each theorem names.
-/
set_option linter.unusedVariables false
set_option linter.unusedSimpArgs false
section
namespace Go.Am
open Go.RowKit
section
variable{P:Program}{G:Nat→Option (List AV)}{K:aa}{N:Fr}{a:Env}{H:List AObj}{act:Act}{w:World}
theorem Bd{o:Oper}{v:AV}{H':List AObj}(hd:∀ d,o.dst=some d→d<N.n)(hr:Rel N K a H act w)(hok:tU P K ((execOp act.eval o).run P w) v H'){next:Act→World→Prop}{Q:Exit→Act→World→Prop}
  (hn:∀ K' act' w',K.le K'→Rel N K' (bR a o.dst v) H' act' w'→next act' w') (hdf:∀ c,o.op≠.defer c):o.wpIn N.F 0 P act w next Q:=by
 obtain ⟨K',cv,w',h1,h2,h3,h4⟩:=hok;have hr':=hr.put h1 h4 (dst:=o.dst) h3 hd;refine ⟨fun f _=>N.fn f, ?_⟩;rw [Oper.semAt_eq _ _ _ hdf];rcases h2 with h2 | ⟨h2,rfl⟩
 ·rw [h2];exact hn K' _ _ h1 hr'
 ·rw [h2];exact hn K' _ _ h1 hr'
theorem wK{o:Oper}{c:Call}{f:Operand}{ts:List TypeId}(hop:o.op = .call c)(hcal:c.callee = .value f)(hg:K.glob=G)(hd:∀ d,o.dst=some d→d<N.n)(hr:Rel N K a H act w)
  {g:FuncId}{first cap:List AV} (he:rx a (cx0 G f) = .fn (.func g) first cap) {R:ou→List AObj→Prop} (hc:aC P G g (first++(fq P G c.args.toList ts).map (rx a)++cap) H R)
  {next:Act→World→Prop}{Q:Exit→Act→World→Prop}
  (hn:∀ K' v H' act' w',K.le K'→Rel N K' (bR a o.dst v) H' act' w'→R (.ret v) H'→next act' w')
  (hp:∀ K' v cv H' w',K.le K'→V K' v cv→Rel N K' a H' act w'→R (.panic v) H'→Q (.panic [{ v:=cv,recovered:=false }]) act w'):o.wpIn N.F 0 P act w next Q:=by
 have hf:=cG hg hr f;rw [he] at hf;obtain ⟨vs,us,hfe,h1,h2⟩:=hf.fn_inv;have hargs:=(h1.append (vW (P:=P) hg hr c.args ts)).append h2;have hex:(execOp act.eval o).run P w=(callFunc g (vs++c.args.map act.eval++us)).run P w:=by
  unfold execOp;simp only [hop,resolve,hcal,hfe,Deferred.ofValue,invoke,pure_bind]
 refine ⟨fun f _=>N.fn f, ?_⟩;rw [Oper.semAt_eq _ _ _ (fun c e=>by rw [hop] at e;cases e),hex];rcases hc K w _ hg hr.inv hargs with ⟨hrun,hcalls⟩ | ⟨cv,w',hrun,K',r,H',hk,he',hi',hR⟩
 ·rw [hrun,Oper.uponIn_enter]
  refine ⟨N.dep, ?_⟩;refine CallsIn.mono (F:=N.F) (callsIn_wide.2 hcalls) ?_;rintro e w' ⟨K',r,H',hk,he',hi',hR⟩;cases e with
  |returned x=>
   cases r with
   |ret v=>exact hn K' v H' _ _ hk (hr.put hk hi' he' hd) hR
   |panic v=>exact (he':False).elim
  |panicked ch=>
   cases r with
   |ret v=>exact (he':False).elim
   |panic v=>
    obtain ⟨cv,rfl,hv⟩:=he';exact hp K' v cv H' w' hk hv ⟨hi',hr.defers.mono hk,hr.size,fun t=>(hr.tmps t).mono hk⟩ hR
  |outgrown=>cases r<;>exact (he':False).elim
 ·rw [hrun,Oper.uponIn_value]
  cases r with
  |ret v=>exact hn K' v H' _ _ hk (hr.put hk hi' he' hd) hR
  |panic v=>exact (he':False).elim
theorem zM{o:Oper}{c:Call}{x:Operand}{n:String}{ts:List TypeId}(hop:o.op = .call c)(hcal:c.callee = .invoke x n)(hg:K.glob=G)(hd:∀ d,o.dst=some d→d<N.n)(hr:Rel N K a H act w)
  {g:FuncId}{t:TypeId}{u:AV} (he:rx a (cx0 G x) = .iface t u) (hm:∀ (v:Value) (w:World),(method (P.types.size+Made.depth) t v n).run P w = .ok (g,v) w) {R:ou→List AObj→Prop} (hc:aC P G g (([u]++(fq P G c.args.toList ts).map (rx a))++[]) H R)
  {next:Act→World→Prop}{Q:Exit→Act→World→Prop}
  (hn:∀ K' v H' act' w',K.le K'→Rel N K' (bR a o.dst v) H' act' w'→R (.ret v) H'→next act' w')
  (hp:∀ K' v cv H' w',K.le K'→V K' v cv→Rel N K' a H' act w'→R (.panic v) H'→Q (.panic [{ v:=cv,recovered:=false }]) act w'):o.wpIn N.F 0 P act w next Q:=by
 have hf:=cG hg hr x;rw [he] at hf;obtain ⟨y,hfe,hv⟩:=hf.iface_inv;have h1:Vs K [u] #[y]:=⟨rfl,fun i av hi=>by
  cases i with
  |zero=>simp at hi;subst hi;simpa using hv
  |succ i=>simp at hi⟩
 have hargs:Vs K (([u]++(fq P G c.args.toList ts).map (rx a))++[]) (#[y]++c.args.map act.eval):=by
  rw [List.append_nil];exact h1.append (vW (P:=P) hg hr c.args ts)
 have hex:(execOp act.eval o).run P w=(callFunc g (#[y]++c.args.map act.eval)).run P w:=by
  have hx:(#[Value.iface t y]++c.args.map act.eval).extract 1 (#[Value.iface t y]++c.args.map act.eval).size=c.args.map act.eval:=by
   apply Array.ext';simp;exact List.take_of_length_le (by simp)
  have h0:(#[Value.iface t y]++c.args.map act.eval)[0]?=some (.iface t y):=by rw [Array.getElem?_append_left (by simp)];rfl
  unfold execOp;simp only [hop,resolve,hcal,hfe,pure_bind,invoke];rw [h0];simp only;rw [hx];simp [callMethod,hm]
 refine ⟨fun f _=>N.fn f, ?_⟩;rw [Oper.semAt_eq _ _ _ (fun c e=>by rw [hop] at e;cases e),hex];rcases hc K w _ hg hr.inv hargs with ⟨hrun,hcalls⟩ | ⟨cv,w',hrun,K',r,H',hk,he',hi',hR⟩
 ·rw [hrun,Oper.uponIn_enter]
  refine ⟨N.dep, ?_⟩;refine CallsIn.mono (F:=N.F) (callsIn_wide.2 hcalls) ?_;rintro e w' ⟨K',r,H',hk,he',hi',hR⟩;cases e with
  |returned x=>
   cases r with
   |ret v=>exact hn K' v H' _ _ hk (hr.put hk hi' he' hd) hR
   |panic v=>exact (he':False).elim
  |panicked ch=>
   cases r with
   |ret v=>exact (he':False).elim
   |panic v=>
    obtain ⟨cv,rfl,hv⟩:=he';exact hp K' v cv H' w' hk hv ⟨hi',hr.defers.mono hk,hr.size,fun t=>(hr.tmps t).mono hk⟩ hR
  |outgrown=>cases r<;>exact (he':False).elim
 ·rw [hrun,Oper.uponIn_value]
  cases r with
  |ret v=>exact hn K' v H' _ _ hk (hr.put hk hi' he' hd) hR
  |panic v=>exact (he':False).elim
theorem Bu{o:Oper}{x:Operand}(hop:o.op = .panic x)(hg:K.glob=G)(hr:Rel N K a H act w){t:TypeId}{v:AV}(he:rx a (cx0 G x) = .iface t v)
  {next:Act→World→Prop}{Q:Exit→Act→World→Prop} (hp:∀ cv,V K (.iface t v) cv→Q (.panic [{ v:=cv,recovered:=false }]) act w):o.wpIn N.F 0 P act w next Q:=by
 have hx:=cG hg hr x;rw [he] at hx;obtain ⟨y,hy,hv⟩:=hx.iface_inv;have hrun:(execOp act.eval o).run P w = .halt (.panic (.iface t y)) w:=by
  unfold execOp;simp [hop,hy,Instr.panic]
 refine ⟨fun f _=>N.fn f, ?_⟩;rw [Oper.semAt_eq _ _ _ (fun c e=>by rw [hop] at e;cases e),hrun,Oper.uponIn_panic];exact hp _ (.iface t v y hv)
theorem wL{m:Bool}{ty:TypeId}{op:Op}{s:RS}(h:cRS P G m ty op=some s) :
  (∃ c f,op = .call c∧c.callee = .value f∧s = .call (cx0 G f) (fq P G c.args.toList c.argTypes.toList))∨(∃ x,op = .panic x∧s = .panic (cx0 G x))∨(∃ r,cOp P G m ty op=some r∧s = .op r)∨∃ c x n,op = .call c∧c.callee = .invoke x n∧s = .inv (cx0 G x) n (fq P G c.args.toList c.argTypes.toList):=by
 unfold cRS at h;split at h
 ·rename_i c
  split at h
  ·rename_i f hf;cases h;exact .inl ⟨c,f,rfl,hf,rfl⟩
  ·rw [Option.map_eq_some_iff] at h
   obtain ⟨r,h1,rfl⟩:=h;exact .inr (.inr (.inl ⟨r,h1,rfl⟩))
  ·rename_i x n hc;cases h;exact .inr (.inr (.inr ⟨c,x,n,rfl,hc,rfl⟩))
 ·rename_i x;cases h;exact .inr (.inl ⟨x,rfl,rfl⟩)
 ·rw [Option.map_eq_some_iff] at h
  obtain ⟨r,h1,rfl⟩:=h;exact .inr (.inr (.inl ⟨r,h1,rfl⟩))
theorem sL{m:Bool}{ty:TypeId}{op:Op}{r:ROp}(h:cOp P G m ty op=some r):∀ c,op≠.defer c:=fun c e=>by subst e;simp [cOp] at h
theorem wM{m:Bool}{n:Nat}{ops:Array Oper}{o:Oper}{ro:RO}(h:cRO P G m n ops o=some ro):wA ops o=some ro.g∧cRS P G m o.type o.op=some ro.s∧ro.d=o.dst∧∀ d,o.dst=some d→d<n:=by
 unfold cRO at h;split at h
 ·rename_i g s hg hs
  split at h
  ·rename_i hd
   cases h;refine ⟨hg,hs,rfl,fun d e => ?_⟩;rw [e] at hd;simpa [Ba] using hd
  ·cases h
 ·cases h
end
section
variable{dec:Dec}{E:du}
theorem yW{x:AV}{m:String}{g:FuncId}{first cap:List AV}(h:Bp E x m = .fn (.func g) first cap):∃ t v,x = .iface t v∧E.meth t m=some g∧first=[v]∧cap=[]:=by
 unfold Bp at h;split at h
 ·rename_i t v
  split at h
  ·rename_i g' hm;cases h;exact ⟨t,v,rfl,hm,rfl,rfl⟩
  ·cases h
 ·cases h
def j8(dec:Dec)(E:du)(n:Nat):Prop:=∀ (g:FuncId) (args:List AV) (H:List AObj) (r:ou) (H':List AObj),qY dec E n g args H=some (r,H')→aC E.P E.G g args H fun r2 H2=>r2=r∧H2=H'
theorem oR(hE:E.Ok){n:Nat}(hC:∀ j,j<n→j8 dec E j){fn:AFn}{H0:List AObj}{k:List Fra}{r:Out}{N:Fr}{m:Bool}{nt:Nat}{ops:Array Oper}(hnt:nt≤N.n){K:aa}(hg:K.glob=E.G){Qc:Exit→Act→World→Prop}{l2:List Nat}
  (hend:∀ (j:Nat) (K':aa) (a:Env) (H:List AObj) (act:Act) (w:World),j<n→K.le K'→Rel N K' a H act w→ev dec E j fn H0 k a H=some r→wpOpsIn N.F 0 E.P ops Qc l2 act w)
  (hpan:∀ (j:Nat) (K':aa) (a:Env) (H:List AObj) (act:Act) (w:World) (v:AV) (cv:Value),j<n→K.le K'→V K' v cv→Rel N K' a H act w→eA dec E (ev dec E j) fn H0 k a v H=some r→Qc (.panic [{ v:=cv,recovered:=false }]) act w) :
  ∀ (os:List Oper) (ros:List RO) (l:List Nat) (j:Nat) (K':aa) (a:Env) (H:List AObj) (act:Act) (w:World),j≤n→ev dec E j fn H0 (.c (.ops ros)::k) a H=some r →
   qT E.P E.G m nt ops os=some ros→l.map (ops[·]?)=os.map some→K.le K'→Rel N K' a H act w→wpOpsIn N.F 0 E.P ops Qc (l++l2) act w
 |_,_,_,0,_,_,_,_,_,_,h,_,_,_,_=>by cases h
 |[],ros,l,j+1,K',a,H,act,w,hj,h,hc,hl,hk,hr=>by
  cases hc;cases l with
  |cons=>cases hl
  |nil=>exact hend j K' a H act w (by omega) hk hr h
 |o::os,ros,l,j+1,K',a,H,act,w,hj,h,hc,hl,hk,hr=>by
  cases l with
  |nil=>cases hl
  |cons i l=>
   simp only [List.map_cons,List.cons.injEq] at hl;obtain ⟨ho,hl⟩:=hl;simp only [qT] at hc;split at hc
   ·rename_i ro hro
    split at hc
    ·rename_i rs hrs
     cases hc;obtain ⟨hgd,hs,hdst,hlt⟩:=wM hro;have hd:∀ d,o.dst=some d→d<N.n:=fun d e=>Nat.lt_of_lt_of_le (hlt d e) hnt
     have hg':=hk.glob.trans hg;have hw:vU a ro=dn ops a o:=by
      obtain ⟨d,g,s⟩:=ro;exact yn hgd
     rw [List.cons_append,wpOpsIn_cons,wpOpIn,ho];simp only;simp only [ev] at h;rw [hw] at h;split at h
     ·cases h
     ·rename_i hwt
      rw [gn hr hwt];simp only [Bool.false_eq_true,if_false];refine ⟨fun f _=>N.fn f,oR hE hC hnt hg hend hpan os rs l j K' _ H _ w (by omega) h hrs hl hk ?_⟩;rw [hdst];exact hr.put (.refl K') hr.inv px hd
     ·rename_i hwt
      rw [gn hr hwt];simp only [if_true];have next:∀ K2 v H' act' w',K'.le K2→Rel N K2 (bR a o.dst v) H' act' w'→ev dec E j fn H0 (.c (.ops rs)::k) (bR a ro.d v) H'=some r→wpOpsIn N.F 0 E.P ops Qc (l++l2) act' w':=fun K2 v H' act' w' hk2 hr2 h2=>
       oR hE hC hnt hg hend hpan os rs l j K2 _ H' act' w' (by omega) (by rw [← hdst];exact h2) hrs hl (hk.trans hk2) hr2
      rcases wL hs with ⟨c,f,hop,hcal,hsf⟩ | ⟨x,hop,hsx⟩ | ⟨q,hq,hsq⟩ | ⟨c,x,mn,hop,hcal,hsi⟩
      ·rw [hsf] at h
       simp only at h;split at h
       ·rename_i g first cap hfe
        have h':(match qY dec E j g (first++(fq E.P E.G c.args.toList c.argTypes.toList).map (rx a)++cap) H with
         |some (.ret v,H')=>ev dec E j fn H0 (.c (.ops rs)::k) (bR a ro.d v) H'
         |some (.panic v,H')=>eA dec E (ev dec E j) fn H0 k a v H'
         |none=>none)=some r:=h
        split at h'
        ·rename_i v H' hcall
         refine wK hop hcal hg' hd hr hfe (hC j (by omega) _ _ _ _ _ hcall) ?_ ?_
         ·rintro K2 v2 H2 act' w' hk2 hr2 ⟨e1,e2⟩
          cases e1;subst e2;exact next K2 v _ act' w' hk2 hr2 h'
         ·rintro K2 v2 cv H2 w' hk2 hv hr2 ⟨e1,e2⟩
          cases e1
        ·rename_i v H' hcall
         refine wK hop hcal hg' hd hr hfe (hC j (by omega) _ _ _ _ _ hcall) ?_ ?_
         ·rintro K2 v2 H2 act' w' hk2 hr2 ⟨e1,e2⟩
          cases e1
         ·rintro K2 v2 cv H2 w' hk2 hv hr2 ⟨e1,e2⟩
          cases e1;subst e2;exact hpan j K2 a _ act w' _ cv (by omega) (hk.trans hk2) hv hr2 h'
        ·cases h'
       ·cases h
      ·rw [hsx] at h
       simp only at h;split at h
       ·rename_i t v hxe
        exact Bu hop hg' hr hxe fun cv hv=>hpan j K' a H act w (.iface t v) cv (by omega) hk hv hr h
       ·cases h
      ·rw [hsq] at h
       simp only at h;split at h
       ·rename_i v H' hrop
        exact Bd hd hr (vT hg' hr hq hrop) (fun K2 act' w' hk2 hr2=>next K2 v H' act' w' hk2 hr2 h) (sL hq)
       ·cases h
      ·rw [hsi] at h
       simp only at h;split at h
       ·rename_i g first cap hfe
        obtain ⟨t,u,hxe,hme,rfl,rfl⟩:=yW hfe;have h':(match qY dec E j g ([u]++(fq E.P E.G c.args.toList c.argTypes.toList).map (rx a)++[]) H with
         |some (.ret v,H')=>ev dec E j fn H0 (.c (.ops rs)::k) (bR a ro.d v) H'
         |some (.panic v,H')=>eA dec E (ev dec E j) fn H0 k a v H'
         |none=>none)=some r:=h
        split at h'
        ·rename_i v H' hcall
         refine zM hop hcal hg' hd hr hxe (hE.meth _ _ _ hme) (hC j (by omega) _ _ _ _ _ hcall) ?_ ?_
         ·rintro K2 v2 H2 act' w' hk2 hr2 ⟨e1,e2⟩
          cases e1;subst e2;exact next K2 v _ act' w' hk2 hr2 h'
         ·rintro K2 v2 cv H2 w' hk2 hv hr2 ⟨e1,e2⟩
          cases e1
        ·rename_i v H' hcall
         refine zM hop hcal hg' hd hr hxe (hE.meth _ _ _ hme) (hC j (by omega) _ _ _ _ _ hcall) ?_ ?_
         ·rintro K2 v2 H2 act' w' hk2 hr2 ⟨e1,e2⟩
          cases e1
         ·rintro K2 v2 cv H2 w' hk2 hv hr2 ⟨e1,e2⟩
          cases e1;subst e2;exact hpan j K2 a _ act w' _ cv (by omega) (hk.trans hk2) hv hr2 h'
        ·cases h'
       ·cases h
    ·cases hc
   ·cases hc
theorem AL(hE:E.Ok){n:Nat}(hC:∀ j,j<n→j8 dec E j){fn:AFn}{H0:List AObj}{k:List Fra}{r:Out}{N:Fr}{m:Bool}{nt:Nat}{ops:Array Oper}(hnt:nt≤N.n){K:aa}(hg:K.glob=E.G)
  (os:List Oper) (ros:List RO) (l:List Nat) (j:Nat) (K':aa) (a:Env) (H:List AObj) (act:Act) (w:World) (hj:j≤n) (h:ev dec E j fn H0 (.c (.ops ros)::k) a H=some r)
  (hc:qT E.P E.G m nt ops os=some ros) (hl:l.map (ops[·]?)=os.map some) (hk:K.le K') (hr:Rel N K' a H act w):wpOpsIn N.F 0 E.P ops (ve N K (vn dec E n fn H0 k r)) l act w:=by
 have:=oR hE (n:=n) hC hnt hg (Qc:=ve N K (vn dec E n fn H0 k r)) (l2:=[]) (fun j K' a H act w hj hk hr h=>⟨K',.normal,a,H,hk,trivial,hr,j,hj,h⟩)
  (fun j K' a H act w v cv hj hk hv hr h=>⟨K',.panic v,a,H,hk,⟨cv,rfl,hv⟩,hr,j,hj,h⟩) os ros l j K' a H act w hj h hc hl hk hr
 rwa [List.append_nil] at this
end
end Go.Am
end
section
namespace Go.Am
open Go.RowKit
def uB(P:Program)(G:Nat→Option (List AV))(o:RO)(a:Env)(H:List AObj)(v:AV)(H':List AObj):Prop:=
 match o.s with
 |.op op=>rop a H op=some (v,H')
 |.call f args=>match rx a f with
  |.fn (.func g) first cap=>aC P G g (first++args.map (rx a)++cap) H fun r H2=>r = .ret v∧H2=H'
  |_=>False
 |.panic _=>False
 |.inv .. => False
def DR(P:Program)(G:Nat→Option (List AV))(ros:List RO)(i:Nat)(a:Env)(H:List AObj)(v:AV)(H':List AObj):Prop:=
 match ros[i]? with
 |some ro=>uB P G ro a H v H'
 |none=>False
def KpT(T:List Nat)(H H2:List AObj):Prop:=H.length≤H2.length∧∀ i,i<H.length→i ∉ T→H2[i]?=H[i]?
theorem KpT.trans{T:List Nat}(H1 H2 H3:List AObj)(h:KpT T H1 H2)(h':KpT T H2 H3):KpT T H1 H3:=
 ⟨Nat.le_trans h.1 h'.1,fun i hi ht=>by rw [h'.2 i (by have:=h.1;omega) ht,h.2 i hi ht]⟩
theorem mE(T:List Nat)(H L:List AObj):KpT T H (H++L):=⟨by simp,fun i hi _=>List.getElem?_append_left hi⟩
theorem yr{T:List Nat}{id:Nat}(ht:id∈T)(H:List AObj)(o:AObj):KpT T H (H.set id o):=
 ⟨by simp,fun i _ hn=>List.getElem?_set_ne (fun e=>hn (by rw [← e];exact ht))⟩
section
variable{P:Program}{G:Nat→Option (List AV)}{ops:Array Oper}{ros:List RO}{m:Bool}{nt:Nat}{N:Fr}
theorem uC:∀ {os:List Oper}{ros:List RO},qT P G m nt ops os=some ros→∀ (i:Nat) (o:Oper),os[i]?=some o→∃ ro,ros[i]?=some ro∧cRO P G m nt ops o=some ro
 |[],_,_,i,o,h=>by simp at h
 |o::os,ros,hc,i,o',h=>by
  simp only [qT] at hc;split at hc
  ·rename_i ro hro
   split at hc
   ·rename_i rs hrs
    cases hc;cases i with
    |zero=>simp at h;subst h;exact ⟨ro,rfl,hro⟩
    |succ i=>exact uC hrs i o' (by simpa using h)
   ·cases hc
  ·cases hc
theorem zN{ro:RO}{dst:Option Tmp}{u v:AV}{a:Env}{H H':List AObj}(h:∀ d,dst=some d→d ∉ ro.s.uses):uB P G ro (bR a dst u) H v H'=uB P G ro a H v H':=by
 unfold uB;cases hs:ro.s with
 |op op=>simp only;rw [AG fun d hd hm=>h d hd (by rw [hs];exact hm)]
 |call f args=>
  simp only;rw [ur (x:=f) fun d hd hm=>h d hd (by rw [hs];simp [RS.uses,hm]),tE (l:=args) fun d hd hm=>h d hd (by rw [hs];simp [RS.uses,hm])]
 |panic x=>rfl
 |inv x m args=>rfl
theorem xZ{q:Cl}{s:Bool}{x:RS}(hq:q≠.pure)(h:kW q s x = .pure):∃ o,x = .op o∧xk o=true:=by
 unfold kW at h;split at h
 ·rename_i o
  split at h
  ·rename_i hp;exact ⟨o,rfl,hp⟩
  ·split at h
   ·cases h
   ·split at h
    ·cases h
    ·split at h
     ·split at h<;>cases h
     ·split at h<;>cases h
     ·cases h
 ·exact absurd h hq
 ·exact absurd h hq
 ·cases h
theorem uD{q:Cl}{s:Bool}{o:ROp}(h:kW q s (.op o) = .wide):qS o=true:=by
 unfold kW at h;simp only at h;split at h
 ·cases h
 ·split at h
  ·rename_i hw;exact hw
  ·split at h
   ·cases h
   ·split at h
    ·split at h<;>cases h
    ·split at h<;>cases h
    ·cases h
theorem uE{q:Cl}{s:Bool}{o:ROp}(h:kW q s (.op o) = .keep):xl o=true∨(s=true∧∃ sz x v,o = .st sz x v)∨∃ m e sz bytes str x y,o = .ap m e sz bytes str x y:=by
 unfold kW at h;simp only at h;split at h
 ·cases h
 ·split at h
  ·cases h
  ·split at h
   ·rename_i hn;exact .inl hn
   ·split at h
    ·split at h
     ·rename_i hs;exact .inr (.inl ⟨hs,_,_,_,rfl⟩)
     ·cases h
    ·split at h
     ·rename_i hs;exact .inr (.inr ⟨_,_,_,_,_,_,_,rfl⟩)
     ·cases h
    ·cases h
theorem clOfR_quiet{q:Cl}{s:Bool}{o:ROp}:kW q s (.op o)≠.quiet:=by
 unfold kW;simp only;split
 ·simp
 ·split
  ·simp
  ·split
   ·simp
   ·split
    ·split<;>simp
    ·split<;>simp
    ·simp
theorem Cb{q:Cl}{s:Bool}(hq:q≠.pure)(hc:qT P G m nt ops ops.toList=some ros)(hu:zx ops ros=true){cl:Nat→Cl}(hcl0:∀ i,cl i=xm q s ros i∨cl i = .quiet):sF P G N ops cl (DR P G ros):=by
 have get:∀ (i:Nat) (o:Oper),ops[i]?=some o→∃ ro,ros[i]?=some ro∧cRO P G m nt ops o=some ro:=fun i o h=>uC hc i o (by simpa using h)
 refine ⟨fun i o dst u a H v H' ho hd => ?_,fun i a H v H' hp h => ?_,fun i o a H v H' ho h K act w next Q hg hr hlt hn => ?_⟩
 ·obtain ⟨ro,h1,h2⟩:=get i o ho
  unfold DR;rw [h1];simp only;rw [zN fun d e hm=>hd d e ?_];have hall:=List.all_eq_true.1 hu (o,ro) (by
   have:(ops.toList.zip ros)[i]?=some (o,ro):=by
    rw [List.getElem?_zip_eq_some];exact ⟨by simpa using ho,h1⟩
   exact List.mem_of_getElem? this)
  have:=List.all_eq_true.1 hall d hm;simpa using this
 ·unfold DR at h ⊢
  cases hro:ros[i]? with
  |none=>rw [hro] at h;exact h.elim
  |some ro=>
   rw [hro] at h;have hp':kW q s ro.s = .pure:=by
    rcases hcl0 i with e | e
    ·rw [e] at hp;unfold xm at hp;rw [hro] at hp;exact hp
    ·rw [e] at hp;cases hp
   obtain ⟨o,ho,hpr⟩:=xZ hq hp';simp only [uB,ho] at h ⊢;exact zE hpr h
 ·obtain ⟨ro,h1,h2⟩:=get i o ho
  obtain ⟨hgd,hs,hdst,_⟩:=wM h2;unfold DR at h;rw [h1] at h;simp only [uB] at h;rcases wL hs with ⟨c,f,hop,hcal,hsf⟩ | ⟨x,hop,hsx⟩ | ⟨q,hq,hsq⟩ | ⟨c,x,mn,hop,hcal,hsi⟩
  ·rw [hsf] at h
   simp only at h;split at h
   ·rename_i g first cap hfe
    refine wK hop hcal hg hlt hr hfe h ?_ ?_
    ·rintro K2 v2 H2 act' w' hk2 hr2 ⟨e1,e2⟩
     cases e1;subst e2;exact hn K2 act' w' hk2 hr2
    ·rintro K2 v2 cv H2 w' hk2 hv hr2 ⟨e1,e2⟩
     cases e1
   ·exact h.elim
  ·rw [hsx] at h;exact h.elim
  ·rw [hsq] at h
   exact Bd hlt hr (vT hg hr hq h) hn (sL hq)
  ·rw [hsi] at h;exact h.elim
theorem yt{cls:Nat→Cl}:∀ {ord:List Nat}{listed:Array Bool},wq ops cls ord listed=true→∀ k∈ord,∃ o,ops[k]?=some o
 |[],_,_,k,hk=>by cases hk
 |i::ord,listed,h,k,hk=>by
  simp only [wq,Bool.and_eq_true] at h;rcases List.mem_cons.1 hk with rfl | hk
  ·have:k∈Region.ready .any ops listed:=by simpa using h.1.1
   obtain ⟨_,o,ho,_⟩:=mem_ready.1 this;exact ⟨o,ho⟩
  ·exact yt h.2 k hk
end
section
variable{dec:Dec}{E:du}
theorem oS(hE:E.Ok){n:Nat}(hC:∀ j,j<n→j8 dec E j){fn:AFn}{H0:List AObj}{k:List Fra}{r:Out}{N:Fr}{m:Bool}{nt:Nat}{ops:Array Oper}{ros:List RO}(hnt:nt≤N.n)
  (hc:qT E.P E.G m nt ops ops.toList=some ros) {q:Cl}{s:Bool}{cl:Nat→Cl} (hcl0:∀ i,cl i=xm q s ros i∨cl i = .quiet) :
  ∀ (ord:List Nat) (T L:List Nat) (j:Nat) (a:Env) (H:List AObj),(∀ i∈ord,∃ o,ops[i]?=some o)→j≤n →
   ev dec E j fn H0 (.c (.dops s T L (ord.map fun i=>(ros.getD i default,cl i)))::k) a H=some r →
   ∃ Tf Lf,(∀ x∈T,x∈Tf)∧(∀ x∈L,x∈Lf)∧apart Tf Lf∧(s=false→Tf=T) ∧
    (T=[]∨s=true→AA N ops (KpT Tf) (DR E.P E.G ros) (cl) (vn dec E n fn H0 k r) ord a H)
 |_,T,L,0,a,H,_,_,h=>by cases h
 |[],T,L,j+1,a,H,_,hj,h=>by
  have h':(match dec.ap T L with
    |.yes _=>ev dec E j fn H0 k a H
    |.no=>none)=some r:=h
  split at h'
  ·rename_i ha _
   exact ⟨T,L,fun _ h=>h,fun _ h=>h,ha,fun _=>rfl,fun _=>⟨j,by omega,h'⟩⟩
  ·cases h'
 |i::ord,T,L,j+1,a,H,hlt,hj,h=>by
  obtain ⟨o,ho⟩:=hlt i (by simp);obtain ⟨ro,hro,hcro⟩:=uC hc i o (by simpa using ho);obtain ⟨hgd,hs,hdst,hlt2⟩:=wM hcro;have hd:∀ d,o.dst=some d→d<N.n:=fun d e=>Nat.lt_of_lt_of_le (hlt2 d e) hnt
  have hw:vU a ro=dn ops a o:=by
   obtain ⟨d,g,s⟩:=ro;exact yn hgd
  have hclr:xm q s ros i=kW q s ro.s:=by unfold xm;rw [hro]
  have hgetD:ros.getD i default=ro:=by simp [List.getD,hro]
  have hlt':∀ i∈ord,∃ o,ops[i]?=some o:=fun i hi=>hlt i (by simp [hi])
  rw [List.map_cons] at h;simp only [ev] at h;rw [hgetD,hw] at h;split at h
  ·cases h
  ·rename_i hwt
   obtain ⟨Tf,Lf,h1,h2,h3,h4,h5⟩:=oS hE hC hnt hc hcl0 ord T L j _ H hlt' (by omega) h;refine ⟨Tf,Lf,h1,h2,h3,h4,fun hts=>⟨o,j1,H,ho,⟨hd,fun _=>rfl,fun _=>⟨Nat.le_refl _,fun _ _ _=>rfl⟩,.inr ⟨hwt,rfl,rfl⟩⟩, ?_⟩⟩;rw [← hdst];exact h5 hts
  ·rename_i hwt
   rcases wL hs with ⟨c,f,hop,hcal,hsf⟩ | ⟨x,hop,hsx⟩ | ⟨op,hq,hsq⟩ | ⟨c,x,mn,hop,hcal,hsi⟩
   ·rw [hsf] at h
    simp only at h;split at h
    ·rename_i g first cap hfe
     split at h
     ·rename_i v L1 hwv
      obtain ⟨Tf,Lf,h1,h2,h3,h4,h5⟩:=oS hE hC hnt hc hcl0 ord T (L1++L) j _ H hlt' (by omega) h;have hwc:cl i = .wide∧∀ H2:List AObj,(∀ id∈L1,id<H.length→H2[id]?=H[id]?)→aC E.P E.G g (first++(fq E.P E.G c.args.toList c.argTypes.toList).map (rx a)++cap) H2 fun r H'=>r = .ret v∧H'=H2:=by
       unfold Bc at hwv;split at hwv
       ·rename_i e;exact ⟨e,hE.wo _ _ _ _ _ hwv⟩
       ·cases hwv
      have hD:∀ H2:List AObj,(∀ id∈L1,id<H.length→H2[id]?=H[id]?)→DR E.P E.G ros i a H2 v H2:=fun H2 hh=>by
       unfold DR;rw [hro];simp only [uB,hsf,hfe];exact hwc.2 H2 hh
      refine ⟨Tf,Lf,h1,fun x hx=>h2 x (by simp [hx]),h3,h4,fun hts=>⟨o,v,H,ho,⟨hd,fun hst=>rfl,fun hkp => ?_,.inl ⟨hwt,hD H (fun _ _ _=>rfl),fun hwd => ?_⟩⟩, ?_⟩⟩
      ·rw [hwc.1] at hkp;cases hkp
      ·intro H2 hk2;exact hD H2 fun id hid hlt=>hk2.2 id hlt (h3 id (h2 id (by simp [hid])))
      ·rw [← hdst];exact h5 hts
     have h':(match qY dec E j g (first++(fq E.P E.G c.args.toList c.argTypes.toList).map (rx a)++cap) H with
      |some (.ret v,H')=>if wE dec E (cl i) g (first++(fq E.P E.G c.args.toList c.argTypes.toList).map (rx a)++cap) H v H' then
        ev dec E j fn H0 (.c (.dops s T L (ord.map fun i=>(ros.getD i default,cl i)))::k) (bR a ro.d v) H' else none
      |_=>none)=some r:=h
     split at h'
     ·rename_i v H' hcall
      split at h'
      ·rename_i hdyn
       obtain ⟨Tf,Lf,h1,h2,h3,h4,h5⟩:=oS hE hC hnt hc hcl0 ord T L j _ H' hlt' (by omega) h';have hA:=hC j (by omega) _ _ _ _ _ hcall;have hD:DR E.P E.G ros i a H v H':=by
        unfold DR;rw [hro];simp only [uB,hsf,hfe];exact hA
       refine ⟨Tf,Lf,h1,h2,h3,h4,fun hts=>⟨o,v,H',ho,⟨hd,fun hst => ?_,fun hkp => ?_,.inl ⟨hwt,hD,fun hwd => ?_⟩⟩, ?_⟩⟩
       ·unfold wE at hdyn
        cases hcl2:cl i<;>rw [hcl2] at hst hdyn<;>simp only [Cl.still] at hst<;>first | (cases hst;done) | skip
        ·exact pC.of hdyn
        ·exact (pC.of hdyn).1
       ·rw [hkp] at hdyn
        have e:H'.take H.length=H:=pC.of hdyn
        have:H'=H++H'.drop H.length:=by
         conv=>lhs;rw [← List.take_append_drop H.length H',e]
        rw [this];exact mE _ _ _
       ·intro H2 _
        rw [hwd] at hdyn;have e:=pC.of hdyn;unfold DR;rw [hro];simp only [uB,hsf,hfe];exact e.2 H2
       ·rw [← hdst];exact h5 hts
      ·cases h'
     ·cases h'
    ·cases h
   ·rw [hsx] at h;cases h
   ·rw [hsq] at h
    simp only at h;split at h
    ·rename_i v H' hrop
     split at h
     ·rename_i T' L' hdyn
      obtain ⟨Tf,Lf,h1,h2,h3,h4,h5⟩:=oS hE hC hnt hc hcl0 ord T' L' j _ H' hlt' (by omega) h;have hD:DR E.P E.G ros i a H v H':=by
       unfold DR;rw [hro];simp only [uB,hsq];exact hrop
      rcases hcl0 i with hcl | hcl
      rotate_left
      ·rw [hcl] at hdyn
       replace hdyn:(if qS op then some (T,L) else none)=some (T',L'):=hdyn
       by_cases hwo:qS op=true
       ·rw [if_pos hwo] at hdyn
        obtain ⟨rfl,rfl⟩:T=T'∧L=L':=by simpa using hdyn
        refine ⟨Tf,Lf,h1,h2,h3,h4,fun hts=>⟨o,v,H',ho,⟨hd,fun _=>(uu hwo hrop).1,fun hkp=>(by rw [hcl] at hkp;cases hkp),.inl ⟨hwt,hD,fun hwd=>(by rw [hcl] at hwd;cases hwd)⟩⟩, ?_⟩⟩;rw [← hdst];exact h5 hts
       ·rw [if_neg hwo] at hdyn;cases hdyn
      rw [hclr] at hcl;have hdyn2:(∀ x∈T,x∈T')∧(∀ x∈L,x∈L')∧(s=false→T'=T)∧(cl i = .wide→s=true→∀ id,mD a op=some id→id∈L') ∧
        (cl i = .keep→∀ sz x v,op = .st sz x v→∀ id,wz (rx a x)=some id→id∈T') ∧
        (cl i = .keep→∀ m e sz bytes str x y,op = .ap m e sz bytes str x y→∀ id,iW (rx a x)=some id→id∈T'):=by
       rw [hcl,hsq] at hdyn ⊢;unfold Bb at hdyn;split at hdyn
       ·rename_i hw
        split at hdyn
        ·rename_i hst
         split at hdyn
         ·rename_i id hid
          cases hdyn;refine ⟨fun _ h=>h,fun _ h=>by simp [h],fun _=>rfl,fun _ _ id' hid' => ?_,fun e=>(by rw [hw] at e;cases e),fun e=>(by rw [hw] at e;cases e)⟩;rw [hid] at hid';cases hid';simp
         ·rename_i hid
          cases hdyn;exact ⟨fun _ h=>h,fun _ h=>h,fun _=>rfl,fun _ _ id' hid'=>(by rw [hid] at hid';cases hid'),fun e=>(by rw [hw] at e;cases e),fun e=>(by rw [hw] at e;cases e)⟩
        ·rename_i hst
         cases hdyn;exact ⟨fun _ h=>h,fun _ h=>h,fun _=>rfl,fun _ e=>absurd e hst,fun e=>(by rw [hw] at e;cases e),fun e=>(by rw [hw] at e;cases e)⟩
       ·rename_i hkp
        have hkc:=uE hkp;split at hdyn
        ·rename_i sz x v'
         have hst:s=true:=by
          rcases hkc with e | ⟨e,_⟩ | ⟨_,_,_,_,_,_,_,e⟩
          ·cases e
          ·exact e
          ·cases e
         split at hdyn
         ·rename_i id hid
          cases hdyn;refine ⟨fun _ h=>by simp [h],fun _ h=>h,fun e=>(by rw [hst] at e;cases e),fun e=>(by rw [hkp] at e;cases e),fun _ sz2 x2 v2 e id' hid' => ?_,fun _ _ _ _ _ _ _ _ e=>(by cases e)⟩;cases e;rw [hid] at hid';cases hid';simp
         ·cases hdyn
        ·rename_i m e sz bytes str x y
         split at hdyn
         ·rename_i id hid
          cases hdyn;have hst:s=true:=by
           rcases hkc with hn | ⟨e,_⟩ | ⟨_,_,_,_,_,_,_,e⟩
           ·obtain ⟨_,_,_,rfl⟩:=wG hn
            simp [rx,iW] at hid
           ·exact e
           ·cases hss:s with
            |true=>rfl
            |false=>
             rw [hss] at hkp;unfold kW at hkp;simp only at hkp;split at hkp
             ·cases hkp
             ·split at hkp
              ·cases hkp
              ·split at hkp
               ·rename_i hn
                obtain ⟨_,_,_,rfl⟩:=wG hn;simp [rx,iW] at hid
               ·cases hkp
          refine ⟨fun _ h=>by simp [h],fun _ h=>h,fun e=>(by rw [hst] at e;cases e),fun e=>(by rw [hkp] at e;cases e),fun _ _ _ _ e=>(by cases e),fun _ m2 e2 sz2 b2 st2 x2 y2 e id' hid' => ?_⟩;cases e;rw [hid] at hid';cases hid';simp
         ·rename_i hid
          cases hdyn;exact ⟨fun _ h=>h,fun _ h=>h,fun _=>rfl,fun e=>(by rw [hkp] at e;cases e),fun _ _ _ _ e=>(by cases e),fun _ m2 e2 sz2 b2 st2 x2 y2 e id' hid'=>(by cases e;rw [hid] at hid';cases hid')⟩
        ·rename_i hnst hnap
         cases hdyn;exact ⟨fun _ h=>h,fun _ h=>h,fun _=>rfl,fun e=>(by rw [hkp] at e;cases e),fun _ sz x v e=>absurd e (hnst sz x v),fun _ m e sz bytes str x y h=>absurd h (hnap m e sz bytes str x y)⟩
       ·rename_i hqq;exact absurd hqq clOfR_quiet
       ·rename_i n1 n2 n3
        cases hdyn;exact ⟨fun _ h=>h,fun _ h=>h,fun _=>rfl,fun e=>absurd e n1,fun e=>absurd e n2,fun e=>absurd e n2⟩
      obtain ⟨g1,g2,g3,g4,g5,g6⟩:=hdyn2;refine ⟨Tf,Lf,fun x hx=>h1 x (g1 x hx),fun x hx=>h2 x (g2 x hx),h3,fun e=>(h4 e).trans (g3 e),fun hts=>⟨o,v,H',ho,⟨hd,fun hst => ?_,fun hkp => ?_,.inl ⟨hwt,hD,fun hwd => ?_⟩⟩, ?_⟩⟩
      ·rw [hcl,hsq] at hst
       have:qS op=true:=by
        cases hcl2:kW q s (.op op)<;>rw [hcl2] at hst<;>simp only [Cl.still] at hst<;>first | (cases hst;done) | skip
        ·exact absurd hcl2 clOfR_quiet
        ·exact uD hcl2
       exact (uu this hrop).1
      ·have hkp':=hkp
       rw [hcl,hsq] at hkp';rcases uE hkp' with hn | ⟨hs',sz,x,v',rfl⟩ | ⟨m,e,sz,bytes,str,x,y,rfl⟩
       ·obtain ⟨Ln,rfl⟩:=AH hn hrop
        exact mE _ _ _
       ·obtain ⟨id,ob,e1,rfl⟩:=Br hrop
        exact yr (h1 id (g5 hkp sz x v' rfl id e1)) _ _
       ·rcases Bq hrop with ⟨L,rfl⟩ | ⟨id,ob,L,e1,rfl⟩
        ·exact mE _ _ _
        ·exact KpT.trans _ _ _ (yr (h1 id (g6 hkp m e sz bytes str x y rfl id e1)) _ _) (mE _ _ _)
      ·intro H2 hk2
       have hwd':=hwd;rw [hcl,hsq] at hwd';unfold DR;rw [hro];simp only [uB,hsq];refine (uu (uD hwd') hrop).2 H2 fun id hid hlen=>hk2.2 id hlen ?_
       rcases Bool.eq_false_or_eq_true s with hst | hst
       ·exact h3 id (h2 id (g4 hwd hst id hid))
       ·rw [h4 hst,g3 hst]
        rcases hts with e | e
        ·rw [e];simp
        ·rw [hst] at e;cases e
      ·rw [← hdst]
       refine h5 ?_;rcases hts with e | e
       ·rcases Bool.eq_false_or_eq_true s with hst | hst
        ·exact .inr hst
        ·exact .inl (by rw [g3 hst];exact e)
       ·exact .inr e
     ·cases h
    ·cases h
   ·rw [hsi] at h;cases h
end
end Go.Am
end
section
namespace Go.Am
open Go.RowKit
section
variable{dec:Dec}{E:du}
theorem oT{n n':Nat}{fn:AFn}{H0:List AObj}{k k':List Fra}{r:Out}(hn:n≤n')(hk:∀ x a H m,x≠.normal→evX dec E m fn H0 x k a H=evX dec E m fn H0 x k' a H){x:bo}{a:Env}{H:List AObj}
  (hx:x≠.normal) (h:vn dec E n fn H0 k r x a H):vn dec E n' fn H0 k' r x a H:=by
 obtain ⟨m,hm,h⟩:=h;exact ⟨m,by omega,by rw [← hk x a H m hx];exact h⟩
theorem Be{m:Nat}{fn:AFn}{H0:List AObj}{x:bo}{k:List Fra}{ac:AC}{a:Env}{H:List AObj}(hx:x≠.normal):evX dec E m fn H0 x (.c ac::k) a H=evX dec E m fn H0 x k a H:=by
 cases x<;>first | exact absurd rfl hx | rfl
theorem Bv{m:Nat}{fn:AFn}{H0:List AObj}{x:bo}{k:List Fra}{h:LH}{ac:AC}{He:List AObj}{a:Env}{H:List AObj}(hx:x≠.normal):evX dec E m fn H0 x (.lp h ac He::k) a H=evX dec E m fn H0 x k a H:=by
 cases x<;>first | exact absurd rfl hx | rfl
theorem yu(m:Bool)(ops:Array Oper)(ros:List RO)(q:Cl)(s:Bool)(ord:List Nat)(k:Nat):wB m ops ros q s ord k=xm q s ros k∨wB m ops ros q s ord k = .quiet:=by
 unfold wB;split
 ·exact .inr rfl
 ·exact .inl rfl
theorem q2{m:Bool}{ops:Array Oper}{ros:List RO}{ac:AC}:∀ {l:List (Cl×Bool×List Nat)},AD m ops ros l=some ac→∃ q s ord,(q,s,ord)∈l∧ord.length=ops.size∧wq ops (wB m ops ros q s ord) ord (Array.replicate ops.size false)=true ∧
  ac = .dops s [] [] (ord.map fun k=>(ros.getD k default,wB m ops ros q s ord k))
 |[],h=>by cases h
 |(q,s,ord)::l,h=>by
  simp only [AD] at h;split at h
  ·rename_i hc
   simp only [Bool.and_eq_true,beq_iff_eq] at hc;cases h;exact ⟨q,s,ord,by simp,hc.1,hc.2,rfl⟩
  ·obtain ⟨q',s',ord',h1,h2⟩:=q2 h
   exact ⟨q',s',ord',by simp [h1],h2⟩
theorem yX{x y:AC}(h:∀ l,y≠.lv l):(AC.seq x y).strip = .seq x.strip y.strip:=by
 cases y<;>first | exact absurd rfl (h _) | rw [AC.strip]
 all_goals intro l e;cases e
theorem zO{P:Program}{G:Nat→Option (List AV)}{N:Fr}{c:Code}{a:Env}{H:List AObj}{Q Q':bo→Env→List AObj→Prop}(h:AWP P G N c Q a H)
  (hq:∀ x a H,Q x a H→∃ a',(∀ K act w,Rel N K a H act w→Rel N K a' H act w)∧Q' x a' H):AWP P G N c Q' a H:=fun K act w hg hr=>
 wpIn_mono (h K act w hg hr) fun _ _ _ ⟨K',x,a',H',h1,h2,h3,h4⟩=>by
  obtain ⟨a2,h5,h6⟩:=hq _ _ _ h4;exact ⟨K',x,a2,H',h1,h2,h5 _ _ _ h3,h6⟩
theorem zP{x y:AC}(h:aV (.seq x y)=true):aV x=true∧aV y=true:=by simpa [aV] using h
theorem yv{c:RX}{x y:AC}(h:aV (.cond c x y)=true):aV x=true∧aV y=true:=by simpa [aV] using h
theorem zQ:∀ (x:AC),aV x.strip=aV x:=by
 intro x
 fun_induction AC.strip x<;>simp_all [aV]
theorem qa{P:Program}{G:Nat→Option (List AV)}{m:Nat→Bool}{nt:Nat}:∀ (c:Code) (ac:AC),aj P G m nt c=some ac→∀ l,(qU ac l=none→findLabel c l=none)∧∀ q,qU ac l=some q→∃ rest,findLabel c l=some rest∧aj P G m nt rest=some q
 |.seq x y,ac,h,l=>by
  simp only [aj] at h;split at h
  ·rename_i x' hx
   split at h
   ·rename_i y' hy
    cases h;obtain ⟨h1,h2⟩:=qa x x' hx l;obtain ⟨h3,h4⟩:=qa y y' hy l;simp only [qU,findLabel];cases hf:qU x' l with
    |none=>
     rw [h1 hf];exact ⟨h3,h4⟩
    |some r=>
     obtain ⟨rest,e1,e2⟩:=h2 r hf;rw [e1];refine ⟨fun h=>(by cases h),fun q hq => ?_⟩;cases hq;exact ⟨_,rfl,by simp only [aj,e2,hy]⟩
   ·cases h
  ·cases h
 |.label l',ac,h,l=>by
  simp only [aj,Option.some.injEq] at h;subst h;simp only [qU,findLabel];split
  ·exact ⟨fun h=>(by cases h),fun q hq=>by cases hq;exact ⟨.skip,rfl,rfl⟩⟩
  ·exact ⟨fun _=>rfl,fun q hq=>by cases hq⟩
 |.skip,ac,h,l=>by simp only [aj,Option.some.injEq] at h;subst h;exact ⟨fun _=>rfl,fun q hq=>by cases hq⟩
 |.exit _,ac,h,l=>by simp only [aj,Option.some.injEq] at h;subst h;exact ⟨fun _=>rfl,fun q hq=>by cases hq⟩
 |.ret,ac,h,l=>by simp only [aj,Option.some.injEq] at h;subst h;exact ⟨fun _=>rfl,fun q hq=>by cases hq⟩
 |.refuse _,ac,h,l=>by simp only [aj,Option.some.injEq] at h;subst h;exact ⟨fun _=>rfl,fun q hq=>by cases hq⟩
 |.goto _,ac,h,l=>by simp only [aj,Option.some.injEq] at h;subst h;exact ⟨fun _=>rfl,fun q hq=>by cases hq⟩
 |.cond _ _ _,ac,h,l=>by
  simp only [aj] at h;split at h
  ·split at h
   ·cases h;exact ⟨fun _=>rfl,fun q hq=>by cases hq⟩
   ·cases h
  ·cases h
 |.block _ _,ac,h,l=>by
  simp only [aj] at h;split at h
  ·cases h;exact ⟨fun _=>rfl,fun q hq=>by cases hq⟩
  ·cases h
 |.loop _,ac,h,l=>by
  simp only [aj] at h;split at h
  ·cases h;exact ⟨fun _=>rfl,fun q hq=>by cases hq⟩
  ·cases h
 |.scope _,ac,h,l=>by
  simp only [aj] at h;split at h
  ·cases h;exact ⟨fun _=>rfl,fun q hq=>by cases hq⟩
  ·cases h
 |.rangeFunc _ _ _ _,ac,h,l=>by
  simp only [aj] at h;split at h
  ·split at h
   ·split at h
    ·cases h;exact ⟨fun _=>rfl,fun q hq=>by cases hq⟩
    ·cases h
   ·cases h
  ·cases h
 |.region _ ops draw,ac,h,l=>by
  simp only [aj] at h;split at h
  ·rename_i ros hros
   split at h
   ·unfold yl at h
    split at h
    ·obtain ⟨q,s,ord,_,_,_,hac⟩:=q2 h
     rw [hac];exact ⟨fun _=>rfl,fun q hq=>by cases hq⟩
    ·cases h
   ·cases h;exact ⟨fun _=>rfl,fun q hq=>by cases hq⟩
  ·cases h
theorem findT_strip:∀ (t:AC) (l:Nat) (r:AC),nP t l=some r→nP t.strip l=some r.strip
 |.tab l' r' t,l,r,h=>by
  simp only [nP,AC.strip] at h ⊢;split at h
  ·rename_i e;cases h;rw [if_pos e]
  ·rename_i e;rw [if_neg e];exact findT_strip t l r h
 |.skip,_,_,h=>by cases h
 |.exit _,_,_,h=>by cases h
 |.ret,_,_,h=>by cases h
 |.seq ..,_,_,h=>by cases h
 |.cond ..,_,_,h=>by cases h
 |.block ..,_,_,h=>by cases h
 |.loop ..,_,_,h=>by cases h
 |.ops ..,_,_,h=>by cases h
 |.dops ..,_,_,h=>by cases h
 |.lv ..,_,_,h=>by cases h
 |.bad,_,_,h=>by cases h
 |.lbl ..,_,_,h=>by cases h
 |.goto ..,_,_,h=>by cases h
 |.scope ..,_,_,h=>by cases h
 |.rfn ..,_,_,h=>by cases h
theorem uF{x:AC}:∀ (ls:List Nat) (l:Nat) (q:AC),nP (xn x ls) l=some q→qU x l=some q
 |[],l,q,h=>by cases h
 |l'::ls,l,q,h=>by
  unfold xn at h;split at h
  ·rename_i r hr
   unfold nP at h;split at h
   ·rename_i e;cases h;rw [← e];exact hr
   ·exact uF ls l q h
  ·exact uF ls l q h
theorem xt:∀ (t:AC) (l:Nat) (r:AC),nP t l=some r→aV t=true→aV r=true
 |.tab l' r' t,l,r,h,hn=>by
  simp only [nP] at h;simp only [aV,Bool.and_eq_true] at hn;split at h
  ·cases h;exact hn.1
  ·exact xt t l r h hn.2
 |.skip,_,_,h,_=>by cases h
 |.exit _,_,_,h,_=>by cases h
 |.ret,_,_,h,_=>by cases h
 |.seq ..,_,_,h,_=>by cases h
 |.cond ..,_,_,h,_=>by cases h
 |.block ..,_,_,h,_=>by cases h
 |.loop ..,_,_,h,_=>by cases h
 |.ops ..,_,_,h,_=>by cases h
 |.dops ..,_,_,h,_=>by cases h
 |.lv ..,_,_,h,_=>by cases h
 |.bad,_,_,h,_=>by cases h
 |.lbl ..,_,_,h,_=>by cases h
 |.goto ..,_,_,h,_=>by cases h
 |.scope ..,_,_,h,_=>by cases h
 |.rfn ..,_,_,h,_=>by cases h
theorem vX{P:Program}{G:Nat→Option (List AV)}{m:Nat→Bool}{nt:Nat}:∀ (c:Code) (ac:AC) (l:List (List RO)),aj P G m nt c=some ac→wD ac=some l →
  (∃ id ops ros,c = .region id ops false∧l=[ros]∧qT P G (m id) nt ops ops.toList=some ros)∨∃ x y x' y' l1 l2,c = .seq x y∧aj P G m nt x=some x'∧aj P G m nt y=some y'∧wD x'=some l1∧wD y'=some l2∧l=l1++l2:=by
 intro c ac l h ha;cases c with
 |region id ops draw=>
  simp only [aj] at h;split at h
  ·rename_i ros hros
   cases draw with
   |false=>simp only [Bool.false_eq_true,if_false,Option.some.injEq] at h;subst h;cases ha;exact .inl ⟨id,ops,ros,rfl,rfl,hros⟩
   |true=>
    simp only [if_true] at h;unfold yl at h;split at h
    ·obtain ⟨q,s,ord,_,_,_,hac⟩:=q2 h
     rw [hac] at ha;cases ha
    ·cases h
  ·cases h
 |seq x y=>
  simp only [aj] at h;split at h
  ·rename_i x' hx
   split at h
   ·rename_i y' hy
    cases h;simp only [wD] at ha;split at ha
    ·rename_i l1 l2 e1 e2
     cases ha;exact .inr ⟨x,y,x',y',l1,l2,rfl,hx,hy,e1,e2,rfl⟩
    ·cases ha
   ·cases h
  ·cases h
 |_=>
  simp only [aj] at h
  repeat' split at h
  all_goals first | (cases h;done) | (cases h;cases ha)
theorem xu(k:List Fra):∀ l:List (List RO),j6 (l.map (fun l=>Fra.c (.ops l))++k)=j6 k
 |[]=>rfl
 |_::l=>xu k l
theorem AM(hE:E.Ok){n:Nat}(hC:∀ j,j<n→j8 dec E j){fn:AFn}{H0:List AObj}{r:Out}{N:Fr}{m:Nat→Bool}{nt:Nat}(hnt:nt≤N.n){K:aa}(hg:K.glob=E.G)
  (hpan:∀ (j:Nat) (k:List Fra) (a:Env) (v:AV) (H:List AObj),j6 k=some .nilp→eA dec E (ev dec E j) fn H0 k a v H=none) (y:Code) :
  ∀ (Qn:Act→World→Prop) (ac:AC) (l:List (List RO)) (k:List Fra) (j:Nat) (K':aa) (a:Env) (H:List AObj) (act:Act) (w:World),aj E.P E.G m nt y=some ac→wD ac=some l→j6 k=some .nilp→j≤n →
   ev dec E j fn H0 (l.map (fun l=>Fra.c (.ops l))++k) a H=some r→K.le K'→Rel N K' a H act w →
   (∀ (j':Nat) (K2:aa) (a2:Env) (H2:List AObj) (act2:Act) (w2:World),j'<j→K.le K2→Rel N K2 a2 H2 act2 w2→ev dec E j' fn H0 k a2 H2=some r→Qn act2 w2) →
   y.wpIn N.F 0 E.P (Exit.then Qn (fun _ _ _=>False)) act w:=by
 have reg:∀ (id:Nat) (ops:Array Oper) (ros:List RO) (Qn:Act→World→Prop) (k:List Fra) (j:Nat) (K':aa) (a:Env) (H:List AObj) (act:Act) (w:World),qT E.P E.G (m id) nt ops ops.toList=some ros→j6 k=some .nilp→j≤n →
   ev dec E j fn H0 (.c (.ops ros)::k) a H=some r→K.le K'→Rel N K' a H act w →
   (∀ (j':Nat) (K2:aa) (a2:Env) (H2:List AObj) (act2:Act) (w2:World),j'<j→K.le K2→Rel N K2 a2 H2 act2 w2→ev dec E j' fn H0 k a2 H2=some r→Qn act2 w2) →
   (Code.region id ops false).wpIn N.F 0 E.P (Exit.then Qn (fun _ _ _=>False)) act w:=fun id ops ros Qn k j K' a H act w hros hk hj hev hle hr hq=>by
  refine wpIn_region ?_;have hrun:=oR hE (n:=j) (fun i hi=>hC i (by omega)) (N:=N) hnt hg (l2:=[]) (Qc:=Exit.then Qn (fun _ _ _=>False)) (k:=k) (r:=r) ?_ ?_ ops.toList ros (List.range ops.size) j K' a H act w (Nat.le_refl j) hev hros (vM ops) hle hr
  ·rwa [List.append_nil] at hrun
  ·intro j' K2 a2 H2 act2 w2 hj' hk2 hr2 hev2
   exact hq j' K2 a2 H2 act2 w2 hj' hk2 hr2 hev2
  ·intro j' K2 a2 H2 act2 w2 v cv hj' hk2 hv hr2 hx
   rw [hpan _ _ _ _ _ hk] at hx;cases hx
 induction y
 case seq x y ihx ihy=>
  intro Qn ac l k j K' a H act w hc ha hk hj hev hle hr hq;rcases vX _ _ _ hc ha with ⟨_,_,_,h1,_⟩ | ⟨x',y',ax,ay,l1,l2,h1,hx,hy,e1,e2,rfl⟩
  ·cases h1
  cases h1;refine wpIn_seq (wpIn_mono (ihx (y.wpIn N.F 0 E.P (Exit.then Qn (fun _ _ _=>False))) ax l1 (l2.map (fun l=>Fra.c (.ops l))++k) j K' a H act w hx e1 ((xu k l2).trans hk) hj (by rw [List.map_append,List.append_assoc] at hev;exact hev) hle hr
   fun j' K2 a2 H2 act2 w2 hj' hk2 hr2 hev2=>ihy Qn ay l2 k j' K2 a2 H2 act2 w2 hy e2 hk (by omega) hev2 hk2 hr2 fun j3 K3 a3 H3 act3 w3 h3=>hq j3 K3 a3 H3 act3 w3 (by omega)) ?_)
  intro e a3 w3 hp;cases e<;>first | exact hp | exact hp.elim
 all_goals
  intro Qn ac l k j K' a H act w hc ha hk hj hev hle hr hq;rcases vX _ _ _ hc ha with ⟨id,ops,ros,h1,rfl,hros⟩ | ⟨x',y',ax,ay,l1,l2,h1,_⟩
  ·first
   |(cases h1;done)
   |(cases h1;exact reg _ _ ros Qn k j K' a H act w hros hk hj hev hle hr hq)
  ·cases h1
theorem sM{K:aa}:∀ (ps:List Nat) (xs:List AV) (a:Env) (tmps:Array Value),(∀ v∈xs,uy v=true)→(∀ p∈ps,p<tmps.size)→(∀ t,V K (cf a t) (tmps.getD t undef)) →
  ((ps.zip (xs.map oP)).foldl (fun t (p,v)=>t.setIfInBounds p v) tmps).size=tmps.size∧∀ t,V K (cf (um a ps xs) t) (((ps.zip (xs.map oP)).foldl (fun t (p,v)=>t.setIfInBounds p v) tmps).getD t undef)
 |[],xs,a,tmps,_,_,h=>by simpa [um] using h
 |p::ps,[],a,tmps,_,_,h=>by simpa [um] using h
 |p::ps,v::xs,a,tmps,hv,hp,h=>by
  simp only [List.map_cons,List.zip_cons_cons,List.foldl_cons,um];have hlt:=hp p (by simp);obtain ⟨h1,h2⟩:=sM ps xs (pZ a p v) (tmps.setIfInBounds p (oP v)) (fun u hu=>hv u (by simp [hu])) (fun q hq=>by simpa using hp q (by simp [hq])) (fun t=>by
   rw [eP];split
   ·rename_i e;subst e
    simpa [Array.getD_eq_getD_getElem?,hlt] using Bs (hv v (by simp))
   ·rename_i e
    have:=h t;simpa [Array.getD_eq_getD_getElem?,Array.getElem?_setIfInBounds_ne (fun h=>e h.symm)] using this)
  exact ⟨by simpa using h1,h2⟩
theorem uG:∀ {H H':List AObj},xU H H'=true→∀ (i:Nat) (s:List UInt8) (p:Nat),H'[i]?=some (.siter s p)→∃ s' p',H[i]?=some (.siter s' p')
 |_,[],_,i,s,p,h=>by simp at h
 |[],x::l,hn,i,s,p,h=>by
  simp only [xU,Bool.and_eq_true] at hn;cases i with
  |zero=>simp at h;subst h;simp [yV] at hn
  |succ i=>obtain ⟨_,_,h2⟩:=uG hn.2 i s p (by simpa using h);simp at h2
 |y::H,x::l,hn,i,s,p,h=>by
  simp only [xU,Bool.and_eq_true] at hn;cases i with
  |zero=>
   simp at h;subst h
   have:yV y=true:=by simpa [yV] using hn.1
   cases y<;>first | (cases this;done) | exact ⟨_,_,rfl⟩
  |succ i=>obtain ⟨s',p',h2⟩:=uG hn.2 i s p (by simpa using h);exact ⟨s',p',by simpa using h2⟩
theorem yY{n:Nat}(hC:∀ j,j<n+1→j8 dec E j)(hE:E.Ok)(IH:∀ j,j<n+1→qZ dec E j){fn:AFn}{H0:List AObj}{g:Operand}{ps:Array Tmp}{l:List (List RO)}{ay az:AC}{y z:Code}{k:List Fra}{a:Env}{H:List AObj}{r:Out}
  (h:ev dec E (n+1) fn H0 (.c (.rfn (cx0 E.G g) ps.toList l az)::k) a H=some r) {N:Fr}{m:Nat→Bool}{nt:Nat} (hN:fn.dfr=none→(N.rd=none∧N.mks=true)∨aV (.rfn (cx0 E.G g) ps.toList l az)=true) (hnt:nt≤N.n)
  (hy:aj E.P E.G m nt y=some ay) (hya:wD ay=some l) (hz:aj E.P E.G m nt z=some az.strip) (hps:ps.all (· < nt)=true):AWP E.P E.G N (.rangeFunc g ps y z) (vn dec E (n+1) fn H0 k r) a H:=by
 simp only [ev] at h;split at h
 ·rename_i gf cap hgx hdf
  obtain ⟨hrd,hmk⟩:N.rd=none∧N.mks=true:=(hN hdf).resolve_right (by simp [aV]);split at h
  ·rename_i xs L hsq
   have hF:N.F=Fence.wide:=by unfold Fr.F;rw [hrd];rfl
   obtain ⟨res,hres,hcont⟩:∃ res:Option AC×List AObj,uo dec (ev dec E n) (sJ fn) ps.toList l az a L H xs H=some res ∧
     (match res with | (none,H')=>ev dec E n fn H0 k a H'=some r | (some j,H')=>ev dec E n fn H0 (.c j::k) a H'=some r):=by
    split at h
    ·split at h
     ·rename_i H' e;exact ⟨_,e,h⟩
     ·rename_i j H' e;exact ⟨_,e,h⟩
     ·cases h
    ·cases h
   have har:E.sar gf=ps.toList.length:=by
    split at h
    ·rename_i e;exact Nat.eq_of_beq_eq_true e
    ·cases h
   obtain ⟨hplain,henter,hsw⟩:=hE.seq gf cap H xs L hsq;intro K act w hg hr;rw [hF];have hfv:=cG hg hr g;rw [hgx] at hfv;obtain ⟨vs,us,hfe,hv1,hv2⟩:=hfv.fn_inv;have hvs:vs = #[]:=Array.size_eq_zero_iff.1 hv1.size.symm;subst hvs;have hSW:=hsw K w us hg hr.inv hv2;have hbase:∀ b,w.heap.size≤b→K.base b:=hr.inv.base;have hKsh:∀ b s,K.shape b=some s→b<w.heap.size:=fun b s hs=>hr.inv.shape_lt hs
   have lowOf:∀ {K':aa}{H':List AObj}{W:World},K.le K'→xU H H'=true→Inv K' H' W→Low w.heap.size (K'.dim w.heap.size) H':=fun {K' H' W} hk hn hi=>⟨fun id b s p hx hb=>by
    obtain ⟨s',p',h1⟩:=uG hn id s p hx;obtain ⟨b',h2,_,h3,_⟩:=hr.inv.obj id _ h1;have h4:=hk.loc id b' h2;have hb':K'.loc[id]?=some b:=hb;rw [h4] at hb';cases hb';exact (Array.getElem?_eq_some_iff.1 h3).1,fun b o hs=>(yq hs).1⟩
   have hlow0:Low w.heap.size K H:=⟨fun id b s p hx hb=>by
    obtain ⟨b',h2,_,h3,_⟩:=hr.inv.obj id _ hx;rw [hb] at h2;cases h2;exact (Array.getElem?_eq_some_iff.1 h3).1,fun b o hs=>hKsh b _ hs⟩
   have bs:∀ {K':aa},K.le K'→∀ b,w.heap.size≤b→K'.base b:=fun hk b hb=>by rw [hk.base];exact hbase b hb
   have hRel:∀ {K':aa}{H':List AObj}{W:World}{D:Nat},w.heap.size≤D→K.le K'→Inv K' H' W→Low w.heap.size K' H'→W.heap[D]?=some (.deferred (some [])) →
     ∃ K2,K.le K2∧Rel N K2 a H' { act with defers:=yJ D::act.defers } W:=fun {K' H' W D} hD hk hi hl hW=>by
    have hsD:K'.shape D=none:=by
     cases e:K'.shape D with
     |none=>rfl
     |some s=>
      have:=hi.shape D s e;cases s with
      |rows n=>obtain ⟨vs,T,f,h1,_⟩:=this;rw [hW] at h1;cases h1
      |mapv es=>obtain ⟨c,h1⟩:=this;rw [hW] at h1;cases h1
      |fix o=>have:=hl.fix D o e;omega
    have hp:=hi.pin hl;have hkp:=zJ hi hl (bs hk);have hpD:=wJ (K:=K') hD hW rfl;refine ⟨_,hk.trans hkp,hp, ?_,hr.size,fun t=>(hr.tmps t).mono (hk.trans hkp)⟩;obtain ⟨⟨ms,h1,h2,h3,h4⟩,h5⟩:=hr.defers;refine ⟨⟨D::ms,List.nodup_cons.2 ⟨fun hm => ?_,h1⟩,fun D' hD' => ?_,fun e => ?_, ?_⟩,fun b hb=>h5 b ?_⟩
    ·have:=hKsh D _ (h2 D hm).1;omega
    ·rcases List.mem_cons.1 hD' with rfl | hD'
     ·exact ⟨hpD,bs (hk.trans hkp) _ hD,h5 _ (by
       cases e:K.shape D' with
       |none=>rfl
       |some s=>have:=hKsh _ s e;omega)⟩
     ·obtain ⟨g1,g2,g3⟩:=h2 D' hD'
      exact ⟨(hk.trans hkp).shape _ _ g1,by rw [(hk.trans hkp).base];exact g2,g3⟩
    ·rw [hmk] at e;cases e
    ·simp [h4]
    ·cases e:K.shape b with
     |none=>rfl
     |some s=>rw [(hk.trans hkp).shape _ _ e] at hb;cases hb
   refine zL (g:=g) (Kp:=fun _ W3 => ∃ K' H',K.le K'∧Inv K' H' W3∧Low w.heap.size K' H'∧∀ id∈L,id<H.length→H'[id]?=H[id]?) hfe henter (xs:=xs.map fun x=>(x.map oP).toArray)
    (fun l W J Jx hgr hJ hJx hsz hY h0=>hSW l W J Jx (hr.inv.grown hlow0 hbase hgr (fun r e=>by cases e)) hJ hJx hsz (fun i x W1 hx hj => ?_) h0) (fun x hx => ?_)
    (fun i W => ∃ K' H',K.le K'∧Inv K' H' W∧Low w.heap.size K' H'∧uo dec (ev dec E n) (sJ fn) ps.toList l az a L H (xs.drop i) H'=some res)
    (fun c W => ∃ K' H' jc,K.le K'∧Inv K' H' W∧Low w.heap.size K' H'∧res=(some jc,H')∧((c = .ret∧jc = .ret)∨∃ id,c = .exit id∧jc = .exit id))
    (fun i W W' row hs hgr ht => ?_) (fun c W W' row hs hgr ht => ?_) ⟨K,H,.refl K,hr.inv,hlow0,hres⟩ (fun W W3 l r o' hl hW hk => ?_) (fun l' D i x W ra rb hD hl' hDl hWl hWD hx hI => ?_) (fun D W hD hI hW => ?_) (fun D c W hD hI hW => ?_)
   ·obtain ⟨fn2,t2,a2,b2,e1,e2⟩:=hY i x W1 hx hj
    refine ⟨fn2,t2,a2,b2,e1,e2.mono ?_⟩;rintro e W' (⟨h1,h2,h3,K',H',h4,h5,_,h6⟩ | h)
    ·exact .inl ⟨h1,h2,h3,K',H',h4,h5,h6⟩
    ·exact .inr h
   ·obtain ⟨xa,hxa,rfl⟩:=List.mem_map.1 hx
    simp [(hplain xa hxa).1,har]
   ·obtain ⟨K',H',h1,h2,h3,h4⟩:=hs
    exact ⟨K',H',h1,h2.grown h3 (bs h1) hgr ht,h3,h4⟩
   ·obtain ⟨K',H',jc,h1,h2,h3,h4⟩:=hs
    exact ⟨K',H',jc,h1,h2.grown h3 (bs h1) hgr ht,h3,h4⟩
   ·obtain ⟨K',H',h1,h2,h3,h4⟩:=hk
    exact ⟨K',H',h1,h2.grown h3 (bs h1) (grownBy_putObj' W3 l _) (fun r e=>by cases e;exact ⟨hl,_,hW,rfl⟩),h3,h4⟩
   ·
    rw [List.getElem?_map,Option.map_eq_some_iff] at hx;obtain ⟨xa,hxa,rfl⟩:=hx;obtain ⟨K1,H1,hk1,hi1,hl1,hrnd⟩:=hI;have hdrop:xs.drop i=xa::xs.drop (i+1):=by
     have hlt:=(List.getElem?_eq_some_iff.1 hxa).1;rw [List.drop_eq_getElem_cons hlt,(List.getElem?_eq_some_iff.1 hxa).2]
    rw [hdrop] at hrnd;simp only [uo] at hrnd;split at hrnd
    ·rename_i v H2 hev
     split at hrnd
     ·rename_i hid hno _
      have hi2:=hi1.pin hl1;have hk2:K.le (K1.pin w.heap.size W):=hk1.trans (zJ hi1 hl1 (bs hk1));have hpl:=wJ (K:=K1) hl' hWl rfl;have hpD:=wJ (K:=K1) hD hWD rfl;obtain ⟨hsz,htm⟩:=sM (K:=K1.pin w.heap.size W) ps.toList xa a act.tmps (hplain xa (List.mem_of_getElem? hxa)).2 (fun p hp=>by
       have:=Array.all_eq_true_iff_forall_mem.1 hps p (by simpa using hp);rw [hr.size];have h2:p<nt:=by simpa using this
       omega) (fun t=>(hr.tmps t).mono hk2)
      have hzip:(ps.zip (xa.map oP).toArray).foldl (fun t (p,v)=>t.setIfInBounds p v) act.tmps=(ps.toList.zip (xa.map oP)).foldl (fun t (p,v)=>t.setIfInBounds p v) act.tmps:=by
       rw [← Array.foldl_toList];simp
      have hrel:Rel { n:=N.n,rd:=some l',mks:=false } (K1.pin w.heap.size W) (um a ps.toList xa) H1 { tmps:=(ps.zip (xa.map oP).toArray).foldl (fun t (p,v)=>t.setIfInBounds p v) act.tmps,defers:=[] } W:=
       ⟨hi2,.none fun _ _=>trivial,by rw [hzip];exact hsz.trans hr.size,by rw [hzip];exact htm⟩
      have noPan:∀ (j:Nat) (k:List Fra) (a:Env) (v:AV) (H':List AObj),j6 k=some .nilp→eA dec E (ev dec E j) (sJ fn) H1 k a v H'=none:=fun j k a v H' hk=>by
       simp only [eA,sJ,hk,uq]
      have hKl:K.shape l'=none:=by
       cases e:K.shape l' with
       |none=>rfl
       |some s=>have:=hKsh _ s e;omega
      refine AM hE (n:=n) (fun j hj=>hC j (by omega)) (N := { n:=N.n,rd:=some l',mks:=false }) hnt (K:=K1.pin w.heap.size W) (hk2.glob.trans hg) noPan y _ ay l [.c az,.dr .nilp] n _ _ H1 _ W hy hya rfl (Nat.le_refl n) hev (.refl _) hrel ?_;intro j K3 a3 H3 act3 W3 hj hk3 hr3 hev3;have hl3:=(hr3.inv.shape l' _ (hk3.shape _ _ hpl)).1;have hD3:=(hr3.inv.shape D _ (hk3.shape _ _ hpD)).1;refine ⟨hl3,hD3, ?_⟩
      have hb3:K3.base l':=bs (hk2.trans hk3) l' hl';have hk4:=zK (hk2.trans hk3) (o:=.loop rb) hb3 hKl;have hr4:Rel { n:=N.n,rd:=some l',mks:=false } (K3.refix l' (.loop rb)) a3 H3 act3 (W3.putObj l' (.loop rb)):=
       ⟨hr3.inv.refix (hk3.shape _ _ hpl) hb3 rfl,by rw [hr3.defers.bare rfl];exact .none fun _ _=>trivial,hr3.size,fun t=>(hr3.tmps t).turned (q0 (hk3.shape _ _ hpl))⟩
      have hw4:=IH j (by omega) (sJ fn) H1 az [.dr .nilp] a3 H3 (.ret v,H2) hev3 { n:=N.n,rd:=some l',mks:=false } m nt z (fun e=>by cases e) hnt hz (K3.refix l' (.loop rb)) act3 _ (hk4.glob.trans hg) hr4;refine wpIn_mono hw4 ?_;rintro e act5 W5 ⟨K5,x,a5,H5,hk5,hxe,hr5,j5,hj5,hx5⟩;have hl5:=(hr5.inv.shape l' _ (hk5.shape _ _ (if_pos rfl))).1;have hD5:=(hr5.inv.shape D _ (hk5.shape _ _ ((if_neg hDl).trans (hk3.shape _ _ hpD)))).1
      have hk6:K.le K5:=hk4.trans hk5;have hk7:K.le (K5.dim w.heap.size):=Bt hk6 hKsh (bs hk6);have hkept:yp w.heap.size W W5:=fun b s p hb hs=>by
       have h1:=wJ (K:=K1) hb hs rfl;have hne:b≠l':=fun e=>by subst e;rw [hWl] at hs;cases hs
       exact (hr5.inv.shape b _ (hk5.shape _ _ ((if_neg hne).trans (hk3.shape _ _ h1)))).1
      cases x with
      |normal=>
       cases e<;>first | exact (hxe:False).elim | skip
       have hx':ev dec E j5 (sJ fn) H1 [.dr .nilp] a5 H5=some (.ret v,H2):=hx5;cases j5 with
       |zero=>cases hx'
       |succ j5=>
        simp only [ev,Option.some.injEq,Prod.mk.injEq,ou.ret.injEq] at hx';obtain ⟨rfl,rfl⟩:=hx';exact ⟨hl5,hD5,⟨_,_,hk7,hr5.inv.dim _,lowOf hk6 hno hr5.inv,hrnd⟩,hkept,_,_,hk7,hr5.inv.dim _,lowOf hk6 hno hr5.inv,hid⟩
      |exit id=>
       cases e<;>first | exact (hxe:False).elim | skip
       cases hxe;simp only [evX,unw,uj,j6,if_true,Option.some.injEq,Prod.mk.injEq,ou.ret.injEq] at hx5;obtain ⟨rfl,rfl⟩:=hx5;simp only [Int.toNat_natCast,Option.some.injEq] at hrnd;exact ⟨hl5,hD5,_,_,_,hk7,hr5.inv.dim _,lowOf hk6 hno hr5.inv,hrnd.symm,.inr ⟨id,rfl,rfl⟩⟩
      |ret=>
       cases e<;>first | exact (hxe:False).elim | skip
       simp only [evX,qW,sJ,j6,Option.some.injEq,Prod.mk.injEq,ou.ret.injEq] at hx5;obtain ⟨rfl,rfl⟩:=hx5;simp only [Option.some.injEq] at hrnd;exact ⟨hl5,hD5,_,_,_,hk7,hr5.inv.dim _,lowOf hk6 hno hr5.inv,hrnd.symm,.inl ⟨rfl,rfl⟩⟩
      |panic v=>
       simp only [evX] at hx5;rw [noPan _ _ _ _ _ rfl] at hx5;cases hx5
      |goto l=>simp [evX,jmp] at hx5
     ·cases hrnd
    ·cases hrnd
   ·obtain ⟨K',H',h1,h2,h3,h4⟩:=hI
    rw [List.length_map,List.drop_length] at h4;cases h4;obtain ⟨K2,h5,h6⟩:=hRel hD h1 h2 h3 hW;exact ⟨K2,.normal,a,H',h5,trivial,h6,n,Nat.lt_succ_self n,hcont⟩
   ·obtain ⟨K',H',jc,h1,h2,h3,rfl,h4⟩:=hI
    obtain ⟨K2,h5,h6⟩:=hRel hD h1 h2 h3 hW;have hcl:∀ c,aj E.P E.G m nt c=some jc.strip→aV jc=true→c.wpIn Fence.wide 0 E.P (ve N K (vn dec E (n+1) fn H0 k r)) { act with defers:=yJ D::act.defers } W:=fun c hc hn=>by
     have:=IH n (Nat.lt_succ_self n) fn H0 jc k a H' r hcont N m nt c (fun _=>.inr hn) hnt hc K2 _ W (h5.glob.trans hg) h6;rw [hF] at this;exact wpIn_mono this fun _ _ _ hl=>hl.mono h5 fun _ _ _ ⟨j,hj,h⟩=>⟨j,by omega,h⟩
    rcases h4 with ⟨rfl,rfl⟩ | ⟨id,rfl,rfl⟩
    ·exact hcl _ rfl rfl
    ·exact hcl _ rfl rfl
  ·cases h
 ·cases h
theorem x3{n:Nat}(hC:∀ j,j<n→j8 dec E j)(hE:E.Ok)(IH:∀ j,j<n→qZ dec E j):qZ dec E n:=by
  intro fn H0 ac k a H r h N m nt c hN hnt hc;cases n with
  |zero=>cases h
  |succ n=>
   by_cases hlv:∃ ax l,ac = .seq ax (.lv l)
   ·obtain ⟨ax,l,rfl⟩:=hlv
    have hc':aj E.P E.G m nt c=some ax.strip:=by simpa [AC.strip] using hc
    have h1:ev dec E n fn H0 (.c ax :: .c (.lv l)::k) a H=some r:=h;refine zO ((IH n (Nat.lt_succ_self n) fn H0 ax (.c (.lv l)::k) a H r h1 N m nt c (fun e=>(hN e).imp id fun h=>by simpa [aV] using h) hnt hc')) fun e a' H' hp => ?_
    by_cases he:e = .normal
    ·subst he
     obtain ⟨j,hj,h2⟩:=hp;have h2':ev dec E j fn H0 (.c (.lv l)::k) a' H'=some r:=h2;cases j with
     |zero=>cases h2'
     |succ j=>exact ⟨qV a' l,fun K act w hr=>hr.keep l,j,by omega,h2'⟩
    ·exact ⟨a',fun K act w hr=>hr,oT (n':=n+1) (k':=k) (Nat.le_succ n) (fun x a H m hx=>Be hx) he hp⟩
   have hseq:∀ x y,ac = .seq x y→ac.strip = .seq x.strip y.strip:=fun x y e=>by
    rw [e];exact yX fun l hl=>hlv ⟨x,l,by rw [e,hl]⟩
   cases c with
   |skip=>
    have:ac.strip = .skip:=by simpa [aj] using hc.symm
    cases ac<;>(try rw [hseq _ _ rfl] at this)<;>simp [AC.strip] at this
    exact zh ⟨n,Nat.lt_succ_self n,h⟩
   |label l=>
    have:ac.strip = .lbl l:=by simpa [aj] using hc.symm
    cases ac<;>(try rw [hseq _ _ rfl] at this)<;>simp [AC.strip] at this
    exact yK ⟨n,Nat.lt_succ_self n,h⟩
   |goto l=>
    have:ac.strip = .goto l:=by simpa [aj] using hc.symm
    cases ac<;>(try rw [hseq _ _ rfl] at this)<;>simp [AC.strip] at this
    subst this;exact zj ⟨n,Nat.lt_succ_self n,h⟩
   |exit id=>
    have:ac.strip = .exit id:=by simpa [aj] using hc.symm
    cases ac<;>(try rw [hseq _ _ rfl] at this)<;>simp [AC.strip] at this
    subst this;exact zi ⟨n,Nat.lt_succ_self n,h⟩
   |refuse s=>
    have:ac.strip = .bad:=by simpa [aj] using hc.symm
    cases ac<;>(try rw [hseq _ _ rfl] at this)<;>simp [AC.strip] at this
    cases h
   |ret=>
    have:ac.strip = .ret:=by simpa [aj] using hc.symm
    cases ac<;>(try rw [hseq _ _ rfl] at this)<;>simp [AC.strip] at this
    exact Aq ⟨n,Nat.lt_succ_self n,h⟩
   |seq x y=>
    simp only [aj] at hc;split at hc
    ·rename_i x' hx
     split at hc
     ·rename_i y' hy
      simp only [Option.some.injEq] at hc;cases ac<;>(try rw [hseq _ _ rfl] at hc)<;>simp [AC.strip] at hc
      rename_i ax ay;obtain ⟨rfl,rfl⟩:=hc;have h1:ev dec E n fn H0 (.c ax :: .c ay::k) a H=some r:=h;refine Ar ((IH n (Nat.lt_succ_self n) fn H0 ax (.c ay::k) a H r h1 N m nt x (fun e=>(hN e).imp id fun h=>(zP h).1) hnt hx).mono fun e a' H' hp => ?_)
      by_cases he:e = .normal
      ·subst he
       obtain ⟨j,hj,h2⟩:=hp;exact (IH j (by omega) fn H0 ay k a' H' r h2 N m nt y (fun e=>(hN e).imp id fun h=>(zP h).2) hnt hy).mono fun e2 a2 H2 ⟨j2,hj2,h3⟩=>⟨j2,by omega,h3⟩
      ·have:=oT (n':=n+1) (k':=k) (Nat.le_succ n) (fun x a H m hx=>Be hx) he hp
       cases e<;>first | exact absurd rfl he | exact this
     ·cases hc
    ·cases hc
   |cond cx x y=>
    simp only [aj] at hc;split at hc
    ·rename_i x' hx
     split at hc
     ·rename_i y' hy
      simp only [Option.some.injEq] at hc;cases ac<;>(try rw [hseq _ _ rfl] at hc)<;>simp [AC.strip] at hc
      rename_i ax ay;obtain ⟨rfl,rfl,rfl⟩:=hc;simp only [ev] at h;split at h
      ·rename_i b hb
       rw [xd] at hb;refine zk hb ?_;split at h
       ·rename_i e
        rw [if_pos e];exact (IH n (Nat.lt_succ_self n) fn H0 _ k a H r h N m nt x (fun e=>(hN e).imp id fun h=>(yv h).1) hnt hx).mono fun e2 a2 H2 ⟨j2,hj2,h3⟩=>⟨j2,by omega,h3⟩
       ·rename_i e
        rw [if_neg e];exact (IH n (Nat.lt_succ_self n) fn H0 _ k a H r h N m nt y (fun e=>(hN e).imp id fun h=>(yv h).2) hnt hy).mono fun e2 a2 H2 ⟨j2,hj2,h3⟩=>⟨j2,by omega,h3⟩
      ·cases h
     ·cases hc
    ·cases hc
   |block id x=>
    simp only [aj] at hc;split at hc
    ·rename_i x' hx
     simp only [Option.some.injEq] at hc;cases ac<;>(try rw [hseq _ _ rfl] at hc)<;>simp [AC.strip] at hc
     rename_i ax;obtain ⟨rfl,rfl⟩:=hc;have h1:ev dec E n fn H0 (.c ax :: .blk id::k) a H=some r:=h;refine yL ((IH n (Nat.lt_succ_self n) fn H0 ax (.blk id::k) a H r h1 N m nt x (fun e=>(hN e).imp (fun h=>h) fun h=>h) hnt hx).mono fun e a' H' hp => ?_);obtain ⟨j,hj,h2⟩:=hp;cases e with
     |normal=>
      have h2':ev dec E j fn H0 (.blk id::k) a' H'=some r:=h2;cases j with
      |zero=>cases h2'
      |succ j=>exact ⟨j,by omega,h2'⟩
     |exit id'=>
      simp only [evX,unw] at h2;show if id'=id then _ else _
      by_cases e:id'=id
      ·rw [if_pos e]
       rw [if_pos e.symm] at h2;exact ⟨j,by omega,h2⟩
      ·rw [if_neg e]
       rw [if_neg (fun h=>e h.symm)] at h2;exact ⟨j,by omega,h2⟩
     |ret=>exact ⟨j,by omega,h2⟩
     |panic v=>exact ⟨j,by omega,h2⟩
     |goto l=>exact ⟨j,by omega,h2⟩
    ·cases hc
   |loop x=>
    simp only [aj] at hc;split at hc
    ·rename_i x' hx
     simp only [Option.some.injEq] at hc;cases ac<;>(try rw [hseq _ _ rfl] at hc)<;>simp [AC.strip] at hc
     rename_i lh ax;subst hc;have h1:ev dec E n fn H0 (.c ax :: .lp lh ax (j7 lh a H).2::k) (j7 lh a H).1 (j7 lh a H).2=some r:=h;refine AK (a':=(j7 lh a H).1) (H':=(j7 lh a H).2) (fun K act w hr=>wI lh hr) ?_;refine wH (fun j a H=>j≤n∧ev dec E j fn H0 (.c ax :: .lp lh ax H::k) a H=some r) n ⟨Nat.le_refl n,h1⟩ ?_;rintro j a1 H1 ⟨hj,h2⟩;refine (IH j (by omega) fn H0 ax (.lp lh ax H1::k) a1 H1 r h2 N m nt x (fun e=>(hN e).imp id fun h=>h) hnt hx).mono fun e a' H' hp => ?_
     by_cases he:e = .normal
     ·subst he
      obtain ⟨j2,hj2,h3⟩:=hp;have h3':ev dec E j2 fn H0 (.lp lh ax H1::k) a' H'=some r:=h3;cases j2 with
      |zero=>cases h3'
      |succ j2=>
       simp only [ev] at h3';split at h3'
       ·rename_i a2 H2 hb
        exact ⟨j2,a2,H2,by omega,⟨by omega,h3'⟩,uz hb⟩
       ·cases h3'
     ·have:=oT (n':=n+1) (k':=k) (by omega) (fun x a H m hx=>Bv hx) he hp
      cases e<;>first | exact absurd rfl he | exact this
    ·cases hc
   |region id ops draw=>
    simp only [aj] at hc;split at hc
    ·rename_i ros hros
     cases draw with
     |false=>
      simp only [Bool.false_eq_true,if_false,Option.some.injEq] at hc;cases ac<;>(try rw [hseq _ _ rfl] at hc)<;>simp [AC.strip] at hc
      subst hc;intro K act w hg hr;exact wpIn_region (AL hE (n:=n+1) hC hnt hg ops.toList ros (List.range ops.size) (n+1) K a H act w (Nat.le_refl _) h hros (vM ops) (.refl K) hr)
     |true=>
      simp only [if_true] at hc;unfold yl at hc;split at hc
      ·rename_i hu
       obtain ⟨q,s,ord,hmem,hlen,hlex,hac⟩:=q2 hc;have hq:q≠.pure:=by
        intro e;subst e;simp at hmem
       have hac2:ac = .dops s [] [] (ord.map fun k=>(ros.getD k default,wB (m id) ops ros q s ord k)):=by
        cases ac<;>(try rw [hseq _ _ rfl] at hac)<;>simp [AC.strip] at hac
        obtain ⟨rfl,rfl,rfl,rfl⟩:=hac;rfl
       subst hac2;obtain ⟨Tf,Lf,_,_,_,_,h5⟩:=oS hE (n:=n+1) hC hnt hros (yu (m id) ops ros q s ord) ord [] [] (n+1) a H (yt hlex) (Nat.le_refl _) h;exact yU (wB (m id) ops ros q s ord) (Cb hq hros hu (yu (m id) ops ros q s ord)) (KpT Tf) ord KpT.trans hE.mixed hlen hlex (h5 (.inl rfl))
      ·cases hc
    ·cases hc
   |scope x=>
    simp only [aj] at hc;split at hc
    ·rename_i x' hx
     simp only [Option.some.injEq] at hc;cases ac<;>(try rw [hseq _ _ rfl] at hc)<;>simp [AC.strip] at hc
     rename_i ax t;obtain ⟨rfl,ht⟩:=hc;have h1:ev dec E n fn H0 (.c ax :: .sc t::k) a H=some r:=h;have hNx:fn.dfr=none→(N.rd=none∧N.mks=true)∨aV ax=true:=fun e=>(hN e).imp id fun h=>by simp [aV] at h;exact h.1
     have hNt:∀ l r',nP t l=some r'→fn.dfr=none→(N.rd=none∧N.mks=true)∨aV r'=true:=fun l r' hf e=>(hN e).imp id fun h=>by
      simp only [aV,Bool.and_eq_true] at h;exact xt t l r' hf h.2
     have post:∀ (j:Nat) (e:bo) (a':Env) (H':List AObj),j≤n→vn dec E j fn H0 (.sc t::k) r e a' H'→match e with
       |.goto l => ∃ m',m'<j∧∃ r',nP t l=some r'∧ev dec E m' fn H0 (.c r' :: .sc t::k) a' H'=some r
       |e=>vn dec E (n+1) fn H0 k r e a' H':=fun j e a' H' hj hp=>by
      obtain ⟨j2,hj2,h2⟩:=hp;cases e with
      |normal=>
       have h2':ev dec E j2 fn H0 (.sc t::k) a' H'=some r:=h2;cases j2 with
       |zero=>cases h2'
       |succ j2=>exact ⟨j2,by omega,h2'⟩
      |goto l=>
       simp only [evX,jmp] at h2;split at h2
       ·rename_i k' hk'
        split at hk'
        ·rename_i r' hr'
         cases hk';exact ⟨j2,hj2,r',hr',h2⟩
        ·cases hk'
       ·cases h2
      |exit id=>exact ⟨j2,by omega,h2⟩
      |ret=>exact ⟨j2,by omega,h2⟩
      |panic v=>exact ⟨j2,by omega,h2⟩
     refine yM (fun j l a H=>j≤n∧∃ r',nP t l=some r'∧ev dec E j fn H0 (.c r' :: .sc t::k) a H=some r) n ?_ ?_
     ·refine (IH n (Nat.lt_succ_self n) fn H0 ax (.sc t::k) a H r h1 N m nt x hNx hnt hx).mono fun e a' H' hp => ?_
      have:=post n e a' H' (Nat.le_refl n) hp;cases e<;>first | exact this | (obtain ⟨m',h2,h3⟩:=this;exact ⟨m',by omega,by omega,h3⟩)
     ·rintro j l a1 H1 ⟨hj,r',hf,h2⟩
      obtain ⟨rest,e1,e2⟩:=(qa x _ hx l).2 _ (uF (wC ax.strip).eraseDups l _ (by rw [ht];exact findT_strip t l r' hf));refine ⟨rest,e1,(IH j (by omega) fn H0 r' (.sc t::k) a1 H1 r h2 N m nt rest (hNt l r' hf) hnt e2).mono fun e a' H' hp => ?_⟩;have:=post j e a' H' hj hp;cases e<;>first | exact this | (obtain ⟨m',h2,h3⟩:=this;exact ⟨m',h2,by omega,h3⟩)
    ·cases hc
   |rangeFunc g ps y z=>
    simp only [aj] at hc;split at hc
    ·rename_i y' hy
     split at hc
     ·rename_i l' z' hya hz
      split at hc
      ·rename_i hps
       simp only [Option.some.injEq] at hc;cases ac<;>(try rw [hseq _ _ rfl] at hc)<;>simp [AC.strip] at hc
       rename_i gx ps' ay az;obtain ⟨rfl,rfl,rfl,rfl⟩:=hc;exact yY hC hE IH h hN hnt hy hya hz hps
      ·cases hc
     ·cases hc
    ·cases hc
end
end Go.Am
end
section
namespace Go.Am
open Go.RowKit
theorem x4{c A B:Code}{id:Nat}{ops:Array Oper}{os:List Oper}{o:Oper}(h:xS c=some (A,id,ops,os,o,B)):c = .seq A (.seq (.region id ops false) B)∧ops.toList=os++[o]:=by
 unfold xS at h;split at h
 ·split at h
  ·rename_i o' os' hrev
   split at h
   ·simp only [Option.some.injEq,Prod.mk.injEq] at h
    obtain ⟨rfl,rfl,rfl,rfl,rfl,rfl⟩:=h;refine ⟨rfl, ?_⟩;have:=congrArg List.reverse hrev;simpa using this
   ·cases h
  ·cases h
 ·cases h
section
variable{dec:Dec}{E:du}
theorem yZ{P:Program}{G:Nat→Option (List AV)}{m:Nat→Bool}{n:Nat}{A B:Code}{id:Nat}{ops:Array Oper}{os:List Oper}{o:Oper}{a b:AC}{l:List RO}{x:RX}
  (h:zy P G m n (A,id,ops,os,o,B)=some (a,l,x,b)):∃ c f,o.op = .defer c∧c.callee = .value f∧o.guard=none∧o.dst=none∧c.args = #[]∧aj P G m n A=some a∧qT P G (m id) n ops os=some l∧aj P G m n B=some b∧x=cx0 G f:=by
 unfold zy at h;simp only at h;split at h
 ·rename_i c hop
  split at h
  ·rename_i f hcal
   split at h
   ·rename_i hc
    simp only [Bool.and_eq_true,Option.isNone_iff_eq_none,Array.isEmpty_iff] at hc;split at h
    ·rename_i a' l' b' e1 e2 e3
     simp only [Option.some.injEq,Prod.mk.injEq] at h;obtain ⟨rfl,rfl,rfl,rfl⟩:=h;exact ⟨c,f,hop,hcal,hc.1.1,hc.1.2,hc.2,e1,e2,e3,rfl⟩
    ·cases h
   ·cases h
  ·cases h
 ·cases h
theorem xv(hE:E.Ok){n:Nat}(hCl:qZ dec E n){g:FuncId}{args:List AV}{d:Nat}{fn':AFn}(hd:E.dfn g=some (d,fn')){p:AV}{H H':List AObj}{r:AV}
  (h:ev dec E n fn' H [.c fn'.c] (pZ (env args) d p) H=some (.ret r,H')) {K:aa}{w:World}{cargs:Array Value} (hg:K.glob=E.G) (hi:Inv K H w) (hv:Vs K args cargs) {u u':FrameMode}{pv:Value} (hp:V K p pv)
  (hrec:∀ (c₀:Frame) (cs:List Frame),c₀.mode=u→(recoverD (c₀::cs)=some (pv,{ c₀ with mode:=u' }::cs))∨(recoverD (c₀::cs)=none∧pv = .nilIface∧c₀::cs = { c₀ with mode:=u' }::cs)) :
  CallsD E.P g cargs u w fun e u2 w2 => ∃ v,e = .returned v∧u2=u'∧∃ K2,K.le K2∧Inv K2 H' w2:=by
 obtain ⟨hcomp,hdf⟩:=hE.dfn g d fn' hd;unfold xo at hcomp;split at hcomp
 ·cases hcomp
 ·rename_i fnc hf
  split at hcomp
  ·cases hcomp
  ·split at hcomp
   ·rename_i id ops B hb
    split at hcomp
    ·rename_i o hops
     split at hcomp
     ·rename_i c d' hop hdst
      split at hcomp
      ·rename_i hcal
       split at hcomp
       ·rename_i hcond
        simp only [Bool.and_eq_true,Option.isNone_iff_eq_none,decide_eq_true_eq] at hcond;split at hcomp
        ·rename_i b rs hB hrs
         split at hcomp
         case isFalse=>cases hcomp
         rename_i hnr;simp only [Option.some.injEq,Prod.mk.injEq] at hcomp;obtain ⟨rfl,rfl,h2,h3⟩:=hcomp;have hw:=hCl fn' H fn'.c [] _ H (.ret r,H') h { n:=args.length+(fnc.ntmps-args.length),free:=fun b=>K.shape b=none,mks:=false } _ fnc.ntmps B (fun _=>.inr (by rw [← zQ];exact hnr)) (show fnc.ntmps≤args.length+(fnc.ntmps-args.length) from by omega) hB;refine callsD_of_wpS hf hb fun c₀ cs hm=>wpS_seq (wpS_region ?_)
         have hsz:ops.size=1:=by rw [← Array.length_toList,hops];rfl
         have ho:ops[0]?=some o:=by rw [← Array.getElem?_toList,hops];rfl
         have hrun:∀ (act:Act),(execOp act.eval o).run E.P w = .ok .recover w:=fun act=>by
          unfold execOp;simp only [hop,resolve,hcal,pure_bind,invoke];rfl
         rw [hsz,show List.range 1=[0] from rfl];simp only [wpOpsS,ho,Region.wanted,hcond.1,if_true,hrun];have rest:∀ cs',cs' = { c₀ with mode:=u' }::cs→B.wpS E.P (bodyPostS E.P fnc c₀ cs fun e u2 w2 => ∃ v,e = .returned v∧u2=u'∧∃ K2,K.le K2∧Inv K2 H' w2)
           (({ tmps:=cargs++Array.replicate (fnc.ntmps-cargs.size) undef,defers:=[] }:Act).put o.dst pv) cs' w:=by
          rintro cs' rfl;refine wpS_of_wp ((wpIn_wide (n:=0)).1 (wpIn_mono (hw K _ w hg ?_) ?_))
          ·rw [hdst]
           have h0:Rel { n:=args.length+(fnc.ntmps-args.length),free:=fun b=>K.shape b=none,mks:=false } K (env args) H { tmps:=cargs++Array.replicate (fnc.ntmps-cargs.size) undef,defers:=[] } w:=
            ⟨hi,.none fun _ h=>h,by simp [← hv.size],fun t=>rD hv _ t⟩
           exact h0.put (.refl K) hi (dst:=some d') hp (fun d e=>by cases e;exact Nat.lt_of_lt_of_le hcond.2 (show fnc.ntmps≤args.length+(fnc.ntmps-args.length) from by omega))
          ·rintro e act w' ⟨K',x,a',H2,hk,he,hr,m,hm2,hx⟩
           cases x with
           |normal=>
            cases e<;>first | exact (he:False).elim | skip
            have hx':ev dec E m fn' H [] a' H2=some (.ret r,H'):=hx;cases m with
            |zero=>cases hx'
            |succ m=>
             simp only [ev,hdf] at hx';obtain ⟨cv,h5,K2,r2,H3,h6,h7,h8,h9,h10⟩:=pz h3 hrs hi hk hr hx';subst h10;exact ⟨hr.defers.bare rfl,u',rfl,cv,h5,cv,rfl,rfl,K2,h6,h8⟩
           |ret=>
            cases e<;>first | exact (he:False).elim | skip
            simp only [evX,qW,hdf] at hx;obtain ⟨cv,h5,K2,r2,H3,h6,h7,h8,h9,h10⟩:=pz h3 hrs hi hk hr hx;subst h10;exact ⟨hr.defers.bare rfl,u',rfl,cv,h5,cv,rfl,rfl,K2,h6,h8⟩
           |panic v=>
            simp only [evX,eA,hdf] at hx;unfold Bo at hx;split at hx<;>cases hx
           |exit id=>simp [evX,unw,uj,j6] at hx
           |goto l=>simp [evX,jmp] at hx
         rcases hrec c₀ cs hm with h1 | ⟨h1,h2,h3⟩
         ·rw [h1]
          exact rest _ rfl
         ·rw [h1]
          subst h2;exact rest _ h3
        ·cases hcomp
       ·cases hcomp
      ·cases hcomp
     ·cases hcomp
    ·cases hcomp
   ·cases hcomp
end
end Go.Am
end
section
namespace Go.Am
open Go.RowKit
section
variable{dec:Dec}{E:du}
theorem xw{P:Program}{G:Nat→Option (List AV)}{g:FuncId}{x:Nat×AC×Nat×List pB}(h:xo P G g=some x)(args:Array Value)(w:World):(callFunc g args).run P w = .ok (.enter g args) w:=by
 unfold xo at h;split at h
 ·cases h
 ·rename_i fn hf
  split at h
  ·cases h
  ·rename_i hn
   split at h
   ·rename_i hb
    exact db hf (by simpa using hn) (by rw [hb];rfl) args w
   ·cases h
theorem sN(hE:E.Ok){n:Nat}(hCl:qZ dec E n){fn':AFn}{fnc:Func}{rs:List pB}(h3:rs=fn'.res)(hrs:nU E.P fnc.results.toList=some rs){N:Fr}{K K':aa}{H H2 H3:List AObj}{w w':World}{a':Env}{act:Act}{r:ou}{H':List AObj}
  (hi:Inv K H w) (hk:K.le K') (hr:Rel N K' a' H2 act w') {v p:AV} (hcall:uq E (ev dec E n) v p H2=some H3) (hf:fin dec fn' H a' H3=some (r,H')) (hg:K.glob=E.G) {g2:FuncId}{vs us:Array Value} (hv:V K' v (.func (.func g2) vs us)) {pv:Value} (hp:V K' p pv) {u u':FrameMode}
  (hu:u≠.run) (hrec:∀ (c₀:Frame) (cs:List Frame),c₀.mode=u→(recoverD (c₀::cs)=some (pv,{ c₀ with mode:=u' }::cs))∨(recoverD (c₀::cs)=none∧pv = .nilIface∧c₀::cs = { c₀ with mode:=u' }::cs)) (hs:settle u' = .returning) :
  Leaves E.P fnc act.tmps (qz K fun r2 H2=>r2=r∧H2=H') [{ target:=.fn (.func g2) us,args:=vs }] u w':=by
 unfold uq at hcall;split at hcall
 ·rename_i g first cap
  split at hcall
  ·rename_i d fd hd
   split at hcall
   ·rename_i rv H4 hev
    cases hcall;obtain ⟨vs',us',hve,h1,h2⟩:=hv.fn_inv;cases hve;obtain ⟨hcomp,hdf⟩:=hE.dfn _ d fd hd;have hargs:=h1.append h2;refine leaves_cons hu (f:=g2) (args:=vs++us) ?_ ?_
    ·have:=xw hcomp (vs++us) w'
     exact this
    ·refine (xv hE hCl hd hev (hk.glob.trans hg) hr.inv hargs hp hrec).mono ?_
     rintro e u2 w2 ⟨v2,rfl,rfl,K2,hk2,hi2⟩;simp only [hs];have hr2:Rel N K2 a' _ act w2:=⟨hi2,hr.defers.mono hk2,hr.size,fun t=>(hr.tmps t).mono hk2⟩
     obtain ⟨cv,h5,h6⟩:=pz h3 hrs hi (hk.trans hk2) hr2 hf;exact ⟨cv,h5,h6⟩
   ·cases hcall
  ·cases hcall
 ·cases hcall
theorem zR(hE:E.Ok){n:Nat}(hC:∀ j,j<n→j8 dec E j)(hc:∀ j,j≤n→qZ dec E j){g:FuncId}{fn':AFn}{fnc:Func}{rs:List pB}{args:List AV}{H:List AObj}{r:ou}{H':List AObj}
  {l:List RO}{x:RX}{aB:AC} (hdf:fn'.dfr=some (l,x,aB)) (hf:E.P.funcs[g]?=some fnc)
  (hname:(fnc.name == "runtime.NumGoroutine")=false) {A B:Code}{id:Nat}{ops:Array Oper}{os:List Oper}{o:Oper} (hb:fnc.body=some (.seq A (.seq (.region id ops false) B))) (hops:ops.toList=os++[o])
  (h3:rs=fn'.res) (hrs:nU E.P fnc.results.toList=some rs) (hA:aj E.P E.G (fn'.muts.contains ·) fnc.ntmps A=some fn'.c.strip) (hB:aj E.P E.G (fn'.muts.contains ·) fnc.ntmps B=some aB.strip)
  (hros:qT E.P E.G (fn'.muts.contains id) fnc.ntmps ops os=some l) {c:Call}{f:Operand} (hop:o.op = .defer c) (hcal:c.callee = .value f) (hgd:o.guard=none) (hdst:o.dst=none) (hca:c.args = #[]) (hx:x=cx0 E.G f)
  (h:ev dec E n fn' H [.c fn'.c,.c (.ops l),.df x aB] (env args) H=some (r,H')):aC E.P E.G g args H fun r2 H2=>r2=r∧H2=H':=by
 have hnt:fnc.ntmps≤args.length+(fnc.ntmps-args.length):=by omega
 have hw:=hc n (Nat.le_refl n) fn' H fn'.c [.c (.ops l),.df x aB] (env args) H (r,H') h { n:=args.length+(fnc.ntmps-args.length),mks:=false } _ fnc.ntmps A (fun e=>by rw [hdf] at e;cases e) hnt hA;intro K w cargs hg hi hv;refine .inl ⟨db hf hname (by simp [hb]) cargs w, ?_⟩;refine calls_of_wp_defers hf hb ((wpIn_wide (n:=0)).1 (wpIn_seq (wpIn_mono (hw K _ w hg ⟨hi,.none fun _ _=>trivial,by simp [← hv.size],fun t=>rD hv _ t⟩) ?_)))
 rintro e act w' ⟨K',xe,a',H2,hk,he,hr,m,hm,hx'⟩;cases xe with
 |normal=>
  cases e<;>first | exact (he:False).elim | skip
  have hx2:ev dec E m fn' H [.c (.ops l),.df x aB] a' H2=some (r,H'):=hx';refine wpIn_seq (wpIn_region ?_);have hsz:List.range ops.size=List.range os.length++[os.length]:=by
   rw [← Array.length_toList,hops];simp [List.range_succ]
  rw [hsz];refine oR hE (n:=n) hC (N := { n:=args.length+(fnc.ntmps-args.length),mks:=false }) hnt hg (l2:=[os.length]) ?_ ?_ os l (List.range os.length) m K' a' H2 act w' (by omega) hx2 hros ?_ hk hr
  ·
   intro j K1 a1 H1 act1 w1 hj hk1 hr1 hev;cases j with
   |zero=>cases hev
   |succ j=>
    simp only [ev] at hev;split at hev
    ·rename_i g2 first cap hfe
     split at hev
     ·rename_i hsome
      have ho:ops[os.length]?=some o:=by rw [← Array.getElem?_toList,hops];simp
      rw [wpOpsIn_cons,wpOpIn,ho];have hfv:=cG (hk1.glob.trans hg) hr1 f;rw [← hx,hfe] at hfv;obtain ⟨vs,us,hfv2,h1,h2⟩:=hfv.fn_inv;have hrun:(execOp act1.eval o).run E.P w1 = .ok (.defer { target:=.fn (.func g2) us,args:=vs }) w1:=by
       unfold execOp;simp only [hop,resolve,hcal,hfv2,hca,pure_bind,Deferred.ofValue,Array.map_empty,Array.append_empty];rfl
      simp only [Region.wanted,hgd,if_true];refine ⟨fun f _=>trivial, ?_⟩;rw [show Oper.semAt (Fence.round _) act1.eval o=execOp act1.eval o from rfl,hrun,Oper.uponIn_defer,hdst];have hd0:act1.defers=[]:=hr1.defers.bare rfl;have hr2:Rel { n:=args.length+(fnc.ntmps-args.length),mks:=false,ds:=[{ target:=.fn (.func g2) us,args:=vs }] } K1 a1 H1 (({ act1 with defers := { target:=.fn (.func g2) us,args:=vs }::act1.defers }:Act).put none undef) w1:=
       ⟨hr1.inv,by rw [hd0];exact .none fun _ _=>trivial,hr1.size,hr1.tmps⟩
      show Code.wpIn Fence.wide 0 E.P B _ _ w1;refine wpIn_mono (hc j (by omega) fn' H aB [.dr (.fn (.func g2) first cap)] a1 H1 (r,H') hev _ _ fnc.ntmps B (fun e=>by rw [hdf] at e;cases e) hnt hB K1 _ w1 (hk1.glob.trans hg) hr2) ?_;rintro e act2 w2 ⟨K2,x2,a2,H3,hk2,he2,hr3,m2,hm2,hx3⟩;have hfv3:V K2 (.fn (.func g2) first cap) (.func (.func g2) vs us):=by
       rw [← hfv2];exact hfv.mono hk2
      have hds:act2.defers=[{ target:=.fn (.func g2) us,args:=vs }]:=hr3.defers.bare rfl;have hk3:=hk1.trans hk2;have plain:∀ m3,m3≤n→qW dec E (ev dec E m3) fn' H [.dr (.fn (.func g2) first cap)] a2 H3=some (r,H')→Leaves E.P fnc act2.tmps (qz K fun r2 H2=>r2=r∧H2=H') act2.defers .returning w2:=fun m3 hm3 hx4=>by
       simp only [qW,hdf,j6] at hx4;split at hx4
       ·rename_i H4 hcl
        rw [hds];refine sN hE (hc m3 hm3) h3 hrs hi hk3 hr3 hcl hx4 hg hfv3 (.nilif) (u:=.returning) (u':=.returning) (by simp) (fun c₀ cs hm=>.inr ⟨by simp [recoverD,hm],rfl,by rw [← hm]⟩) rfl
       ·cases hx4
      cases x2 with
      |normal=>
       cases e<;>first | exact (he2:False).elim | skip
       have hx4:ev dec E m2 fn' H [.dr (.fn (.func g2) first cap)] a2 H3=some (r,H'):=hx3;cases m2 with
       |zero=>cases hx4
       |succ m2=>exact plain m2 (by omega) hx4
      |ret=>
       cases e<;>first | exact (he2:False).elim | skip
       exact plain m2 (by omega) hx3
      |panic v=>
       cases e<;>first | exact (he2:False).elim | skip
       obtain ⟨cv,rfl,hcv⟩:=he2;simp only [evX,eA,hdf,j6] at hx3;split at hx3
       ·rename_i H4 hcl
        show Leaves E.P fnc act2.tmps _ act2.defers _ w2;rw [hds];refine sN hE (hc m2 (by omega)) h3 hrs hi hk3 hr3 hcl hx3 hg hfv3 hcv (u:=.panicking [{ v:=cv,recovered:=false }]) (u':=.panicking [{ v:=cv,recovered:=true }]) (by simp) (fun c₀ cs hm=>.inl (by simp [recoverD,hm])) rfl
       ·cases hx3
      |exit id=>simp [evX,unw,uj,j6] at hx3
      |goto l=>simp [evX,jmp] at hx3
     ·cases hev
    ·cases hev
  ·intro j K1 a1 H1 act1 w1 v cv hj hk1 hv1 hr1 hev
   simp [eA,hdf,j6] at hev
  ·refine List.ext_getElem? fun i => ?_
   rw [List.getElem?_map,List.getElem?_map]
   by_cases hi':i<os.length
   ·rw [List.getElem?_range hi']
    simp only [Option.map_some];rw [← Array.getElem?_toList,hops,List.getElem?_append_left hi',List.getElem?_eq_getElem hi'];rfl
   ·rw [List.getElem?_eq_none (by simp;omega),List.getElem?_eq_none (by omega)]
    rfl
 |ret=>simp [evX,qW,hdf,j6] at hx'
 |panic v=>simp [evX,eA,hdf,j6] at hx'
 |exit id=>simp [evX,unw,uj,j6] at hx'
 |goto l=>simp [evX,jmp] at hx'
theorem y0(hE:E.Ok){n:Nat}(hC:∀ j,j<n→j8 dec E j)(hc:∀ j,j≤n→qZ dec E j):j8 dec E n:=by
 intro g args H r H' h;unfold qY zD at h;split at h
 ·rename_i fn' hfn
  have hcomp:=hE.fn g fn' hfn;unfold zA at hcomp;split at hcomp
  ·cases hcomp
  ·rename_i fnc hf
   split at hcomp
   ·cases hcomp
   ·rename_i hname
    split at hcomp
    ·cases hcomp
    ·rename_i c hb
     split at hcomp
     ·cases hcomp
     ·rename_i rs hrs
      split at hcomp
      ·rename_i hsp
       split at hcomp
       ·cases hcomp
       ·rename_i ac hac
        simp only [Option.some.injEq,Prod.mk.injEq] at hcomp;obtain ⟨rfl,h2,h3,h4⟩:=hcomp;have hdf:fn'.dfr=none:=by
         cases hd:fn'.dfr with
         |none=>rfl
         |some x=>rw [hd] at h4;cases h4
        simp only [hdf] at h;exact xW (hc n (Nat.le_refl n)) hdf hf (by simpa using hname) hb h3 hrs hac h
      ·rename_i x hsp
       split at hcomp
       ·cases hcomp
       ·rename_i ac l y B hcd
        simp only [Option.some.injEq,Prod.mk.injEq] at hcomp;obtain ⟨rfl,h2,h3,h4⟩:=hcomp;obtain ⟨A0,id,ops,os,o,B0⟩:=x;obtain ⟨rfl,hops⟩:=x4 hsp;obtain ⟨cc,f,e1,e2,e3,e4,e5,e6,e7,e8,e9⟩:=yZ hcd;cases hd:fn'.dfr with
        |none=>rw [hd] at h4;cases h4
        |some x=>
         obtain ⟨l',x',aB⟩:=x;rw [hd] at h4;simp only [Option.map_some,Option.some.injEq,Prod.mk.injEq] at h4;obtain ⟨rfl,rfl,rfl⟩:=h4;simp only [hd] at h;exact zR hE hC hc hd hf (by simpa using hname) hb hops h3 hrs e6 e8 e7 e1 e2 e3 e4 e5 e9 h
 ·exact hE.orc g args H r H' h
theorem pA(hE:E.Ok):∀ n,qZ dec E n∧j8 dec E n:=by
 intro n;induction n using Nat.strongRecOn with
 |ind n ih=>
  have h1:=x3 (fun j hj=>(ih j hj).2) hE (fun j hj=>(ih j hj).1);exact ⟨h1,y0 hE (fun j hj=>(ih j hj).2) fun j hj=>by
   rcases Nat.lt_or_eq_of_le hj with h | rfl
   ·exact (ih j h).1
   ·exact h1⟩
end
end Go.Am
end
section
namespace Go.Am
mutual
def AV.eqb:AV→AV→Bool
 |.unk,.unk=>true
 |.bool a,.bool b=>a == b
 |.int k m,.int k' n=>decide (k=k')&&decide (m=n)
 |.str s,.str t=>decide (s=t)
 |.nilp,.nilp=>true
 |.ptr i o,.ptr i' o'=>Nat.beq i i'&&Nat.beq o o'
 |.vptr e r i o,.vptr e' r' i' o'=>Nat.beq e e'&&AV.eqbR r r'&&Nat.beq i i'&&Nat.beq o o'
 |.slice t e r,.slice t' e' r'=>decide (t=t')&&Nat.beq e e'&&AV.eqbR r r'
 |.rslice i o l e r,.rslice i' o' l' e' r'=>Nat.beq i i'&&Nat.beq o o'&&Nat.beq l l'&&Nat.beq e e'&&r == r'
 |.nilmap,.nilmap=>true
 |.map i,.map i'=>Nat.beq i i'
 |.vmap es,.vmap es'=>AV.eqbE es es'
 |.sdp t r,.sdp t' r'=>Nat.beq t t'&&AV.eqbR r r'
 |.fn (.func g) a b,.fn (.func g') a' b'=>Nat.beq g g'&&AV.eqbL a a'&&AV.eqbL b b'
 |.nilfn,.nilfn=>true
 |.iface t v,.iface t' v'=>Nat.beq t t'&&AV.eqb v v'
 |.nilif,.nilif=>true
 |.agg a,.agg b=>AV.eqbL a b
 |.tuple a,.tuple b=>AV.eqbL a b
 |_,_=>false
def AV.eqbL:List AV→List AV→Bool
 |[],[]=>true
 |x::l,y::m=>AV.eqb x y&&AV.eqbL l m
 |_,_=>false
def AV.eqbR:List (List AV)→List (List AV)→Bool
 |[],[]=>true
 |x::l,y::m=>AV.eqbL x y&&AV.eqbR l m
 |_,_=>false
def AV.eqbE:List (AV×AV)→List (AV×AV)→Bool
 |[],[]=>true
 |x::l,y::m=>AV.eqbP x y&&AV.eqbE l m
 |_,_=>false
def AV.eqbP:AV×AV→AV×AV→Bool
 |(x,y),(x',y')=>AV.eqb x x'&&AV.eqb y y'
end
mutual
theorem AV.eqb_eq:∀ {x y:AV},AV.eqb x y=true→x=y
 |.unk,y,h=>by cases y<;>simp [AV.eqb] at h;rfl
 |.bool a,y,h=>by cases y<;>simp [AV.eqb] at h;rw [h]
 |.int k m,y,h=>by cases y<;>simp [AV.eqb] at h;rw [h.1,h.2]
 |.str s,y,h=>by cases y<;>simp [AV.eqb] at h;rw [h]
 |.nilp,y,h=>by cases y<;>simp [AV.eqb] at h;rfl
 |.ptr i o,y,h=>by cases y<;>simp [AV.eqb] at h;rw [h.1,h.2]
 |.vptr e r i o,y,h=>by
  cases y<;>simp [AV.eqb] at h
  obtain ⟨⟨⟨h1,h2⟩,h3⟩,h4⟩:=h;rw [h1,AV.eqbR_eq h2,h3,h4]
 |.slice t e r,y,h=>by
  cases y<;>simp [AV.eqb] at h
  obtain ⟨⟨h1,h2⟩,h3⟩:=h;rw [h1,h2,AV.eqbR_eq h3]
 |.rslice i o l e r,y,h=>by
  cases y<;>simp [AV.eqb] at h
  obtain ⟨⟨⟨⟨h1,h2⟩,h3⟩,h4⟩,h5⟩:=h;rw [h1,h2,h3,h4,h5]
 |.nilmap,y,h=>by cases y<;>simp [AV.eqb] at h;rfl
 |.map i,y,h=>by cases y<;>simp [AV.eqb] at h;rw [h]
 |.vmap es,y,h=>by cases y<;>simp [AV.eqb] at h;rw [AV.eqbE_eq h]
 |.sdp t r,y,h=>by
  cases y<;>simp [AV.eqb] at h
  rw [h.1,AV.eqbR_eq h.2]
 |.fn (.func g) a b,.fn (.func g') a' b',h=>by
  simp [AV.eqb] at h;obtain ⟨⟨h1,h2⟩,h3⟩:=h;rw [h1,AV.eqbL_eq h2,AV.eqbL_eq h3]
 |.fn (.func g) a b,.fn (.method _) a' b',h=>by simp [AV.eqb] at h
 |.fn (.func g) a b,.fn (.methodOf _ _) a' b',h=>by simp [AV.eqb] at h
 |.fn (.func g) a b,.fn (.via _ _ _ _) a' b',h=>by simp [AV.eqb] at h
 |.fn (.func g) a b,.fn (.yield _) a' b',h=>by simp [AV.eqb] at h
 |.fn (.method _) a b,y,h=>by simp [AV.eqb] at h
 |.fn (.methodOf _ _) a b,y,h=>by simp [AV.eqb] at h
 |.fn (.via _ _ _ _) a b,y,h=>by simp [AV.eqb] at h
 |.fn (.yield _) a b,y,h=>by simp [AV.eqb] at h
 |.fn (.func g) a b,.unk,h=>by simp [AV.eqb] at h
 |.fn (.func g) a b,.bool _,h=>by simp [AV.eqb] at h
 |.fn (.func g) a b,.int _ _,h=>by simp [AV.eqb] at h
 |.fn (.func g) a b,.str _,h=>by simp [AV.eqb] at h
 |.fn (.func g) a b,.nilp,h=>by simp [AV.eqb] at h
 |.fn (.func g) a b,.ptr _ _,h=>by simp [AV.eqb] at h
 |.fn (.func g) a b,.vptr _ _ _ _,h=>by simp [AV.eqb] at h
 |.fn (.func g) a b,.slice _ _ _,h=>by simp [AV.eqb] at h
 |.fn (.func g) a b,.rslice _ _ _ _ _,h=>by simp [AV.eqb] at h
 |.fn (.func g) a b,.nilmap,h=>by simp [AV.eqb] at h
 |.fn (.func g) a b,.map _,h=>by simp [AV.eqb] at h
 |.fn (.func g) a b,.vmap _,h=>by simp [AV.eqb] at h
 |.fn (.func g) a b,.sdp _ _,h=>by simp [AV.eqb] at h
 |.fn (.func g) a b,.nilfn,h=>by simp [AV.eqb] at h
 |.fn (.func g) a b,.iface _ _,h=>by simp [AV.eqb] at h
 |.fn (.func g) a b,.nilif,h=>by simp [AV.eqb] at h
 |.fn (.func g) a b,.agg _,h=>by simp [AV.eqb] at h
 |.fn (.func g) a b,.tuple _,h=>by simp [AV.eqb] at h
 |.nilfn,y,h=>by cases y<;>simp [AV.eqb] at h;rfl
 |.iface t v,y,h=>by
  cases y<;>simp [AV.eqb] at h
  rw [h.1,AV.eqb_eq h.2]
 |.nilif,y,h=>by cases y<;>simp [AV.eqb] at h;rfl
 |.agg a,y,h=>by cases y<;>simp [AV.eqb] at h;rw [AV.eqbL_eq h]
 |.tuple a,y,h=>by cases y<;>simp [AV.eqb] at h;rw [AV.eqbL_eq h]
theorem AV.eqbL_eq:∀ {x y:List AV},AV.eqbL x y=true→x=y
 |[],y,h=>by cases y<;>simp [AV.eqbL] at h;rfl
 |x::l,y,h=>by
  cases y<;>simp [AV.eqbL] at h
  rw [AV.eqb_eq h.1,AV.eqbL_eq h.2]
theorem AV.eqbR_eq:∀ {x y:List (List AV)},AV.eqbR x y=true→x=y
 |[],y,h=>by cases y<;>simp [AV.eqbR] at h;rfl
 |x::l,y,h=>by
  cases y<;>simp [AV.eqbR] at h
  rw [AV.eqbL_eq h.1,AV.eqbR_eq h.2]
theorem AV.eqbE_eq:∀ {x y:List (AV×AV)},AV.eqbE x y=true→x=y
 |[],y,h=>by cases y<;>simp [AV.eqbE] at h;rfl
 |x::l,y,h=>by
  cases y<;>simp [AV.eqbE] at h
  rw [AV.eqbP_eq h.1,AV.eqbE_eq h.2]
theorem AV.eqbP_eq:∀ {x y:AV×AV},AV.eqbP x y=true→x=y
 |(x,x'),(y,y'),h=>by
  simp [AV.eqbP] at h;rw [AV.eqb_eq h.1,AV.eqb_eq h.2]
end
def AObj.eqb:AObj→AObj→Bool
 |.dead,.dead=>true
 |.cells a T,.cells b T'=>AV.eqbL a b&&Nat.beq T T'
 |.tok n T,.tok n' T'=>Nat.beq n n'&&Nat.beq T T'
 |.siter s n,.siter s' n'=>decide (s=s')&&Nat.beq n n'
 |.map a,.map b=>AV.eqbE a b
 |_,_=>false
theorem AObj.eqb_eq{x y:AObj}(h:AObj.eqb x y=true):x=y:=by
 cases x<;>cases y<;>simp [AObj.eqb] at h<;>try rfl
 ·rw [AV.eqbL_eq h.1,h.2]
 ·rw [h.1,h.2]
 ·rw [h.1,h.2]
 ·rw [AV.eqbE_eq h]
def mF:List AObj→List AObj→Bool
 |[],_=>true
 |x::l,y::m=>AObj.eqb x y&&mF l m
 |_,_=>false
theorem kX:∀ {H H':List AObj},mF H H'=true→H'.take H.length=H
 |[],_,_=>by simp
 |x::l,y,h=>by
  cases y<;>simp [mF] at h
  rw [← AObj.eqb_eq h.1];simp [kX h.2]
def Bf(L:List Nat)(H H':List AObj):Bool:=
 L.all fun id=>match H[id]? with
  |none=>true
  |some x=>match H'[id]? with
   |some y=>AObj.eqb x y
   |none=>false
theorem zS{L:List Nat}{H H':List AObj}(h:Bf L H H'=true):∀ id∈L,id<H.length→H'[id]?=H[id]? := fun id hid hlt=>by
 have:=List.all_eq_true.1 h id hid;rw [List.getElem?_eq_getElem hlt] at this ⊢;simp only at this;split at this
 ·rename_i y hy;rw [hy,AObj.eqb_eq this]
 ·cases this
def AN:Dec where
 frz _ _ _ _:=.no
 hand _ _ _:=.no
 back _ _ _ _:=.no
 ap T L:=if h:L.all (fun x => !T.contains x)=true then .yes (fun x hx ht=>by
   have:=List.all_eq_true.1 h x hx;simp [ht] at this) else .no
 wide _ _ _ _ _ _:=.no
 same H H':=if h:(mF H H'&&Nat.beq H.length H'.length)=true then .yes (by
   simp only [Bool.and_eq_true,Nat.beq_eq] at h;have:=kX h.1;rwa [h.2,List.take_length] at this) else .no
 keep H H':=if h:mF H H'=true then .yes (kX h) else .no
 ids L H H':=if h:Bf L H H'=true then .yes (zS h) else .no
end Go.Am
end
section
namespace Go.Am
open Go.RowKit
theorem rF{a b:Nat}(h:Nat.blt a b=true):a<b:=by rwa [Nat.blt_eq] at h
mutual
def wkb(n:Nat):AV→Bool
 |.unk | .bool _ | .int _ _ | .str _ | .nilp | .nilmap | .nilfn | .nilif=>true
 |.ptr i _=>Nat.blt i n
 |.rslice i _ _ _ _=>Nat.blt i n
 |.map i=>Nat.blt i n
 |.vptr _ r _ _=>wkbR n r
 |.slice (.own t) _ r=>Nat.blt t n&&wkbR n r
 |.slice _ _ r=>wkbR n r
 |.vmap es=>wkbE n es
 |.sdp t r=>Nat.blt t n&&wkbR n r
 |.fn _ a b=>wkbL n a&&wkbL n b
 |.iface _ v=>wkb n v
 |.agg l=>wkbL n l
 |.tuple l=>wkbL n l
def wkbL(n:Nat):List AV→Bool
 |[]=>true
 |x::l=>wkb n x&&wkbL n l
def wkbR(n:Nat):List (List AV)→Bool
 |[]=>true
 |x::l=>wkbL n x&&wkbR n l
def wkbE(n:Nat):List (AV×AV)→Bool
 |[]=>true
 |x::l=>wkbP n x&&wkbE n l
def wkbP(n:Nat):AV×AV→Bool
 |(x,y)=>wkb n x&&wkb n y
end
theorem dc{n:Nat}:∀ {l:List AV}{i:Nat}{x:AV},wkbL n l=true→l[i]?=some x→wkb n x=true
 |[],_,_,_,h=>by simp at h
 |y::l,0,x,h,e=>by simp only [wkbL,Bool.and_eq_true] at h;simp at e;subst e;exact h.1
 |y::l,i+1,x,h,e=>by simp only [wkbL,Bool.and_eq_true] at h;simp at e;exact dc h.2 e
theorem q3{n:Nat}:∀ {l:List (List AV)}{i:Nat}{x:List AV},wkbR n l=true→l[i]?=some x→wkbL n x=true
 |[],_,_,_,h=>by simp at h
 |y::l,0,x,h,e=>by simp only [wkbR,Bool.and_eq_true] at h;simp at e;subst e;exact h.1
 |y::l,i+1,x,h,e=>by simp only [wkbR,Bool.and_eq_true] at h;simp at e;exact q3 h.2 e
theorem gr{n:Nat}:∀ {l:List (AV×AV)}{i:Nat}{x y:AV},wkbE n l=true→l[i]?=some (x,y)→wkb n x=true∧wkb n y=true
 |[],_,_,_,_,h=>by simp at h
 |e0::l,0,x,y,h,e=>by simp only [wkbE,Bool.and_eq_true] at h;simp at e;subst e;simpa [wkbP] using h.1
 |e0::l,i+1,x,y,h,e=>by simp only [wkbE,Bool.and_eq_true] at h;simp at e;exact gr h.2 e
def zT(n:Nat):AObj→Bool
 |.cells cs _=>wkbL n cs
 |.map es=>wkbE n es
 |_=>true
structure VLe (K K':aa):Prop where
 imm:∀ b o v,K.imm b o=some v→K'.imm b o=some v
 own:∀ b x,K.own b=some x→K'.own b=some x
 loc:∀ (i b:Nat),K.loc[i]?=some b→K'.loc[i]?=some b
 shape:∀ b s,K.shape b=some s→K'.shape b=some s
theorem VLe.lt{K K':aa}(h:VLe K K'){i:Nat}(hi:i<K.loc.length):i<K'.loc.length:=
 (List.getElem?_eq_some_iff.1 (h.loc i _ (List.getElem?_eq_getElem hi))).1
theorem V.vle{K K':aa}(h:VLe K K'){a:AV}{v:Value}(hv:V K a v):V K' a v:=by
 induction hv with
 |unk v=>exact .unk v
 |bool b=>exact .bool b
 |int k n=>exact .int k n
 |str s=>exact .str s
 |nilp=>exact .nilp
 |ptr id off b hb=>exact .ptr id off b (h.loc _ _ hb)
 |vptr esz rows i off b o vs hl hi hv ih=>exact .vptr esz rows i off b o vs hl (fun i j r av h1 h2=>h.imm _ _ _ (hi i j r av h1 h2)) ih
 |slice0 tag esz a ht=>exact .slice0 tag esz a ⟨fun t e=>⟨h.lt (ht.1 t e).1,(ht.1 t e).2⟩,ht.2⟩
 |sliceAny tag esz a cap h=>exact .sliceAny tag esz a cap h
 |slice tag esz rows b o cap vs hl hi hv hc ht ih=>
  refine .slice tag esz rows b o cap vs hl (fun i j r av h1 h2=>h.imm _ _ _ (hi i j r av h1 h2)) ih hc ?_;cases tag with
  |any=>trivial
  |some=>trivial
  |full=>exact ht
  |nil=>exact ht
  |own t=>exact ⟨h.lt ht.1,ht.2.imp id fun h2=>⟨h2.1,h.own _ _ h2.2⟩⟩
 |rslice id off len esz room b cap hb hc hs=>exact .rslice id off len esz room b cap (h.loc _ _ hb) hc (fun hr=>let ⟨n,h1,h2⟩:=hs hr;⟨n,h.shape _ _ h1,h2⟩)
 |vmap es b mes hb hl hk hv ih1 ih2=>exact .vmap es b mes (h.shape _ _ hb) hl ih1 ih2
 |nilmap=>exact .nilmap
 |map id b hb=>exact .map id b (h.loc _ _ hb)
 |sdp0 t p=>exact .sdp0 t p
 |sdp t rows b cap vs htl ho hl hi hv hc ih=>exact .sdp t rows b cap vs (h.lt htl) (h.own _ _ ho) hl (fun i j r av h1 h2=>h.imm _ _ _ (hi i j r av h1 h2)) ih hc
 |fn f first captured vs us h1 h2 hv hu ih1 ih2=>exact .fn f first captured vs us h1 h2 ih1 ih2
 |nilfn=>exact .nilfn
 |iface t v x hx ih=>exact .iface t v x ih
 |nilif=>exact .nilif
 |agg cs vs h1 hv ih=>exact .agg cs vs h1 ih
 |tuple cs vs h1 hv ih=>exact .tuple cs vs h1 ih
theorem mG{K:aa}{n b t m:Nat}(h:K.own b=some (t,m))(hlt:t<n):(K.trunc n).own b=some (t,m):=by
 simp [aa.trunc,h,hlt]
theorem vY{K:aa}{n:Nat}(hn:n≤K.loc.length){a:AV}{v:Value}(hv:V K a v)(hw:wkb n a=true):V (K.trunc n) a v:=by
 have hlen:(K.trunc n).loc.length=n:=by simp [aa.trunc,Nat.min_eq_left hn]
 induction hv with
 |unk v=>exact .unk v
 |bool b=>exact .bool b
 |int k n=>exact .int k n
 |str s=>exact .str s
 |nilp=>exact .nilp
 |ptr id off b hb=>exact .ptr id off b (ga hb (rF hw))
 |vptr esz rows i off b o vs hl hi hv ih=>exact .vptr esz rows i off b o vs hl (fun i j r av h1 h2=>hi i j r av h1 h2) fun i j r av h1 h2=>ih i j r av h1 h2 (dc (q3 hw h1) h2)
 |slice0 tag esz a ht=>
  refine .slice0 tag esz a ⟨fun t e=>⟨?_,(ht.1 t e).2⟩,ht.2⟩;subst e;simp only [wkb,Bool.and_eq_true] at hw;rw [hlen];exact rF hw.1
 |sliceAny tag esz a cap h=>exact .sliceAny tag esz a cap h
 |slice tag esz rows b o cap vs hl hi hv hc ht ih=>
  have hr:wkbR n rows=true:=by cases tag<;>simp only [wkb,Bool.and_eq_true] at hw<;>first | exact hw.2 | exact hw
  refine .slice tag esz rows b o cap vs hl (fun i j r av h1 h2=>hi i j r av h1 h2) (fun i j r av h1 h2=>ih i j r av h1 h2 (dc (q3 hr h1) h2)) hc (sx ht fun t e => ?_);subst e;simp only [wkb,Bool.and_eq_true] at hw;exact rF hw.1
 |rslice id off len esz room b cap hb hc hs=>exact .rslice id off len esz room b cap (ga hb (rF hw)) hc hs
 |vmap es b mes hb hl hk hv ih1 ih2=>exact .vmap es b mes hb hl (fun i k v he=>ih1 i k v he (gr hw he).1) fun i k v he=>ih2 i k v he (gr hw he).2
 |nilmap=>exact .nilmap
 |map id b hb=>exact .map id b (ga hb (rF hw))
 |sdp0 t p=>exact .sdp0 t p
 |sdp t rows b cap vs htl ho hl hi hv hc ih=>
  simp only [wkb,Bool.and_eq_true] at hw;have ht:=rF hw.1;exact .sdp t rows b cap vs (by rw [hlen];exact ht) (mG ho ht) hl hi (fun i j r av h1 h2=>ih i j r av h1 h2 (dc (q3 hw.2 h1) h2)) hc
 |fn f first captured vs us h1 h2 hv hu ih1 ih2=>
  simp only [wkb,Bool.and_eq_true] at hw;exact .fn f first captured vs us h1 h2 (fun i av h=>ih1 i av h (dc hw.1 h)) fun i av h=>ih2 i av h (dc hw.2 h)
 |nilfn=>exact .nilfn
 |iface t v x hx ih=>exact .iface t v x (ih hw)
 |nilif=>exact .nilif
 |agg cs vs h1 hv ih=>exact .agg cs vs h1 fun i av h=>ih i av h (dc hw h)
 |tuple cs vs h1 hv ih=>exact .tuple cs vs h1 fun i av h=>ih i av h (dc hw h)
def uH{α β:Type}(f:α→Option β):List α→Option (List β)
 |[]=>some []
 |x::l=>match f x,uH f l with
  |some y,some l'=>some (y::l')
  |_,_=>none
theorem oU{α β:Type}{f:α→Option β}:∀ {l:List α}{l':List β},uH f l=some l'→l'.length=l.length∧∀ (i:Nat) (y:β),l'[i]?=some y→∃ x,l[i]?=some x∧f x=some y
 |[],l',h=>by cases h;exact ⟨rfl,fun i y h=>by simp at h⟩
 |x::l,l',h=>by
  simp only [uH] at h;split at h
  ·rename_i a' l2 e1 e2
   cases h;obtain ⟨g1,g2⟩:=oU e2;refine ⟨by simp [g1],fun i av h => ?_⟩;cases i with
   |zero=>simp at h;subst h;exact ⟨x,rfl,e1⟩
   |succ i=>simp at h;simpa using g2 i av h
  ·cases h
def Tag.fz:Tag→Tag
 |.nil=>.nil
 |_=>.any
def fzD:Nat→Nat→List AObj→AV→Option AV
 |0,_,_,_=>none
 |k+1,n,H,v=>
  match v with
  |.rslice id off len esz _=>bif Nat.blt id n then none else (match H[id]? with
    |some (.cells cs _)=>bif Nat.ble (off+len*esz) cs.length then (match uH (uH (fzD k n H)) (fk esz len (cs.drop off)) with
     |some rows=>some (.slice .any esz rows)
     |none=>none) else none
    |_=>none)
  |.map id=>bif Nat.blt id n then none else (match H[id]? with
    |some (.map es)=>bif wkbE n es then some (.vmap es) else none
    |_=>none)
  |.slice tag esz rows=>(match uH (uH (fzD k n H)) rows with
    |some rows=>some (.slice tag.fz esz rows)
    |none=>none)
  |.agg cs=>(match uH (fzD k n H) cs with
    |some cs=>some (.agg cs)
    |none=>none)
  |.tuple cs=>(match uH (fzD k n H) cs with
    |some cs=>some (.tuple cs)
    |none=>none)
  |v=>bif wkb n v then some v else none
def fzV(n:Nat)(H:List AObj)(v:AV):Option AV:=fzD 12 n H v
theorem Inv.live_own{K:aa}{H:List AObj}{w:World}(hi:Inv K H w){id b:Nat}{x:AObj}(hx:H[id]?=some x)(hl:x.live=true)(hb:K.loc[id]?=some b):K.own b=none:=by
 cases ho:K.own b with
 |none=>rfl
 |some p=>
  obtain ⟨_,fr,us,T,lo,hh,_,g2,_⟩:=hi.own b p.1 p.2 ho;have:=hi.obj id x hx;cases x with
  |dead=>cases hl
  |tok=>cases hl
  |cells cs T0=>
   obtain ⟨b2,vs,T2,h1,h2,h3,h4,h5,h6,h7,h8,h9⟩:=this;rw [hb] at h1;cases h1;rw [ho] at h7;cases h7
  |siter s p=>obtain ⟨b2,h1,h2,h3,_⟩:=this;rw [hb] at h1;cases h1;rw [g2] at h3;cases h3
  |map es=>obtain ⟨b2,me,cl,h1,h2,h3,_⟩:=this;rw [hb] at h1;cases h1;rw [g2] at h3;cases h3
def pV(w:World)(b:Nat):Option Shp:=
 match w.heap[b]? with
 |some (.cells vs _ _)=>some (.rows vs.size)
 |some (.map es _)=>some (.mapv es)
 |some o=>some (.fix o)
 |none=>none
theorem xx{w:World}{b:Nat}{s:Shp}(h:pV w b=some s):vI w b s:=by
 unfold pV at h;split at h
 ·rename_i vs T f hb;cases h;exact ⟨vs,T,f,hb,rfl⟩
 ·rename_i es c hb;cases h;exact ⟨c,hb⟩
 ·rename_i o n1 n2 hb;cases h;exact ⟨hb,by cases o<;>first | rfl | exact (n1 _ _ _ rfl).elim | exact (n2 _ _ rfl).elim⟩
 ·cases h
theorem zU{w:World}{b:Nat}{s:Shp}(h:vI w b s):pV w b=some s:=by
 cases s with
 |rows n=>obtain ⟨vs,T,f,h1,h2⟩:=h;simp [pV,h1,h2]
 |mapv es=>obtain ⟨c,h1⟩:=h;simp [pV,h1]
 |fix o=>obtain ⟨h1,h2⟩:=h;cases o<;>first | (cases h2;done) | simp [pV,h1]
section
variable{P:Program}{G:Nat→Option (List AV)}
theorem Inv.unsee{K:aa}{H H':List AObj}{w:World}(hi:Inv K H w)(hl:H'.length=H.length)(hs:∀ (i:Nat) (x:AObj),H'[i]?=some x→x = .dead∨H[i]?=some x)
  (ht:∀ (t fr:Nat) (T:TypeId),H[t]?=some (.tok fr T)→H'[t]?=some (.tok fr T)):Inv K H' w:=by
 refine ⟨hi.below,hi.base,hi.imm,by rw [hi.len,hl],fun id x hx => ?_,fun i j x y hx hy lx ly hij => ?_,fun b t n ho => ?_,hi.glob,hi.shape⟩
 ·rcases hs id x hx with rfl | h
  ·trivial
  ·exact hi.obj id x h
 ·rcases hs i x hx with rfl | h1
  ·cases lx
  ·rcases hs j y hy with rfl | h2
   ·cases ly
   ·exact hi.inj i j x y h1 h2 lx ly hij
 ·obtain ⟨hb,fr,us,T,lo,hh,g1,g2⟩:=hi.own b t n ho
  exact ⟨hb,fr,us,T,lo,hh,ht t fr T g1,g2⟩
theorem aC.frame{He H1:List AObj}{f:FuncId}{args:List AV}{v0 v:AV}(h:aC P G f args He fun r H'=>r = .ret v0∧H'=H1)(hk1:H1.take He.length=He)
  (hG:∀ n g cs,G g=some cs→wkbL n cs=true) (ha:∀ a∈args,wkb He.length a=true) (hH:∀ x∈He,zT He.length x=true) (hf:fzV He.length H1 v0=some v)
  (H2:List AObj) (hm2:He.length≤H2.length) (hag:∀ (i:Nat) (x:AObj),He[i]?=some x→x = .dead∨H2[i]?=some x)
  (htok:∀ (t fr:Nat) (T:TypeId),t<He.length→H2[t]?=some (.tok fr T)→He[t]?=some (.tok fr T)):aC P G f args H2 fun r H'=>r = .ret v∧H'=H2:=by
 classical
 intro K w cargs hg hi hv;generalize hm:He.length=m at *
 have hlen:m≤K.loc.length:=by rw [hi.len];exact hm2
 have hkill:Inv K (He++H2.drop m) w:=by
  refine hi.unsee (by simp [hm];omega) (fun i x hx => ?_) (fun t fr T ht => ?_)
  ·by_cases hlt:i<m
   ·rw [List.getElem?_append_left (by omega)] at hx;exact hag i x hx
   ·rw [List.getElem?_append_right (by omega),List.getElem?_drop,hm,Nat.add_sub_cancel' (by omega)] at hx;exact .inr hx
  ·by_cases hlt:t<m
   ·rw [List.getElem?_append_left (by omega)];exact htok t fr T hlt ht
   ·rw [List.getElem?_append_right (by omega),List.getElem?_drop,hm,Nat.add_sub_cancel' (by omega)];exact ht
 have htk:(He++H2.drop m).take m=He:=by rw [← hm];simp
 have hkl:∀ {i:Nat},i<m→(He++H2.drop m)[i]?=He[i]? := fun h=>List.getElem?_append_left (by omega)
 have hvis:∀ {i:Nat}{x:AObj},He[i]?=some x→x.live=true→H2[i]?=some x:=fun h hl=>by
  rcases hag _ _ h with rfl | h
  ·cases hl
  ·exact h
 let M2:Nat→Prop:=fun b=>w.heap.size≤b∨(∃ (i:Nat) (x:AObj),He[i]?=some x∧x.live=true∧K.loc[i]?=some b)∨∃ t n,K.own b=some (t,n)∧t<m
 have hlt_of:∀ {i:Nat}{x:AObj},He[i]?=some x→i<m:=fun h=>by have:=(List.getElem?_eq_some_iff.1 h).1;omega
 have hM:∀ b,M2 b→K.base b:=fun b hb=>by
  rcases hb with hb | ⟨i,x,h1,h2,h3⟩ | ⟨t,n,h1,_⟩
  ·exact hi.base b hb
  ·obtain ⟨b',h4,h5,_⟩:=hi.live_block (hvis h1 h2) h2
   rw [h3] at h4;cases h4;exact h5
  ·exact (hi.own b t n h1).1
 have hno:∀ {i b:Nat}{x:AObj},He[i]?≠some x→H2[i]?=some x→x.live=true→K.loc[i]?=some b→¬ M2 b:=fun {i b x} h1 h2 h3 h4 hb=>by
  rcases hb with hb | ⟨j,y,g1,g2,g3⟩ | ⟨t,n,g1,_⟩
  ·obtain ⟨b',h5,_,h6⟩:=hi.live_block h2 h3
   rw [h4] at h5;cases h5;omega
  ·have hj:=hvis g1 g2
   exact hi.inj i j x y h2 hj h3 g2 (fun e=>by subst e;rw [hj] at h2;cases h2;exact h1 g1) (h4.trans g3.symm)
  ·rw [hi.live_own h2 h3 h4] at g1;cases g1
 let K2:aa := { K.trunc m with base:=M2,w0:=w }
 have hv2:VLe (K.trunc m) K2:=⟨fun _ _ _ h=>h,fun _ _ h=>h,fun _ _ h=>h,fun _ _ h=>h⟩
 have hglw:∀ (g:Nat) (cs:List AV),K.glob g=some cs→wkb m (.vptr cs.length [cs] 0 0)=true:=fun g cs hgc=>by
  have:=hG m g cs (by rw [← hg];exact hgc);simp [wkb,wkbR,this]
 have hit:Inv (K.trunc m) He w:=by
  have:=hkill.trunc m (fun i cs T0 hlt hcs j av x hj hx=>by
   have h1:He[i]?=some (.cells cs T0):=(hkl hlt).symm.trans hcs;exact vY hlen hx (dc (hH _ (List.mem_of_getElem? h1)) hj)) (fun i es hlt hes j x y z hj=>by
   have h1:He[i]?=some (.map es):=(hkl hlt).symm.trans hes;have h2:=gr (hH _ (List.mem_of_getElem? h1)) hj;exact ⟨fun hx=>vY hlen hx h2.1,fun hy=>vY hlen hy h2.2⟩)
   (fun g cs hgc=>vY hlen (hi.glob g cs hgc) (hglw g cs hgc))
  rwa [htk] at this
 have hi2:Inv K2 He w:=by
  refine ⟨gp.refl _ _,fun b hb=>.inl hb,hit.imm,hit.len,fun id x hx => ?_,hit.inj,fun b t n ho => ?_,fun g cs hgc=>(hit.glob g cs hgc).vle hv2,hit.shape⟩
  ·have:=hit.obj id x hx
   have hMb:∀ b,x.live=true→(K.trunc m).loc[id]?=some b→M2 b:=fun b hl hb=>.inr (.inl ⟨id,x,hx,hl,by
    have h':(K.loc.take m)[id]?=some b:=hb;rwa [List.getElem?_take,if_pos (hlt_of hx)] at h'⟩)
   cases x with
   |dead=>trivial
   |tok=>trivial
   |cells cs T0=>
    obtain ⟨b,vs,T,h1,h2,h3,h4,h5,h6,h7,h8,h9⟩:=this;exact ⟨b,vs,T,h1,hMb b rfl h1,h3,h4,fun i av hh=>(h5 i av hh).vle hv2,h6,h7,h8,h9⟩
   |siter s p=>obtain ⟨b,h1,h2,h3⟩:=this;exact ⟨b,h1,hMb b rfl h1,h3⟩
   |map es=>
    obtain ⟨b,me,cl,h1,h2,h3,h4,h5,h6⟩:=this;exact ⟨b,me,cl,h1,hMb b rfl h1,h3,h4,fun i k v hh=>let ⟨e,g1,g2,g3⟩:=h5 i k v hh;⟨e,g1,g2.vle hv2,g3.vle hv2⟩,h6⟩
  ·obtain ⟨_,h2⟩:=hit.own b t n ho
   obtain ⟨h3,h4⟩:=aa.trunc_own ho;exact ⟨.inr (.inr ⟨t,n,h3,h4⟩),h2⟩
 have hargs:Vs K2 args cargs:=⟨hv.size,fun i av hh=>(vY hlen (hv.at_ i av hh) (ha av (List.mem_of_getElem? hh))).vle hv2⟩
 have back:∀ e w',qz K2 (fun r H'=>r = .ret v0∧H'=H1) e w'→qz K (fun r H'=>r = .ret v∧H'=H2) e w':=by
  rintro e w' ⟨K3,r,H',hle,hend,hi3,rfl,rfl⟩;have hb3:K3.base=M2:=hle.base;have hm3:m≤K3.loc.length:=by
   rw [hi3.len];have:=congrArg List.length hk1;simp at this;omega
  have hH1:∀ {i:Nat},i<m→H'[i]?=He[i]? := fun {i} hlt=>by rw [← hk1,List.getElem?_take,if_pos hlt]
  have hloc3:∀ {i b:Nat},i<m→K.loc[i]?=some b→K3.loc[i]?=some b:=fun {i b} hlt hb=>hle.loc i b (by
   show (K.loc.take m)[i]?=_;rw [List.getElem?_take,if_pos hlt];exact hb)
  have hloc3':∀ {i b:Nat},i<m→K3.loc[i]?=some b→K.loc[i]?=some b:=fun {i b} hlt hb=>by
   have h1:K.loc[i]?=some K.loc[i]:=List.getElem?_eq_getElem (by omega);rw [hloc3 hlt h1] at hb;rw [h1];exact hb
  let NB:Nat→Prop:=fun b => ∃ (id:Nat) (x:AObj),m≤id∧H'[id]?=some x∧x.live=true∧K3.loc[id]?=some b
  have hNM:∀ b,NB b→M2 b:=fun b ⟨id,x,h1,h2,h3,h4⟩=>by
   obtain ⟨b',h5,h6,_⟩:=hi3.live_block h2 h3;rw [h4] at h5;cases h5;rw [hb3] at h6;exact h6
  have hNO:∀ b,NB b→K3.own b=none:=fun b ⟨id,x,h1,h2,h3,h4⟩=>hi3.live_own h2 h3 h4
  have hNI:∀ {i b:Nat}{x:AObj},i<m→H'[i]?=some x→x.live=true→K3.loc[i]?=some b→¬ NB b:=fun {i b x} h1 h2 h3 h4 ⟨id,y,g1,g2,g3,g4⟩=>
   hi3.inj i id x y h2 g2 h3 g3 (by omega) (h4.trans g4.symm)
  let K4:aa := { imm:=fun b o=>if NB b then w'.cell? ⟨b,o,none⟩ else K3.imm b o,own:=fun b=>if M2 b then (K3.trunc m).own b else K.own b,loc:=K.loc,base:=K.base,w0:=K.w0,glob:=K.glob,shape:=fun b=>if NB b then pV w' b else K3.shape b }
  have imm4:∀ {b o:Nat},¬ NB b→K4.imm b o=K3.imm b o:=fun h=>if_neg h
  have hv4:VLe (K3.trunc m) K4:=by
   refine ⟨fun b o x hx => ?_,fun b x hx => ?_,fun i b hb => ?_,fun b s hs => ?_⟩
   ·have hx':K3.imm b o=some x:=hx
    show (if NB b then _ else _)=_;split
    ·exact hi3.imm b o x hx'
    ·exact hx'
   ·obtain ⟨t,n⟩:=x
    have h1:=(aa.trunc_own hx).1;have h2:=(hi3.own b t n h1).1;rw [hb3] at h2;show (if M2 b then _ else _)=_;rw [if_pos h2];exact hx
   ·have h':(K3.loc.take m)[i]?=some b:=hb
    rw [List.getElem?_take] at h';split at h'
    ·rename_i hlt;exact hloc3' hlt h'
    ·cases h'
   ·have hs':K3.shape b=some s:=hs
    show (if NB b then _ else _)=_;split
    ·exact zU (hi3.shape b s hs')
    ·exact hs'
  have low4:∀ b,¬ M2 b→(∀ o,K4.imm b o=K.imm b o)∧K4.shape b=K.shape b:=fun b hb=>by
   have hnb:¬ NB b:=fun e=>hb (hNM b e)
   have:=hle.low b hb;exact ⟨fun o=>(if_neg hnb).trans (this.1 o),(if_neg hnb).trans this.2⟩
  have hle4:K.le K4:=by
   refine ⟨fun b o x hx=>hv4.imm b o x (hle.imm b o x hx),fun b x hx => ?_,fun _ _ h=>h,rfl,rfl,rfl,fun b s hs=>hv4.shape b s (hle.shape b s hs),fun b hb=>low4 b fun e=>hb (hM b e)⟩;obtain ⟨t,n⟩:=x;show (if M2 b then _ else _)=_;split
   ·rename_i hb
    have hlt:t<m:=by
     rcases hb with hb | ⟨i,x,h1,h2,h3⟩ | ⟨t',n',h1,h2⟩
     ·have:=hi.own_lt hx;omega
     ·rw [hi.live_own (hvis h1 h2) h2 h3] at hx;cases hx
     ·rw [hx] at h1;cases h1;exact h2
    exact mG (hle.own b _ (mG hx hlt)) hlt
   ·exact hx
  have vback:∀ {a:AV}{x:Value},V K3 a x→wkb m a=true→V K4 a x:=fun hx hw=>(vY hm3 hx hw).vle hv4
  have hk3:gp M2 w w':=by
   have:=hi3.below;rw [hb3,hle.w0] at this;exact this
  have hi4:Inv K4 H2 w':=by
   refine ⟨hi.below.trans (hk3.mono hM),fun b hb=>hi.base b (Nat.le_trans hk3.size hb),fun b o x hx => ?_,hi.len,fun id x hx => ?_,hi.inj,fun b t n ho => ?_,fun g cs hgc=>(hi.glob g cs hgc).mono hle4,fun b s hs => ?_⟩
   ·have hx':(if NB b then w'.cell? ⟨b,o,none⟩ else K3.imm b o)=some x:=hx
    split at hx'
    ·exact hx'
    ·exact hi3.imm b o x hx'
   ·by_cases hx1:He[id]?=some x
    ·have hlt:=hlt_of hx1
     have hx3:H'[id]?=some x:=(hH1 hlt).trans hx1;have hcl:=hH x (List.mem_of_getElem? hx1);have:=hi3.obj id x hx3;have hMb:∀ b,K3.base b→M2 b:=fun b hb=>by rwa [hb3] at hb
     cases x with
     |dead=>trivial
     |tok=>trivial
     |cells cs T0=>
      obtain ⟨b,vs,T,h1,h2,h3,h4,h5,h6,h7,h8,h9⟩:=this;have hnb:=hNI hlt hx3 rfl h1;refine ⟨b,vs,T,hloc3' hlt h1,hM b (hMb b h2),h3,h4,fun i av hh=>vback (h5 i av hh) (dc hcl hh),fun o=>(imm4 hnb).trans (h6 o), ?_,(if_neg hnb).trans h8,h9⟩;show (if M2 b then _ else _)=_;rw [if_pos (hMb b h2)];simp [aa.trunc,h7]
     |siter s p=>obtain ⟨b,h1,h2,h3,h4⟩:=this;exact ⟨b,hloc3' hlt h1,hM b (hMb b h2),h3,(if_neg (hNI hlt hx3 rfl h1)).trans h4⟩
     |map es=>
      obtain ⟨b,me,cl,h1,h2,h3,h4,h5,h6⟩:=this;have hnb:=hNI hlt hx3 rfl h1;exact ⟨b,me,cl,hloc3' hlt h1,hM b (hMb b h2),h3,h4,fun i k v hh=>let ⟨e,g1,g2,g3⟩:=h5 i k v hh;⟨e,g1,vback g2 (gr hcl hh).1,vback g3 (gr hcl hh).2⟩,(if_neg hnb).trans h6⟩
    ·by_cases ly:x.live=true
     ·refine (hi.obj id x hx).mono hle4 (fun b hb _ _=>hk3.block b (hno hx1 hx ly hb)) (fun b hb _ => ?_)
      have hnm:=hno hx1 hx ly hb;have hl:=low4 b hnm;exact ⟨fun o h=>(hl.1 o).trans h,fun h=>(if_neg hnm).trans h,fun h=>hl.2.trans h⟩
     ·cases x<;>first | exact absurd rfl ly | trivial
   ·have ho':(if M2 b then (K3.trunc m).own b else K.own b)=some (t,n):=ho
    split at ho'
    ·rename_i hb
     obtain ⟨h1,h2⟩:=aa.trunc_own ho';obtain ⟨_,fr,us,T,lo,hh,g1,g2,g3,g4,g5⟩:=hi3.own b t n h1;have hnb:¬ NB b:=fun e=>by rw [hNO b e] at h1;cases h1
     exact ⟨hM b hb,fr,us,T,lo,hh,by
      rcases hag t _ ((hH1 h2).symm.trans g1) with h | h
      ·cases h
      ·exact h,g2,g3,g4,fun o x hx=>g5 o x (by rw [← imm4 hnb];exact hx)⟩
    ·rename_i hb
     obtain ⟨h0,fr,us,T,lo,hh,g1,g2,g3,g4,g5⟩:=hi.own b t n ho';exact ⟨h0,fr,us,T,lo,hh,g1,by rw [hk3.block b hb];exact g2,g3,g4,fun o x hx=>g5 o x (by rw [← (low4 b hb).1 o];exact hx)⟩
   ·have hs':(if NB b then pV w' b else K3.shape b)=some s:=hs
    split at hs'
    ·exact xx hs'
    ·exact hi3.shape b s hs'
  have fzD_ok:∀ (k:Nat) {a a':AV}{x:Value},V K3 a x→fzD k m H' a=some a'→V K4 a' x:=by
   intro k;induction k with
   |zero=>intro a a' x _ he;cases he
   |succ k ih=>
   intro a a' x hx he;have other:∀ {a'':AV},V K3 a x→(bif wkb m a then some a else none)=some a''→V K4 a'' x:=fun hx he=>by
    cases hw:wkb m a with
    |false=>rw [hw] at he;cases he
    |true=>rw [hw] at he;cases he;exact vback hx hw
   have two:∀ {rows rows':List (List AV)},uH (uH (fzD k m H')) rows=some rows'→rows'.length=rows.length∧(∀ (i:Nat) (r:List AV),rows'[i]?=some r→∃ r0,rows[i]?=some r0∧r.length=r0.length∧∀ (j:Nat) (av:AV),r[j]?=some av→∃ a0,r0[j]?=some a0∧fzD k m H' a0=some av):=fun h=>by
    obtain ⟨g1,g2⟩:=oU h;refine ⟨g1,fun i r hr => ?_⟩;obtain ⟨r0,e1,e2⟩:=g2 i r hr;obtain ⟨e3,e4⟩:=oU e2;exact ⟨r0,e1,e3,e4⟩
   cases hx with
   |rslice id off len esz room b cap hb hcap hro=>
    simp only [fzD] at he;cases hlt:Nat.blt id m with
    |true=>rw [hlt] at he;cases he
    |false=>
     rw [hlt,cond_false] at he;have hge:m≤id:=by
      refine Nat.le_of_not_lt fun e => ?_
      rw [← Nat.blt_eq,hlt] at e;cases e
     split at he
     ·rename_i cs T0 hc
      cases hcnd:Nat.ble (off+len*esz) cs.length with
      |false=>rw [hcnd] at he;cases he
      |true=>
       rw [hcnd,cond_true] at he;have hsz:=Nat.le_of_ble_eq_true hcnd;split at he
       ·rename_i rows' hrows
        cases he;obtain ⟨t1,t2⟩:=two hrows;rw [gl] at t1;obtain ⟨b2,vs,T2,h1,h2,h3,h4,h5,h6,h7,h8,h9⟩:=hi3.obj _ _ hc;rw [hb] at h1;cases h1;have hnb:NB b:=⟨id,_,hge,hc,rfl,hb⟩
        have row:∀ (i j:Nat) (r:List AV) (av:AV),(fk esz len (cs.drop off))[i]?=some r→r[j]?=some av→i<len∧j<esz∧cs[off+i*esz+j]?=some av:=fun i j r av hr hj=>by
         obtain ⟨g1,rfl⟩:=iP esz len (cs.drop off) i r hr;rw [List.getElem?_take] at hj;split at hj
         ·rename_i hlt
          rw [List.getElem?_drop,List.getElem?_drop] at hj;exact ⟨g1,hlt,by rw [← hj];congr 1;omega⟩
         ·cases hj
        have:=V.slice (K:=K4) .any esz rows' b off cap (fun i j=>vs.getD (off+i*esz+j) undef) (fun r hr => ?_) (fun i j r av hr hj => ?_) (fun i j r av hr hj => ?_) (by rw [t1];exact hcap) trivial
        ·rwa [t1] at this
        ·obtain ⟨i,hi1⟩:=List.mem_iff_getElem?.1 hr
         obtain ⟨r0,e1,e2,_⟩:=t2 i r hi1;obtain ⟨g1,rfl⟩:=iP esz len (cs.drop off) i r0 e1
         have:i*esz+esz≤len*esz:=by rw [← Nat.succ_mul];exact Nat.mul_le_mul_right _ g1
         rw [e2];simp;omega
        ·obtain ⟨r0,e1,_,e3⟩:=t2 i r hr
         obtain ⟨a0,e4,e5⟩:=e3 j av hj;obtain ⟨g1,g2,g3⟩:=row i j r0 a0 e1 e4;have hlt:off+i*esz+j<vs.size:=Nat.lt_of_lt_of_le (List.getElem?_eq_some_iff.1 g3).1 h4;show (if NB b then _ else _)=_;rw [if_pos hnb,ao h3,Array.getElem?_eq_getElem hlt];simp [Array.getD,hlt]
        ·obtain ⟨r0,e1,_,e3⟩:=t2 i r hr
         obtain ⟨a0,e4,e5⟩:=e3 j av hj;obtain ⟨g1,g2,g3⟩:=row i j r0 a0 e1 e4;exact ih (h5 _ _ g3) e5
       ·cases he
     ·cases he
   |map id b hb=>
    simp only [fzD] at he;cases hlt:Nat.blt id m with
    |true=>rw [hlt] at he;cases he
    |false=>
     rw [hlt,cond_false] at he;have hge:m≤id:=by
      refine Nat.le_of_not_lt fun e => ?_
      rw [← Nat.blt_eq,hlt] at e;cases e
     split at he
     ·rename_i es hc
      cases hw:wkbE m es with
      |false=>rw [hw] at he;cases he
      |true=>
       rw [hw] at he;cases he;obtain ⟨b2,mes,clock,h1,h2,h3,h4,h5,h6⟩:=hi3.obj _ _ hc;rw [hb] at h1;cases h1;have hnb:NB b:=⟨id,_,hge,hc,rfl,hb⟩
       refine .vmap es b mes ((if_pos hnb).trans (by simp [pV,h3])) h4 (fun i k v he => ?_) (fun i k v he => ?_)
       ·obtain ⟨e,g1,g2,g3⟩:=h5 i k v he
        rw [show mes.getD i ⟨undef,undef,0⟩=e by simp [Array.getD_eq_getD_getElem?,g1]];exact vback g2 (gr hw he).1
       ·obtain ⟨e,g1,g2,g3⟩:=h5 i k v he
        rw [show mes.getD i ⟨undef,undef,0⟩=e by simp [Array.getD_eq_getD_getElem?,g1]];exact vback g3 (gr hw he).2
     ·cases he
   |slice0 tag esz a h=>
    cases he;cases tag with
    |nil=>rw [h.2.1 rfl];exact .slice0 .nil esz none ⟨fun _ e=>(by cases e),fun _=>rfl,fun e=>(by cases e)⟩
    |some=>exact absurd rfl h.2.2
    |any=>exact .slice0 .any esz a ⟨fun _ e=>(by cases e),fun e=>(by cases e),fun e=>(by cases e)⟩
    |full=>exact .slice0 .any esz a ⟨fun _ e=>(by cases e),fun e=>(by cases e),fun e=>(by cases e)⟩
    |own t=>exact .slice0 .any esz a ⟨fun _ e=>(by cases e),fun e=>(by cases e),fun e=>(by cases e)⟩
   |sliceAny tag esz a cap h=>
    cases he
    have:tag.fz = .any:=by rcases h with rfl | ⟨rfl,_⟩<;>rfl
    rw [this];exact .sliceAny .any esz a cap (.inl rfl)
   |slice tag esz rows b o cap vs hl him hvv hc ht=>
    simp only [fzD] at he;split at he
    ·rename_i rows' hrows
     cases he;obtain ⟨t1,t2⟩:=two hrows;have htag:tag.fz = .any:=by cases tag<;>first | rfl | exact (ht:False).elim
     have:=V.slice (K:=K4) .any esz rows' b o cap vs (fun r hr => ?_) (fun i j r av hr hj => ?_) (fun i j r av hr hj => ?_) (by rw [t1];exact hc) trivial
     ·rw [htag];rwa [t1] at this
     ·obtain ⟨i,hi1⟩:=List.mem_iff_getElem?.1 hr
      obtain ⟨r0,e1,e2,_⟩:=t2 i r hi1;rw [e2];exact hl r0 (List.mem_of_getElem? e1)
     ·obtain ⟨r0,e1,_,e3⟩:=t2 i r hr
      obtain ⟨a0,e4,e5⟩:=e3 j av hj;exact hv4.imm _ _ _ (him i j r0 a0 e1 e4)
     ·obtain ⟨r0,e1,_,e3⟩:=t2 i r hr
      obtain ⟨a0,e4,e5⟩:=e3 j av hj;exact ih (hvv i j r0 a0 e1 e4) e5
    ·cases he
   |unk=>exact other (.unk _) he
   |bool b=>exact other (.bool b) he
   |int k n=>exact other (.int k n) he
   |str s=>exact other (.str s) he
   |nilp=>exact other .nilp he
   |ptr id off b hb=>exact other (.ptr id off b hb) he
   |vptr esz rows i off b o vs hl hi hv=>exact other (.vptr esz rows i off b o vs hl hi hv) he
   |vmap es b mes hb hl hk hv=>exact other (.vmap es b mes hb hl hk hv) he
   |nilmap=>exact other .nilmap he
   |sdp0 t p=>exact other (.sdp0 t p) he
   |sdp t rows b cap vs htl ho hl hi hv hc=>exact other (.sdp t rows b cap vs htl ho hl hi hv hc) he
   |fn f first captured vs us h1 h2 hv hu=>exact other (.fn f first captured vs us h1 h2 hv hu) he
   |nilfn=>exact other .nilfn he
   |iface t v x hx=>exact other (.iface t v x hx) he
   |nilif=>exact other .nilif he
   |agg cs vs h1 hv=>
    simp only [fzD] at he;split at he
    ·rename_i cs' hcs
     cases he;obtain ⟨g1,g2⟩:=oU hcs;exact .agg _ _ (g1.trans h1) fun i av h=>by
      obtain ⟨a0,e1,e2⟩:=g2 i av h;exact ih (hv i a0 e1) e2
    ·cases he
   |tuple cs vs h1 hv=>
    simp only [fzD] at he;split at he
    ·rename_i cs' hcs
     cases he;obtain ⟨g1,g2⟩:=oU hcs;exact .tuple _ _ (g1.trans h1) fun i av h=>by
      obtain ⟨a0,e1,e2⟩:=g2 i av h;exact ih (hv i a0 e1) e2
    ·cases he
  refine ⟨K4,.ret v,H2,hle4, ?_,hi4,rfl,rfl⟩;cases e with
  |panicked c=>exact hend.elim
  |outgrown=>exact hend.elim
  |returned x=>
   have hx:V K3 v0 x:=hend;show V K4 v x;exact fzD_ok 12 hx hf
 rcases h K2 w cargs hg hi2 hargs with ⟨h1,h2⟩ | ⟨cv,w',h1,h2⟩
 ·exact .inl ⟨h1,h2.mono back⟩
 ·exact .inr ⟨cv,w',h1,back _ _ h2⟩
end
end Go.Am
end
section
namespace Go.Am
open Go.RowKit
structure nQ (P:Program) (f:FuncId) (e:Array Value→Sem Value):Prop where
 run:∀ (args:Array Value) (w:World),(callFunc f args).run P w=((e args).run P w).andThen fun v w'=>.ok (.value v) w'
theorem nQ.of {P:Program}{f:FuncId}{fn:Func}{e:Array Value→Sem Value} (hf:P.funcs[f]?=some fn) (hname:(fn.name == "runtime.NumGoroutine")=false)
  (hb:fn.body.isNone=true) (hn:Extern.findNext fn=none) (he:Extern.find fn=some e):nQ P f e:=⟨fun args w=>run_callFunc_extern hf hname hb hn he args w⟩
section
variable{P:Program}{G:Nat→Option (List AV)}{f:FuncId}{e:Array Value→Sem Value}
theorem nQ.calls(h:nQ P f e){args:List AV}{H:List AObj}{R:ou→List AObj→Prop}
  (hr:∀ (K:aa) (w:World) (cargs:Array Value),Inv K H w→Vs K args cargs→∃ cv w',(e cargs).run P w = .ok cv w'∧qz K R (.returned cv) w'):aC P G f args H R:=fun K w cargs _ hi hv=>by
 obtain ⟨cv,w',h1,h2⟩:=hr K w cargs hi hv;exact .inr ⟨cv,w',by rw [h.run,h1];rfl,h2⟩
theorem y7(h:nQ P f Extern.BytealgCount.count)(s:List UInt8)(c:Int)(H:List AObj) :
  aC P G f [.str s,.int .u8 c] H fun r H'=>r = .ret (.int .i64 (Lib.countByte s c.toNat.toUInt8:Nat))∧H'=H:=h.calls fun K w cargs hi hv=>by
 obtain ⟨x,y,rfl,hx,hy⟩:=kU hv;cases hx;cases hy;exact ⟨_,_,Lib.run_countString _ _ _,K,.ret (.int .i64 (Lib.countByte s c.toNat.toUInt8:Nat)),H,.refl K,V.int _ _,hi,rfl,rfl⟩
theorem y8(h:nQ P f Extern.BytealgIndexByte.indexByte)(s:List UInt8)(c:Int)(H:List AObj) :
  aC P G f [.str s,.int .u8 c] H fun r H'=>r = .ret (.int .i64 (Lib.indexByte s c.toNat.toUInt8))∧H'=H:=h.calls fun K w cargs hi hv=>by
 obtain ⟨x,y,rfl,hx,hy⟩:=kU hv;cases hx;cases hy;exact ⟨_,_,Lib.run_indexByteString _ _ _,K,.ret (.int .i64 (Lib.indexByte s c.toNat.toUInt8)),H,.refl K,V.int _ _,hi,rfl,rfl⟩
theorem zV(h:nQ P f Extern.AbiNoEscape.same)(v:AV)(H:List AObj):aC P G f [v] H fun r H'=>r = .ret v∧H'=H:=h.calls fun K w cargs hi hv=>by
 obtain ⟨x,rfl,hx⟩:=qK hv;exact ⟨_,_,Lib.run_noEscape _ x,K,.ret v,H,.refl K,hx,hi,rfl,rfl⟩
theorem x5{ps:Array TypeId}{t e:TypeId}(h:nQ P f (Extern.BytealgMakeNoZero.makeNoZero ps #[t]))(ht:P.underlying t=some (.slice e))(n:Nat)(hn:n≤281474976710656)(H:List AObj) :
  aC P G f [.int .i64 n] H fun r H'=>r = .ret (.rslice H.length 0 n 1 true)∧H'=H++[.cells (List.replicate n .unk) e]:=h.calls fun K w cargs hi hv=>by
 obtain ⟨x,rfl,hx⟩:=qK hv;cases hx;obtain ⟨cs,h1,h2,_⟩:=Lib.run_makeNoZero w ps t e ht n hn;have hi2:=hi.drew.drew;have hal:=hi2.allocObj (.cells (List.replicate n .unk) e) (.cells cs e) rfl (some (.rows cs.size)) (fun s h=>by cases h;exact ⟨cs,e,(0,0),by rw [heap_alloc,if_pos rfl],rfl⟩) fun w' hw' g1 g2=>
  ⟨w.drew.drew.heap.size,cs,e,by simp [aa.pushS],hi2.new,hw',by simpa using h2,fun k av hk=>by
   have:=List.mem_replicate.1 (List.mem_of_getElem? hk);rw [this.2];exact .unk _,g1,g2,by simp [aa.pushS],rfl⟩
 refine ⟨_,_,h1,K.pushS w.drew.drew.heap.size (some (.rows cs.size)),.ret (.rslice H.length 0 n 1 true),_,K.le_pushS _ _ hi2.shape_base, ?_,hal,rfl,rfl⟩;exact V.rslice _ _ _ _ _ _ _ (by simp [aa.pushS,← hi.len]) h2 (fun _=>⟨cs.size,by simp [aa.pushS],by omega⟩)
end
def woK(E0:du)(n:Nat)(f:FuncId)(args:List AV)(H:List AObj):Option (AV×List Nat):=
 bif wkbL 0 args then (match qY AN E0 n f args [] with
  |some (.ret v0,H1)=>match fzV 0 H1 v0 with
   |some v=>some (v,[])
   |none=>none
  |_=>none)
 else bif wkbL H.length args&&H.all (zT H.length) then (match qY AN E0 n f args H with
  |some (.ret v0,H1)=>bif mF H H1 then (match fzV H.length H1 v0 with
   |some v=>some (v,List.range H.length)
   |none=>none) else none
  |_=>none)
 else none
theorem uI{n:Nat}{l:List AV}(h:wkbL n l=true):∀ a∈l,wkb n a=true:=fun a ha=>by
 obtain ⟨i,hi⟩:=List.mem_iff_getElem?.1 ha;exact dc h hi
theorem y9{α:Type}{H H2:List α}(h:∀ i,i<H.length→H2[i]?=H[i]?):H.length≤H2.length:=by
 refine Nat.le_of_not_lt fun e => ?_
 have h1:=h H2.length e;rw [List.getElem?_eq_none (Nat.le_refl _),List.getElem?_eq_getElem e] at h1;cases h1
theorem zW{E0:du}(h0:E0.Ok)(hG:∀ n g cs,E0.G g=some cs→wkbL n cs=true){n:Nat}{f:FuncId}{args:List AV}{H:List AObj}{v:AV}{L:List Nat}(h:woK E0 n f args H=some (v,L)) :
  ∀ H2:List AObj,(∀ id∈L,id<H.length→H2[id]?=H[id]?)→aC E0.P E0.G f args H2 fun r H'=>r = .ret v∧H'=H2:=by
 intro H2 hag;unfold woK at h;cases hw:wkbL 0 args with
 |true=>
  rw [hw,cond_true] at h;split at h
  ·rename_i v0 H1 hc
   split at h
   ·rename_i v' hf
    cases h;exact aC.frame (He:=[]) ((pA h0 n).2 _ _ _ _ _ hc |>.mono fun r H' e=>e) (by simp) hG (uI hw) (fun x hx=>by simp at hx) hf H2 (by simp) (fun i x hx=>by simp at hx) (fun t fr T ht=>by simp at ht)
   ·cases h
  ·cases h
 |false=>
  rw [hw,cond_false] at h;cases hw2:wkbL H.length args&&H.all (zT H.length) with
  |false=>rw [hw2] at h;cases h
  |true=>
   rw [hw2,cond_true] at h;simp only [Bool.and_eq_true] at hw2;split at h
   ·rename_i v0 H1 hc
    cases hb:mF H H1 with
    |false=>rw [hb] at h;cases h
    |true=>
     rw [hb,cond_true] at h;split at h
     ·rename_i v' hf
      cases h;exact aC.frame ((pA h0 n).2 _ _ _ _ _ hc |>.mono fun r H' e=>e) (kX hb) hG (uI hw2.1) (fun x hx=>List.all_eq_true.1 hw2.2 x hx) hf H2 (y9 fun i hi=>hag i (by simpa using hi) hi) (fun i x hx=>.inr ((hag i (by simpa using (List.getElem?_eq_some_iff.1 hx).1) (List.getElem?_eq_some_iff.1 hx).1).trans hx)) (fun t fr T hlt ht=>(hag t (by simpa using hlt) hlt).symm.trans ht)
     ·cases h
   ·cases h
def uJ:List AObj→List AObj→Bool
 |[],_=>true
 |.dead::_,.tok _ _::_=>false
 |.dead::l,_::m=>uJ l m
 |x::l,y::m=>AObj.eqb x y&&uJ l m
 |_,_=>false
theorem yw:∀ {H H2:List AObj},uJ H H2=true→H.length≤H2.length∧(∀ (i:Nat) (x:AObj),H[i]?=some x→x = .dead∨H2[i]?=some x) ∧
  (∀ (t fr:Nat) (T:TypeId),t<H.length→H2[t]?=some (.tok fr T)→H[t]?=some (.tok fr T))
 |[],_,_=>⟨by simp,fun i x h=>by simp at h,fun t fr T h=>by simp at h⟩
 |x::l,[],h=>by cases x<;>simp [uJ] at h
 |x::l,y::m,h=>by
  have key:(x = .dead∧∀ fr T,y≠.tok fr T)∨x=y:=by
   cases x<;>cases y<;>simp only [uJ,Bool.and_eq_true] at h<;>first | (cases h;done) | exact .inr (AObj.eqb_eq h.1) | exact .inl ⟨rfl,fun _ _ e=>by cases e⟩
  have hr:uJ l m=true:=by
   cases x<;>cases y<;>simp only [uJ,Bool.and_eq_true] at h<;>first | (cases h;done) | exact h.2 | exact h
  obtain ⟨h1,h2,h3⟩:=yw hr;refine ⟨by simpa using h1,fun i z hz => ?_,fun t fr T ht hz => ?_⟩
  ·cases i with
   |zero=>simp at hz;subst hz;rcases key with ⟨h,_⟩ | h
          ·exact .inl h
          ·exact .inr (by simp [h])
   |succ i=>simp at hz;simpa using h2 i z hz
  ·cases t with
   |zero=>simp at hz;subst hz;rcases key with ⟨_,h⟩ | h
          ·exact absurd rfl (h fr T)
          ·simp [h]
   |succ t=>simp at hz ht;simpa using h3 t fr T ht hz
def yx(E0:du)(n:Nat)(f:FuncId)(args:List AV)(H:List AObj):Option AV:=
 bif wkbL H.length args&&H.all (zT H.length) then (match qY AN E0 n f args H with
  |some (.ret v0,H1)=>bif mF H H1 then fzV H.length H1 v0 else none
  |_=>none)
 else none
theorem xy{E0:du}(h0:E0.Ok)(hG:∀ n g cs,E0.G g=some cs→wkbL n cs=true){n:Nat}{f:FuncId}{args:List AV}{He:List AObj}{v:AV}
  (h:yx E0 n f args He=some v) {H2:List AObj} (hb:uJ He H2=true):aC E0.P E0.G f args H2 fun r H'=>r = .ret v∧H'=H2:=by
 unfold yx at h;cases hw2:wkbL He.length args&&He.all (zT He.length) with
 |false=>rw [hw2] at h;cases h
 |true=>
  rw [hw2,cond_true] at h;simp only [Bool.and_eq_true] at hw2;split at h
  ·rename_i v0 H1 hc
   cases hb2:mF He H1 with
   |false=>rw [hb2] at h;cases h
   |true=>
    rw [hb2,cond_true] at h;obtain ⟨h1,h2,h3⟩:=yw hb;exact aC.frame ((pA h0 n).2 _ _ _ _ _ hc |>.mono fun r H' e=>e) (kX hb2) hG (uI hw2.1) (fun x hx=>List.all_eq_true.1 hw2.2 x hx) h H2 h1 h2 h3
  ·cases h
end Go.Am
end
section
namespace Go.Am
def aG(P:Program)(G:Nat→Option (List AV))(f:FuncId)(af:AFn):Prop:=zA P G af.muts f=some (af.c.strip,af.n,af.res,af.dfr.map fun x=>(x.1,x.2.1,x.2.2.strip))
def AFn.k(a:AFn):AFn:=⟨a.c.strip,a.n,a.res,.keep,a.muts,none⟩
def yy(P:Program)(G:Nat→Option (List AV))(f:FuncId)(x:Nat×AFn):Prop:=xo P G f=some (x.1,x.2.c.strip,x.2.n,x.2.res)∧x.2.dfr=none
theorem zX{α:Type}{C:Nat→α→Prop}{f k:Nat}{a af:α}(hc:C k a)(h:(bif Nat.beq f k then some a else none)=some af):C f af:=by
 cases hb:Nat.beq f k with
 |false=>rw [hb] at h;cases h
 |true=>rw [hb] at h;cases h;rw [Nat.eq_of_beq_eq_true hb];exact hc
def AO{α:Type}:List (Nat×α)→Nat→Option α
 |[],_=>none
 |p::l,f=>bif Nat.beq f p.1 then some p.2 else AO l f
def yz{α:Type}:List (Nat×List (Nat×α))→Nat→Option α
 |[],_=>none
 |p::l,f=>bif Nat.ble f p.1 then AO p.2 f else yz l f
def ft{α:Type}(C:Nat→α→Prop):List (Nat×α)→Prop
 |[]=>True
 |p::l=>C p.1 p.2∧ft C l
def x6{α:Type}(C:Nat→α→Prop):List (Nat×List (Nat×α))→Prop
 |[]=>True
 |p::l=>ft C p.2∧x6 C l
theorem yA{α:Type}{C:Nat→α→Prop}{f:Nat}{a:α}:∀ {l:List (Nat×α)},ft C l→AO l f=some a→C f a
 |[],_,h=>by cases h
 |p::l,h,e=>by
  unfold AO at e;cases hb:Nat.beq f p.1 with
  |true=>rw [hb] at e;cases e;rw [Nat.eq_of_beq_eq_true hb];exact h.1
  |false=>rw [hb] at e;exact yA h.2 e
theorem xz{α:Type}{C:Nat→α→Prop}{f:Nat}{a:α}:∀ {l:List (Nat×List (Nat×α))},x6 C l→yz l f=some a→C f a
 |[],_,h=>by cases h
 |p::l,h,e=>by
  unfold yz at e;cases hb:Nat.ble f p.1 with
  |true=>rw [hb] at e;exact yA h.1 e
  |false=>rw [hb] at e;exact xz h.2 e
end Go.Am
end
section
namespace Go.Am
structure fu where
 f:FuncId
 args:List AV
 heap:List AObj
 v:AV
def dd(n:Nat)(l:List AObj):List AObj:=List.replicate n .dead++l
def yB(f:FuncId)(args:List AV)(H:List AObj):List fu→Option AV
 |[]=>none
 |p::ps=>bif Nat.beq f p.f&&AV.eqbL args p.args&&uJ p.heap H then some p.v else yB f args H ps
def pin(f:FuncId):List fu→Bool
 |[]=>false
 |p::ps=>bif Nat.beq f p.f then true else pin f ps
def fu.Ok(P:Program)(G:Nat→Option (List AV))(p:fu):Prop:=∀ H2,uJ p.heap H2=true→aC P G p.f p.args H2 fun r H'=>r = .ret p.v∧H'=H2
def Cc(E0:du):du := { E0 with wo:=woK E0 100000 }
def Bw(E0:du)(ps:List fu)(f:FuncId)(args:List AV)(H:List AObj):Option Out:=
 match yB f args H ps with
 |some v=>some (.ret v,H)
 |none=>bif pin f ps then qY AN (Cc E0) 100000 f args H else E0.orc f args H
def EPo(E0:du)(ps:List fu):du := { E0 with fn:=fun f=>bif pin f ps then none else E0.fn f,orc:=Bw E0 ps }
def EP(E0:du)(ps:List fu):du := { EPo E0 ps with wo:=woK (EPo E0 ps) 100000 }
theorem xA{P:Program}{G:Nat→Option (List AV)}{f:FuncId}{args:List AV}{H:List AObj}{v:AV}:∀ {ps:List fu},(∀ p∈ps,p.Ok P G)→yB f args H ps=some v→aC P G f args H fun r H'=>r = .ret v∧H'=H
 |[],_,h=>by cases h
 |p::ps,hp,h=>by
  unfold yB at h;cases hb:(Nat.beq f p.f&&AV.eqbL args p.args&&uJ p.heap H) with
  |true=>
   rw [hb] at h;cases h;simp only [Bool.and_eq_true] at hb;rw [Nat.eq_of_beq_eq_true hb.1.1,AV.eqbL_eq hb.1.2];exact hp p (by simp) H hb.2
  |false=>rw [hb] at h;exact xA (fun q hq=>hp q (by simp [hq])) h
section
variable{E0:du}(h0:E0.Ok)(hG:∀ n g cs,E0.G g=some cs→wkbL n cs=true)
include h0 hG in
theorem AP:(Cc E0).Ok:=⟨h0.mixed,h0.fn,h0.dfn,fun _ _ _ _ _ h=>zW h0 hG h,h0.orc,h0.meth,h0.seq⟩
include h0 hG in
theorem Bx{ps:List fu}(hp:∀ p∈ps,p.Ok E0.P E0.G)(hw:∀ f args H,E0.wo f args H=none):(EPo E0 ps).Ok:=⟨h0.mixed,fun f af h=>by
  have h':(bif pin f ps then none else E0.fn f)=some af:=h;cases hb:pin f ps with
  |true=>rw [hb] at h';cases h'
  |false=>rw [hb] at h';exact h0.fn f af h',h0.dfn,(fun f args H v L h=>by
  have h':E0.wo f args H=some (v,L):=h;rw [hw] at h';cases h'),fun f args H r H' h=>by
  have h':Bw E0 ps f args H=some (r,H'):=h;unfold Bw at h';split at h'
  ·rename_i v hv
   cases h';exact xA hp hv
  ·cases hb:pin f ps with
   |true=>
    rw [hb] at h';exact ((pA (AP h0 hG) 100000).2 _ _ _ _ _ h').mono fun r H' e=>e
   |false=>rw [hb] at h';exact h0.orc _ _ _ _ _ h',h0.meth,h0.seq⟩
include h0 hG in
theorem Bg{ps:List fu}(hp:∀ p∈ps,p.Ok E0.P E0.G)(hw:∀ f args H,E0.wo f args H=none):(EP E0 ps).Ok:=
 have h:=Bx h0 hG hp hw
 ⟨h.mixed,h.fn,h.dfn,fun _ _ _ _ _ e=>zW h hG e,h.orc,h.meth,h.seq⟩
include h0 hG in
theorem oV{ps:List fu}(hp:∀ p∈ps,p.Ok E0.P E0.G)(hw:∀ f args H,E0.wo f args H=none){p:fu}(h:yx (EP E0 ps) 100000 p.f p.args p.heap=some p.v):∀ q∈p::ps,q.Ok E0.P E0.G:=fun q hq=>by
 rcases List.mem_cons.1 hq with rfl | hq
 ·exact fun H2 hs=>xy (Bg h0 hG hp hw) hG h hs
 ·exact hp q hq
end
end Go.Am
end
section
namespace Go.Am
open Go.RowKit Go.ChangeShapes
def aa.start(W:World)(G:Nat→Option (List AV)):aa:=
 {imm:=fun b o=>W.cell? ⟨b,o,none⟩,own:=fun _=>none,loc:=[],base:=fun b=>W.heap.size≤b,w0:=W,glob:=G,shape:=pV W }
theorem Inv.start(W:World)(G:Nat→Option (List AV))(hG:∀ (g:Nat) (cs:List AV),G g=some cs→V (aa.start W G) (.vptr cs.length [cs] 0 0) (.pointer (some ⟨g,0,none⟩))):Inv (aa.start W G) [] W:=
 ⟨gp.refl _ _,fun _ h=>h,fun _ _ _ h=>h,rfl,(fun id x h=>by simp at h),(fun i j x y h=>by simp at h),(fun b t n h=>by cases h),hG,fun b s h=>xx h⟩
section
variable{P:Program}
theorem za{G:Nat→Option (List AV)}{f:FuncId}{args:List AV}{W:World}{cargs:Array Value}(h:aC P G f args [] fun r H'=>r = .ret (.bool true)∧H'=[])
  (hG:∀ (g:Nat) (cs:List AV),G g=some cs→V (aa.start W G) (.vptr cs.length [cs] 0 0) (.pointer (some ⟨g,0,none⟩)))
  (hb:(callFunc f cargs).run P W = .ok (.enter f cargs) W) (hv:Vs (aa.start W G) args cargs):Calls P f cargs W fun e w'=>e = .returned (.bool true)∧Below W.heap.size W w':=by
 rcases h (aa.start W G) W cargs rfl (Inv.start W G hG) hv with ⟨_,h2⟩ | ⟨cv,w',h1,_⟩
 ·refine h2.mono ?_
  rintro e w' ⟨K',r,H',hk,he,hi,rfl,rfl⟩;have hkept:=hi.below;rw [hk.base,hk.w0] at hkept;refine ⟨?_,hkept.below fun b hb=>hb⟩;cases e with
  |panicked c=>exact he.elim
  |outgrown=>exact he.elim
  |returned x=>
   have hx:V K' (.bool true) x:=he;cases hx;rfl
 ·rw [hb] at h1;cases h1
theorem pW{H:Type}{enc:TypeId×Value→H}(hl:laidOutB P=true){W W':World}(hb:Below W.heap.size W W'):∀ (ts:List TypeId) (vs:List Value) (ds:List (DataW H)) (ps:List MemPlace),
  (∀ t∈ts,P.readableRec t=true∧t<P.types.size)→DataW.TrodAll enc P W 0 (fun _=>true) true ts vs ds ps→(∀ x∈ps,x.block<W.heap.size) →
  DataW.TrodAll enc P W' 0 (fun b=>decide (b<W.heap.size)) true ts vs ds ps
 |[],_,_,_,_,h,_=>by
  obtain ⟨rfl,rfl,rfl⟩:=trodAll_nil h;rfl
 |t::ts,_,_,_,hr,h,hlt=>by
  obtain ⟨v,vs1,d,ds1,a,b,rfl,rfl,rfl,h1,h2⟩:=trodAll_cons h;exact ⟨a,b,Below.trod hl (hr t (by simp)).1 (hr t (by simp)).2 h1 hb (fun x hx=>hlt x (by simp [hx])),pW hl hb ts vs1 ds1 b (fun u hu=>hr u (by simp [hu])) h2 (fun x hx=>hlt x (by simp [hx])),rfl⟩
end
end Go.Am
end
section
namespace Go.Am.Sh
open Go.RowKit
abbrev t(n:Nat):RX:=.t n
abbrev i(n:Int):RX:=.c (.int .i64 n)
abbrev u(n:Int):RX:=.c (.int .u8 n)
abbrev T:RX:=.c (.bool true)
abbrev F:RX:=.c (.bool false)
abbrev s(x:List UInt8):RX:=.c (.str x)
abbrev f(n:Nat):RX:=.c (.fn (.func n) [] [])
abbrev o(d:Nat)(x:ROp):RO:=⟨some d,none,.op x⟩
abbrev n(x:ROp):RO:=⟨none,none,.op x⟩
abbrev g(d q:Nat)(x:ROp):RO:=⟨some d,some (q,true),.op x⟩
abbrev h(d q:Nat)(x:ROp):RO:=⟨some d,some (q,false),.op x⟩
abbrev k(d:Nat)(x:RX)(l:List RX):RO:=⟨some d,none,.call x l⟩
abbrev m(d x:Nat):RO:=⟨some d,none,.op (.mv (.t x))⟩
abbrev mc(d:Nat)(x:RX):RO:=⟨some d,none,.op (.mv x)⟩
abbrev ld(d x:Nat):RO:=⟨some d,none,.op (.ld none (.t x))⟩
abbrev la(d j x:Nat):RO:=⟨some d,none,.op (.ld (some j) (.t x))⟩
abbrev fa(d j x:Nat):RO:=⟨some d,none,.op (.fa j (.t x))⟩
abbrev ia(d j x y:Nat):RO:=⟨some d,none,.op (.ias j (.t x) (.t y))⟩
abbrev ls(d x:Nat):RO:=⟨some d,none,.op (.len .sl (.t x))⟩
abbrev lt(d x:Nat):RO:=⟨some d,none,.op (.len .str (.t x))⟩
abbrev ad(d x:Nat):RO:=⟨some d,none,.op (.ar .add (.t x) (.c (.int .i64 1)))⟩
abbrev bl(d x y:Nat):RO:=⟨some d,none,.op (.ar .lss (.t x) (.t y))⟩
abbrev no(d x:Nat):RO:=⟨some d,none,.op (.un .not (.t x))⟩
abbrev ex(d x j:Nat):RO:=⟨some d,none,.op (.ex (.t x) j)⟩
abbrev P(x:RO):RO×Cl:=(x,.pure)
abbrev W(x:RO):RO×Cl:=(x,.wide)
abbrev E(x:RO):RO×Cl:=(x,.eff)
abbrev K(x:RO):RO×Cl:=(x,.keep)
abbrev Q(x y:AC):AC:=.seq x y
abbrev C(c:Nat)(x y:AC):AC:=.cond (.t c) x y
abbrev O(l:List RO):AC:=.ops l
abbrev D(l:List (RO×Cl)):AC:=.dops false [] [] l
abbrev R:AC:=.ret
abbrev X:AC:=.skip
abbrev ar(d:Nat)(op:BinOp)(x y:Nat):RO:=⟨some d,none,.op (.ar op (.t x) (.t y))⟩
abbrev ac(d:Nat)(op:BinOp)(x:Nat)(y:RX):RO:=⟨some d,none,.op (.ar op (.t x) y)⟩
abbrev pf(d c x:Nat):RO:=⟨some d,none,.op (.pk (.t c) (.t x) (.c (.bool false)))⟩
abbrev pt(d c x:Nat):RO:=⟨some d,none,.op (.pk (.t c) (.c (.bool true)) (.t x))⟩
abbrev k1(d f x:Nat):RO:=⟨some d,none,.call (.c (.fn (.func f) [] [])) [.t x]⟩
abbrev k2(d f x y:Nat):RO:=⟨some d,none,.call (.c (.fn (.func f) [] [])) [.t x,.t y]⟩
abbrev rt(d:Nat)(x:RX):AC:=.seq (.ops [⟨some d,none,.op (.mv x)⟩]) .ret
abbrev lo(l:List Nat)(x:AC):AC:=.loop ⟨some l,[],false⟩ x
abbrev ic(b a c:Nat):AC:=.ops [⟨some b,none,.op (.mv (.t a))⟩,⟨some c,none,.op (.ar .add (.t b) (.c (.int .i64 1)))⟩,⟨some a,none,.op (.mv (.t c))⟩]
abbrev Pm(d x:Nat):RO×Cl:=(⟨some d,none,.op (.mv (.t x))⟩,.pure)
abbrev Pf(d j x:Nat):RO×Cl:=(⟨some d,none,.op (.fa j (.t x))⟩,.pure)
abbrev Wl(d x:Nat):RO×Cl:=(⟨some d,none,.op (.ld none (.t x))⟩,.wide)
end Go.Am.Sh
end
section
namespace Go.Am
def x7(cap:List AV)(H:List AObj):Option (List (List AV)×List Nat):=
 match cap with
 |[.ptr id 0]=>match H[id]? with
  |some (.cells [.nilp] _)=>some ([],[])
  |some (.cells [.ptr id2 0] _)=>match H[id2]? with
   |some (.cells [_,_,_,_,_,_,.nilp] _)=>some ([],[])
   |_=>none
  |_=>none
 |_=>none
end Go.Am
end
section
namespace Go.Am
open Go.RowKit
def bH:FuncId:=6
def nV:FuncId:=9
def vo:FuncId:=10
def pX:FuncId:=15
def mH:FuncId:=19
def mI:FuncId:=21
def iY:FuncId:=22
def j9:FuncId:=23
def wN:FuncId:=28
def nR:FuncId:=29
def pD:FuncId:=30
def iZ:FuncId:=37
def nW:FuncId:=38
def ee:FuncId:=39
def vp:FuncId:=43
def mJ:FuncId:=44
def sU:FuncId:=45
def mK:FuncId:=46
def nX:FuncId:=47
def sV:FuncId:=48
def mL:FuncId:=49
def nY:FuncId:=50
def sW:FuncId:=51
def mM:FuncId:=52
def nZ:FuncId:=53
def sX:FuncId:=54
def mN:FuncId:=55
def n0:FuncId:=56
def sY:FuncId:=57
def n4:FuncId:=58
def oW:FuncId:=59
def kY:FuncId:=67
def bV:FuncId:=69
def fY:FuncId:=70
def q4:FuncId:=71
def ka:FuncId:=72
def vq:FuncId:=76
def fZ:FuncId:=77
def ja:FuncId:=78
def n5:FuncId:=79
def vr:FuncId:=80
def aR:FuncId:=81
def rG:FuncId:=82
def ai:FuncId:=86
def iv:FuncId:=88
def kZ:FuncId:=89
def aS:FuncId:=91
def mO:FuncId:=92
def cg:FuncId:=93
def k6:FuncId:=94
def bM:FuncId:=95
def cj:FuncId:=96
def k7:FuncId:=97
def n9:FuncId:=98
def k8:FuncId:=99
def bI:FuncId:=100
def bW:FuncId:=101
def ey:FuncId:=102
def pY:FuncId:=103
def cq:FuncId:=104
def k9:FuncId:=105
def cU:FuncId:=106
def lf:FuncId:=107
def vt:FuncId:=108
def bk:FuncId:=109
def lg:FuncId:=110
def jb:FuncId:=111
def oX:FuncId:=112
def mP:FuncId:=128
def kb:FuncId:=131
def jX:FuncId:=132
def jY:FuncId:=133
def uK:FuncId:=134
def jq:FuncId:=135
def lj:FuncId:=136
def cI:FuncId:=138
def mQ:FuncId:=139
def oY:FuncId:=140
def q5:FuncId:=141
def gQ:FuncId:=142
def gR:FuncId:=143
def sZ:FuncId:=144
def a8:FuncId:=145
def s3:FuncId:=146
def s4:FuncId:=147
def s5:FuncId:=148
def oZ:FuncId:=149
def kd:FuncId:=150
def s6:FuncId:=151
def s7:FuncId:=152
def s8:FuncId:=153
def s9:FuncId:=154
def bb:FuncId:=155
def mR:FuncId:=156
def gS:FuncId:=157
def uL:FuncId:=158
def uM:FuncId:=159
def aT:FuncId:=160
def gT:FuncId:=161
def aU:FuncId:=162
def oa:FuncId:=163
def ke:FuncId:=164
def jd:FuncId:=165
def q6:FuncId:=166
def de:FuncId:=167
def dL:FuncId:=168
def aw:FuncId:=169
def tb:FuncId:=170
def q7:FuncId:=171
def bJ:FuncId:=172
def mS:FuncId:=175
def bg:FuncId:=176
def pE:FuncId:=177
def iw:FuncId:=180
def mT:FuncId:=181
def q8:FuncId:=182
def bB:FuncId:=183
def bp:FuncId:=184
def aE:FuncId:=185
def cr:FuncId:=186
def uN:FuncId:=187
def vu:FuncId:=188
def aW:FuncId:=189
def mU:FuncId:=190
def kf:FuncId:=191
def gU:FuncId:=192
def fR:FuncId:=193
def gu:FuncId:=194
def dM:FuncId:=195
def rH:FuncId:=197
def mV:FuncId:=198
def fv:FuncId:=199
def pF:FuncId:=201
def oc:FuncId:=202
def mW:FuncId:=203
def dv:FuncId:=204
def aK:FuncId:=205
def bQ:FuncId:=206
def je:FuncId:=207
def cJ:FuncId:=208
def ll:FuncId:=209
def q9:FuncId:=210
def jf:FuncId:=211
def aH:FuncId:=212
def gV:FuncId:=213
def jZ:FuncId:=214
def gW:FuncId:=215
def fS:FuncId:=216
def jr:FuncId:=217
def qb:FuncId:=219
def ef:FuncId:=220
def vv:FuncId:=221
def bC:FuncId:=222
def fw:FuncId:=223
def aq:FuncId:=224
def eR:FuncId:=225
def iy:FuncId:=226
def od:FuncId:=227
def o1:FuncId:=228
def pG:FuncId:=229
def mX:FuncId:=230
def iz:FuncId:=231
def iA:FuncId:=232
def fx:FuncId:=234
def eS:FuncId:=235
def eh:FuncId:=236
def tc:FuncId:=237
def re:FuncId:=238
def eB:FuncId:=239
def pH:FuncId:=240
def gX:FuncId:=241
def aI:FuncId:=242
def rh:FuncId:=243
def fT:FuncId:=244
def aL:FuncId:=245
def nS:FuncId:=246
def fy:FuncId:=247
def ae:FuncId:=248
def fU:FuncId:=249
def dg:FuncId:=250
def eT:FuncId:=251
def dh:FuncId:=252
def dN:FuncId:=253
def dw:FuncId:=254
def bO:FuncId:=255
def cV:FuncId:=256
def eC:FuncId:=257
def ri:FuncId:=258
def bS:FuncId:=259
def bq:FuncId:=260
def ln:FuncId:=261
def mY:FuncId:=262
def aA:FuncId:=263
def bN:FuncId:=264
def aO:FuncId:=265
def Cd:TypeId:=3
def x8:TypeId:=4
def mZ:TypeId:=5
def ct:TypeId:=9
def cH:TypeId:=28
def qc:TypeId:=39
def sO:TypeId:=42
def ag:TypeId:=52
def rI:TypeId:=55
def kg:TypeId:=62
def aY:TypeId:=64
def gv:TypeId:=67
def bc:TypeId:=70
def aM:TypeId:=72
def j0:TypeId:=75
def ez:TypeId:=77
def gy:TypeId:=79
def jg:TypeId:=81
def uO:TypeId:=85
def fA:TypeId:=96
def aN:TypeId:=105
def kh:TypeId:=128
def jh:TypeId:=138
def ki:TypeId:=145
def wO:TypeId:=148
def rj:TypeId:=171
def sP:TypeId:=210
def nT:TypeId:=234
def x9:TypeId:=248
def ya:TypeId:=263
def qd:TypeId:=272
def ah:TypeId:=276
def bD:TypeId:=279
def bX:TypeId:=291
def na:TypeId:=299
def o3:TypeId:=301
def rk:TypeId:=309
end Go.Am
end
