import Derived.Test.YtnknpmlcimogcaaGreatDoorA2
import Derived.Recover
import Derived.IntWalk
/-
  Part 3 of the tool: an abstract machine over the model, proved sound, and what it says of the functions that the law reaches. Condition: none but those that each theorem names.
-/
set_option linter.unusedVariables false
set_option linter.unusedSimpArgs false
set_option maxRecDepth 100000
set_option maxHeartbeats 4000000
namespace Go.Am
open Go.RowKit
section
variable{P:Program}{G:Nat→Option (List AV)}{K:aC}{N:Fr}{a:Env}{H:List Y4}{act:Act}{w:World}
theorem Wj{o:Oper}{v:AV}{H':List Y4}(hd:∀ d,o.dst=some d→d<N.n)(hr:Rel N K a H act w)(hok:HH P K ((execOp act.eval o).run P w) v H'){next:Act→World→Prop}{Q:Exit→Act→World→Prop}
  (hn:∀ K' act' w',K.le K'→Rel N K' (kE a o.dst v) H' act' w'→next act' w') (hdf:∀ c,o.op≠.defer c):o.wpIn N.F 0 P act w next Q:=by
 obtain ⟨K',cv,w',h1,h2,h3,h4⟩:=hok;have hr':=hr.put h1 h4 (dst:=o.dst) h3 hd;refine ⟨fun f _=>N.fn f, ?_⟩;rw [Oper.semAt_eq _ _ _ hdf];rcases h2 with h2 | ⟨h2,rfl⟩
 ·rw [h2];exact hn K' _ _ h1 hr'
 ·rw [h2];exact hn K' _ _ h1 hr'
theorem G8{o:Oper}{c:Call}{f:Operand}{ts:List TypeId}(hop:o.op = .call c)(hcal:c.callee = .value f)(hg:K.ZC=G)(hd:∀ d,o.dst=some d→d<N.n)(hr:Rel N K a H act w)
  {g:FuncId}{first cap:List AV} (he:rx a (ZQ G f) = .fn (.func g) first cap) {R:uY→List Y4→Prop} (hc:dL P G g (first++(sO P G c.args.toList ts).map (rx a)++cap) H R)
  {next:Act→World→Prop}{Q:Exit→Act→World→Prop}
  (hn:∀ K' v H' act' w',K.le K'→Rel N K' (kE a o.dst v) H' act' w'→R (.ret v) H'→next act' w')
  (hp:∀ K' v cv H' w',K.le K'→V K' v cv→Rel N K' a H' act w'→R (.panic v) H'→Q (.panic [{ v:=cv,recovered:=false }]) act w'):o.wpIn N.F 0 P act w next Q:=by
 have hf:=oD hg hr f;rw [he] at hf;obtain ⟨vs,us,hfe,h1,h2⟩:=hf.ade;have hargs:=(h1.append (Kd (P:=P) hg hr c.args ts)).append h2
 have hex:(execOp act.eval o).run P w=(callFunc g (vs++c.args.map act.eval++us)).run P w:=by
  unfold execOp;simp only [hop,resolve,hcal,hfe,Deferred.ofValue,invoke,pure_bind]
 refine ⟨fun f _=>N.fn f, ?_⟩;rw [Oper.semAt_eq _ _ _ (fun c e=>by rw [hop] at e;cases e),hex];rcases hc K w _ hg hr.inv hargs with ⟨hrun,hcalls⟩ | ⟨cv,w',hrun,K',r,H',hk,he',hi',hR⟩
 ·rw [hrun,Oper.uponIn_enter]
  refine ⟨N.dep, ?_⟩;refine CallsIn.mono (F:=N.F) (callsIn_wide.2 hcalls) ?_;rintro e w' ⟨K',r,H',hk,he',hi',hR⟩;cases e with
  |returned x=>
   cases r with
   |ret v=>exact hn K' v H' _ _ hk (hr.put hk hi' he' hd) hR
   |panic v=>exact (he':False).elim
  |panicked ch=>
   cases r with
   |ret v=>exact (he':False).elim
   |panic v=>
    obtain ⟨cv,rfl,hv⟩:=he';exact hp K' v cv H' w' hk hv ⟨hi',hr.defers.mono hk,hr.size,fun t=>(hr.tmps t).mono hk⟩ hR
  |outgrown=>cases r<;>exact (he':False).elim
 ·rw [hrun,Oper.uponIn_value]
  cases r with
  |ret v=>exact hn K' v H' _ _ hk (hr.put hk hi' he' hd) hR
  |panic v=>exact (he':False).elim
theorem R7{o:Oper}{c:Call}{x:Operand}{n:String}{ts:List TypeId}(hop:o.op = .call c)(hcal:c.callee = .invoke x n)(hg:K.ZC=G)(hd:∀ d,o.dst=some d→d<N.n)(hr:Rel N K a H act w)
  {g:FuncId}{t:TypeId}{u:AV} (he:rx a (ZQ G x) = .iface t u) (hm:∀ (v:Value) (w:World),(method (P.types.size+Made.depth) t v n).run P w = .ok (g,v) w) {R:uY→List Y4→Prop} (hc:dL P G g (([u]++(sO P G c.args.toList ts).map (rx a))++[]) H R)
  {next:Act→World→Prop}{Q:Exit→Act→World→Prop}
  (hn:∀ K' v H' act' w',K.le K'→Rel N K' (kE a o.dst v) H' act' w'→R (.ret v) H'→next act' w')
  (hp:∀ K' v cv H' w',K.le K'→V K' v cv→Rel N K' a H' act w'→R (.panic v) H'→Q (.panic [{ v:=cv,recovered:=false }]) act w'):o.wpIn N.F 0 P act w next Q:=by
 have hf:=oD hg hr x;rw [he] at hf;obtain ⟨y,hfe,hv⟩:=hf.adD
 have h1:Vs K [u] #[y]:=⟨rfl,fun i av hi=>by
  cases i with
  |zero=>simp at hi;subst hi;simpa using hv
  |succ i=>simp at hi⟩
 have hargs:Vs K (([u]++(sO P G c.args.toList ts).map (rx a))++[]) (#[y]++c.args.map act.eval):=by
  rw [amt];exact h1.append (Kd (P:=P) hg hr c.args ts)
 have hex:(execOp act.eval o).run P w=(callFunc g (#[y]++c.args.map act.eval)).run P w:=by
  have hx:(#[Value.iface t y]++c.args.map act.eval).extract 1 (#[Value.iface t y]++c.args.map act.eval).size=c.args.map act.eval:=by
   apply apk;simp;exact am8 (by simp)
  have h0:(#[Value.iface t y]++c.args.map act.eval)[0]?=some (.iface t y):=by rw [ans (by simp)];rfl
  unfold execOp;simp only [hop,resolve,hcal,hfe,pure_bind,invoke];rw [h0];simp only;rw [hx];simp [callMethod,hm]
 refine ⟨fun f _=>N.fn f, ?_⟩;rw [Oper.semAt_eq _ _ _ (fun c e=>by rw [hop] at e;cases e),hex];rcases hc K w _ hg hr.inv hargs with ⟨hrun,hcalls⟩ | ⟨cv,w',hrun,K',r,H',hk,he',hi',hR⟩
 ·rw [hrun,Oper.uponIn_enter]
  refine ⟨N.dep, ?_⟩;refine CallsIn.mono (F:=N.F) (callsIn_wide.2 hcalls) ?_;rintro e w' ⟨K',r,H',hk,he',hi',hR⟩;cases e with
  |returned x=>
   cases r with
   |ret v=>exact hn K' v H' _ _ hk (hr.put hk hi' he' hd) hR
   |panic v=>exact (he':False).elim
  |panicked ch=>
   cases r with
   |ret v=>exact (he':False).elim
   |panic v=>
    obtain ⟨cv,rfl,hv⟩:=he';exact hp K' v cv H' w' hk hv ⟨hi',hr.defers.mono hk,hr.size,fun t=>(hr.tmps t).mono hk⟩ hR
  |outgrown=>cases r<;>exact (he':False).elim
 ·rw [hrun,Oper.uponIn_value]
  cases r with
  |ret v=>exact hn K' v H' _ _ hk (hr.put hk hi' he' hd) hR
  |panic v=>exact (he':False).elim
theorem WI{o:Oper}{x:Operand}(hop:o.op = .panic x)(hg:K.ZC=G)(hr:Rel N K a H act w){t:TypeId}{v:AV}(he:rx a (ZQ G x) = .iface t v)
  {next:Act→World→Prop}{Q:Exit→Act→World→Prop} (hp:∀ cv,V K (.iface t v) cv→Q (.panic [{ v:=cv,recovered:=false }]) act w):o.wpIn N.F 0 P act w next Q:=by
 have hx:=oD hg hr x;rw [he] at hx;obtain ⟨y,hy,hv⟩:=hx.adD
 have hrun:(execOp act.eval o).run P w = .halt (.panic (.iface t y)) w:=by
  unfold execOp;simp [hop,hy,Instr.panic]
 refine ⟨fun f _=>N.fn f, ?_⟩;rw [Oper.semAt_eq _ _ _ (fun c e=>by rw [hop] at e;cases e),hrun,Oper.uponIn_panic];exact hp _ (.iface t v y hv)
theorem G9{m:Bool}{ty:TypeId}{op:Op}{s:RS}(h:cRS P G m ty op=some s) :
  (∃ c f,op = .call c∧c.callee = .value f∧s = .call (ZQ G f) (sO P G c.args.toList c.argTypes.toList))∨(∃ x,op = .panic x∧s = .panic (ZQ G x))∨(∃ r,cOp P G m ty op=some r∧s = .op r)∨∃ c x n,op = .call c∧c.callee = .invoke x n∧s = .inv (ZQ G x) n (sO P G c.args.toList c.argTypes.toList):=by
 unfold cRS at h;split at h
 ·rename_i c
  split at h
  ·rename_i f hf;cases h;exact .inl ⟨c,f,rfl,hf,rfl⟩
  ·rw [amn] at h
   obtain ⟨r,h1,rfl⟩:=h;exact .inr (.inr (.inl ⟨r,h1,rfl⟩))
  ·rename_i x n hc;cases h;exact .inr (.inr (.inr ⟨c,x,n,rfl,hc,rfl⟩))
 ·rename_i x;cases h;exact .inr (.inl ⟨x,rfl,rfl⟩)
 ·rw [amn] at h
  obtain ⟨r,h1,rfl⟩:=h;exact .inr (.inr (.inl ⟨r,h1,rfl⟩))
theorem Gd{m:Bool}{ty:TypeId}{op:Op}{r:ROp}(h:cOp P G m ty op=some r):∀ c,op≠.defer c:=fun c e=>by subst e;simp [cOp] at h
theorem Ha{m:Bool}{n:Nat}{ops:Array Oper}{o:Oper}{ro:RO}(h:cRO P G m n ops o=some ro):Lr ops o=some ro.g∧cRS P G m o.type o.op=some ro.s∧ro.d=o.dst∧∀ d,o.dst=some d→d<n:=by
 unfold cRO at h;split at h
 ·rename_i g s hg hs
  split at h
  ·rename_i hd
   cases h;refine ⟨hg,hs,rfl,fun d e => ?_⟩;rw [e] at hd;simpa [We] using hd
  ·cases h
 ·cases h
end
section
variable{dec:Dec}{E:br}
theorem Qy{x:AV}{m:String}{g:FuncId}{first cap:List AV}(h:Od E x m = .fn (.func g) first cap):∃ t v,x = .iface t v∧E.adv t m=some g∧first=[v]∧cap=[]:=by
 unfold Od at h;split at h
 ·rename_i t v
  split at h
  ·rename_i g' hm;cases h;exact ⟨t,v,rfl,hm,rfl,rfl⟩
  ·cases h
 ·cases h
def Bw(dec:Dec)(E:br)(n:Nat):Prop:=∀ (g:FuncId) (args:List AV) (H:List Y4) (r:uY) (H':List Y4),Bu dec E n g args H=some (r,H')→dL E.P E.G g args H fun r2 H2=>r2=r∧H2=H'
theorem DZ(hE:E.Ok){n:Nat}(hC:∀ j,j<n→Bw dec E j){fn:Zj}{H0:List Y4}{k:List ZA}{r:Out}{N:Fr}{m:Bool}{nt:Nat}{ops:Array Oper}(hnt:nt≤N.n){K:aC}(hg:K.ZC=E.G){Qc:Exit→Act→World→Prop}{l2:List Nat}
  (hend:∀ (j:Nat) (K':aC) (a:Env) (H:List Y4) (act:Act) (w:World),j<n→K.le K'→Rel N K' a H act w→ev dec E j fn H0 k a H=some r→wpOpsIn N.F 0 E.P ops Qc l2 act w)
  (hpan:∀ (j:Nat) (K':aC) (a:Env) (H:List Y4) (act:Act) (w:World) (v:AV) (cv:Value),j<n→K.le K'→V K' v cv→Rel N K' a H act w→kG dec E (ev dec E j) fn H0 k a v H=some r→Qc (.panic [{ v:=cv,recovered:=false }]) act w) :
  ∀ (os:List Oper) (ros:List RO) (l:List Nat) (j:Nat) (K':aC) (a:Env) (H:List Y4) (act:Act) (w:World),j≤n→ev dec E j fn H0 (.c (.ops ros)::k) a H=some r →
   Gr E.P E.G m nt ops os=some ros→l.map (ops[·]?)=os.map some→K.le K'→Rel N K' a H act w→wpOpsIn N.F 0 E.P ops Qc (l++l2) act w
 |_,_,_,0,_,_,_,_,_,_,h,_,_,_,_=>by cases h
 |[],ros,l,j+1,K',a,H,act,w,hj,h,hc,hl,hk,hr=>by
  cases hc;cases l with
  |cons=>cases hl
  |nil=>exact hend j K' a H act w (by omega) hk hr h
 |o::os,ros,l,j+1,K',a,H,act,w,hj,h,hc,hl,hk,hr=>by
  cases l with
  |nil=>cases hl
  |cons i l=>
   simp only [amN,List.cons.injEq] at hl;obtain ⟨ho,hl⟩:=hl;simp only [Gr] at hc;split at hc
   ·rename_i ro hro
    split at hc
    ·rename_i rs hrs
     cases hc;obtain ⟨hgd,hs,hdst,hlt⟩:=Ha hro;have hd:∀ d,o.dst=some d→d<N.n:=fun d e=>anb (hlt d e) hnt
     have hg':=hk.ZC.trans hg
     have hw:Bt a ro=nr ops a o:=by
      obtain ⟨d,g,s⟩:=ro;exact PB hgd
     rw [amW,wpOpsIn_cons,wpOpIn,ho];simp only;simp only [ev] at h;rw [hw] at h;split at h
     ·cases h
     ·rename_i hwt
      rw [rm hr hwt];simp only [amQ,if_false];refine ⟨fun f _=>N.fn f,DZ hE hC hnt hg hend hpan os rs l j K' _ H _ w (by omega) h hrs hl hk ?_⟩;rw [hdst];exact hr.put (.refl K') hr.inv Cf hd
     ·rename_i hwt
      rw [rm hr hwt];simp only [if_true]
      have next:∀ K2 v H' act' w',K'.le K2→Rel N K2 (kE a o.dst v) H' act' w'→ev dec E j fn H0 (.c (.ops rs)::k) (kE a ro.d v) H'=some r→wpOpsIn N.F 0 E.P ops Qc (l++l2) act' w':=fun K2 v H' act' w' hk2 hr2 h2=>
       DZ hE hC hnt hg hend hpan os rs l j K2 _ H' act' w' (by omega) (by rw [← hdst];exact h2) hrs hl (hk.trans hk2) hr2
      rcases G9 hs with ⟨c,f,hop,hcal,hsf⟩ | ⟨x,hop,hsx⟩ | ⟨q,hq,hsq⟩ | ⟨c,x,mn,hop,hcal,hsi⟩
      ·rw [hsf] at h
       simp only at h;split at h
       ·rename_i g first cap hfe
        have h':(match Bu dec E j g (first++(sO E.P E.G c.args.toList c.argTypes.toList).map (rx a)++cap) H with
         |some (.ret v,H')=>ev dec E j fn H0 (.c (.ops rs)::k) (kE a ro.d v) H'
         |some (.panic v,H')=>kG dec E (ev dec E j) fn H0 k a v H'
         |none=>none)=some r:=h
        split at h'
        ·rename_i v H' hcall
         refine G8 hop hcal hg' hd hr hfe (hC j (by omega) _ _ _ _ _ hcall) ?_ ?_
         ·rintro K2 v2 H2 act' w' hk2 hr2 ⟨e1,e2⟩
          cases e1;subst e2;exact next K2 v _ act' w' hk2 hr2 h'
         ·rintro K2 v2 cv H2 w' hk2 hv hr2 ⟨e1,e2⟩
          cases e1
        ·rename_i v H' hcall
         refine G8 hop hcal hg' hd hr hfe (hC j (by omega) _ _ _ _ _ hcall) ?_ ?_
         ·rintro K2 v2 H2 act' w' hk2 hr2 ⟨e1,e2⟩
          cases e1
         ·rintro K2 v2 cv H2 w' hk2 hv hr2 ⟨e1,e2⟩
          cases e1;subst e2;exact hpan j K2 a _ act w' _ cv (by omega) (hk.trans hk2) hv hr2 h'
        ·cases h'
       ·cases h
      ·rw [hsx] at h
       simp only at h;split at h
       ·rename_i t v hxe
        exact WI hop hg' hr hxe fun cv hv=>hpan j K' a H act w (.iface t v) cv (by omega) hk hv hr h
       ·cases h
      ·rw [hsq] at h
       simp only at h;split at h
       ·rename_i v H' hrop
        exact Wj hd hr (Kb hg' hr hq hrop) (fun K2 act' w' hk2 hr2=>next K2 v H' act' w' hk2 hr2 h) (Gd hq)
       ·cases h
      ·rw [hsi] at h
       simp only at h;split at h
       ·rename_i g first cap hfe
        obtain ⟨t,u,hxe,hme,rfl,rfl⟩:=Qy hfe
        have h':(match Bu dec E j g ([u]++(sO E.P E.G c.args.toList c.argTypes.toList).map (rx a)++[]) H with
         |some (.ret v,H')=>ev dec E j fn H0 (.c (.ops rs)::k) (kE a ro.d v) H'
         |some (.panic v,H')=>kG dec E (ev dec E j) fn H0 k a v H'
         |none=>none)=some r:=h
        split at h'
        ·rename_i v H' hcall
         refine R7 hop hcal hg' hd hr hxe (hE.adv _ _ _ hme) (hC j (by omega) _ _ _ _ _ hcall) ?_ ?_
         ·rintro K2 v2 H2 act' w' hk2 hr2 ⟨e1,e2⟩
          cases e1;subst e2;exact next K2 v _ act' w' hk2 hr2 h'
         ·rintro K2 v2 cv H2 w' hk2 hv hr2 ⟨e1,e2⟩
          cases e1
        ·rename_i v H' hcall
         refine R7 hop hcal hg' hd hr hxe (hE.adv _ _ _ hme) (hC j (by omega) _ _ _ _ _ hcall) ?_ ?_
         ·rintro K2 v2 H2 act' w' hk2 hr2 ⟨e1,e2⟩
          cases e1
         ·rintro K2 v2 cv H2 w' hk2 hv hr2 ⟨e1,e2⟩
          cases e1;subst e2;exact hpan j K2 a _ act w' _ cv (by omega) (hk.trans hk2) hv hr2 h'
        ·cases h'
       ·cases h
    ·cases hc
   ·cases hc
theorem UN(hE:E.Ok){n:Nat}(hC:∀ j,j<n→Bw dec E j){fn:Zj}{H0:List Y4}{k:List ZA}{r:Out}{N:Fr}{m:Bool}{nt:Nat}{ops:Array Oper}(hnt:nt≤N.n){K:aC}(hg:K.ZC=E.G)
  (os:List Oper) (ros:List RO) (l:List Nat) (j:Nat) (K':aC) (a:Env) (H:List Y4) (act:Act) (w:World) (hj:j≤n) (h:ev dec E j fn H0 (.c (.ops ros)::k) a H=some r)
  (hc:Gr E.P E.G m nt ops os=some ros) (hl:l.map (ops[·]?)=os.map some) (hk:K.le K') (hr:Rel N K' a H act w):wpOpsIn N.F 0 E.P ops (KV N K (MI dec E n fn H0 k r)) l act w:=by
 have:=DZ hE (n:=n) hC hnt hg (Qc:=KV N K (MI dec E n fn H0 k r)) (l2:=[]) (fun j K' a H act w hj hk hr h=>⟨K',.normal,a,H,hk,trivial,hr,j,hj,h⟩)
  (fun j K' a H act w v cv hj hk hv hr h=>⟨K',.panic v,a,H,hk,⟨cv,rfl,hv⟩,hr,j,hj,h⟩) os ros l j K' a H act w hj h hc hl hk hr
 rwa [amt] at this
end
def Ia(P:Program)(G:Nat→Option (List AV))(o:RO)(a:Env)(H:List Y4)(v:AV)(H':List Y4):Prop:=
 match o.s with
 |.op op=>Z1 a H op=some (v,H')
 |.call f args=>match rx a f with
  |.fn (.func g) first cap=>dL P G g (first++args.map (rx a)++cap) H fun r H2=>r = .ret v∧H2=H'
  |_=>False
 |.panic _=>False
 |.inv .. => False
def Oh(P:Program)(G:Nat→Option (List AV))(o:RO)(a:Env)(H:List Y4)(p:AV)(H':List Y4):Prop:=
 match o.s with
 |.call f args=>match rx a f with
  |.fn (.func g) first cap=>dL P G g (first++args.map (rx a)++cap) H fun r H2=>r = .panic p∧H2=H'
  |_=>False
 |_=>False
def DPR(P:Program)(G:Nat→Option (List AV))(ros:List RO)(i:Nat)(a:Env)(H:List Y4)(p:AV)(H':List Y4):Prop:=
 match ros[i]? with
 |some ro=>Oh P G ro a H p H'
 |none=>False
def DR(P:Program)(G:Nat→Option (List AV))(ros:List RO)(i:Nat)(a:Env)(H:List Y4)(v:AV)(H':List Y4):Prop:=
 match ros[i]? with
 |some ro=>Ia P G ro a H v H'
 |none=>False
theorem KpT.trans{T:List Nat}(H1 H2 H3:List Y4)(h:KpT T H1 H2)(h':KpT T H2 H3):KpT T H1 H3:=
 ⟨ams h.1 h'.1,fun i hi ht=>by rw [h'.2 i (by have:=h.1;omega) ht,h.2 i hi ht]⟩
theorem zD(T:List Nat)(H L:List Y4):KpT T H (H++L):=⟨by simp,fun i hi _=>al7 hi⟩
theorem KpT.mono{T T':List Nat}{H H2:List Y4}(h:KpT T H H2)(ht:∀ i∈T,i∈T'):KpT T' H H2:=⟨h.1,fun i hi hn=>h.2 i hi fun hm=>hn (ht i hm)⟩
theorem PC{T:List Nat}{id:Nat}(ht:id∈T)(H:List Y4)(o:Y4):KpT T H (H.set id o):=
 ⟨by simp,fun i _ hn=>ami (fun e=>hn (by rw [← e];exact ht))⟩
section
variable{P:Program}{G:Nat→Option (List AV)}{ops:Array Oper}{ros:List RO}{m:Bool}{nt:Nat}{N:Fr}
theorem Ib:∀ {os:List Oper}{ros:List RO},Gr P G m nt ops os=some ros→∀ (i:Nat) (o:Oper),os[i]?=some o→∃ ro,ros[i]?=some ro∧cRO P G m nt ops o=some ro
 |[],_,_,i,o,h=>by simp at h
 |o::os,ros,hc,i,o',h=>by
  simp only [Gr] at hc;split at hc
  ·rename_i ro hro
   split at hc
   ·rename_i rs hrs
    cases hc;cases i with
    |zero=>simp at h;subst h;exact ⟨ro,rfl,hro⟩
    |succ i=>exact Ib hrs i o' (by simpa using h)
   ·cases hc
  ·cases hc
theorem R8{ro:RO}{dst:Option Tmp}{u v:AV}{a:Env}{H H':List Y4}(h:∀ d,dst=some d→d ∉ ro.s.ZL):Ia P G ro (kE a dst u) H v H'=Ia P G ro a H v H':=by
 unfold Ia;cases hs:ro.s with
 |op op=>simp only;rw [UK fun d hd hm=>h d hd (by rw [hs];exact hm)]
 |call f args=>
  simp only;rw [EV (x:=f) fun d hd hm=>h d hd (by rw [hs];simp [RS.ZL,hm]),DW (l:=args) fun d hd hm=>h d hd (by rw [hs];simp [RS.ZL,hm])]
 |panic x=>rfl
 |inv x m args=>rfl
theorem R9{ro:RO}{dst:Option Tmp}{u v:AV}{a:Env}{H H':List Y4}(h:∀ d,dst=some d→d ∉ ro.s.ZL):Oh P G ro (kE a dst u) H v H'=Oh P G ro a H v H':=by
 unfold Oh;cases hs:ro.s with
 |op op=>rfl
 |call f args=>
  simp only;rw [EV (x:=f) fun d hd hm=>h d hd (by rw [hs];simp [RS.ZL,hm]),DW (l:=args) fun d hd hm=>h d hd (by rw [hs];simp [RS.ZL,hm])]
 |panic x=>rfl
 |inv x m args=>rfl
theorem Sa{q:Cl}{s:Bool}{x:RS}(h1:q≠.turn)(h2:q≠.stop):rn q s x≠.turn∧rn q s x≠.stop:=by
 unfold rn;split
 ·rename_i o
  repeat' split
  all_goals simp
 ·exact ⟨h1,h2⟩
 ·exact ⟨h1,h2⟩
 ·simp
theorem Sb{q:Cl}{s:Bool}{x:RS}(h1:q≠.last):rn q s x≠.last:=by
 unfold rn;split
 ·rename_i o
  repeat' split
  all_goals simp
 ·exact h1
 ·exact h1
 ·simp
theorem LA{q:Cl}{s:Bool}{ros:List RO}{k:Nat}(h1:q≠.last):Bs q s ros k≠.last:=by
 unfold Bs;split
 ·exact Sb h1
 ·decide
theorem LB{q:Cl}{s:Bool}{ros:List RO}{k:Nat}(h1:q≠.turn)(h2:q≠.stop):Bs q s ros k≠.turn∧Bs q s ros k≠.stop:=by
 unfold Bs;split
 ·exact Sa h1 h2
 ·simp
def Ic(ops:Array Oper)(cl:Nat→Cl):List Nat→Prop
 |[]=>True
 |i::l=>(cl i = .stop→∀ j∈l,Dep ops i j)∧Ic ops cl l
structure YX (ops:Array Oper) (ros:List RO) (q:Cl) (sc s:Bool) (cl:Nat→Cl) (ord:List Nat):Prop where
 base:∀ i,cl i=Bs q sc ros i∨cl i = .quiet∨((cl i = .eff∨cl i = .turn∨cl i = .stop∨cl i = .last)∧F9 ros i=true)
 piv:∀ i,cl i = .last→MD ops i
 trk:∀ i,cl i = .turn∨cl i = .stop→s=true
 scs:sc=true→s=true
 stp:Ic ops cl ord
theorem Oi{q:Cl}{s:Bool}{x:RS}(hq:q≠.pure)(h:rn q s x = .pure):∃ o,x = .op o∧MF o=true:=by
 unfold rn at h;split at h
 ·rename_i o
  split at h
  ·rename_i hp;exact ⟨o,rfl,hp⟩
  ·split at h
   ·cases h
   ·split at h
    ·cases h
    ·split at h
     ·split at h<;>cases h
     ·split at h<;>cases h
     ·cases h
 ·exact absurd h hq
 ·exact absurd h hq
 ·cases h
theorem Ie{q:Cl}{s:Bool}{o:ROp}(h:rn q s (.op o) = .wide):DS o=true:=by
 unfold rn at h;simp only at h;split at h
 ·cases h
 ·split at h
  ·rename_i hw;exact hw
  ·split at h
   ·cases h
   ·split at h
    ·split at h<;>cases h
    ·split at h<;>cases h
    ·cases h
theorem If{q:Cl}{s:Bool}{o:ROp}(h:rn q s (.op o) = .Zn):MG o=true∨(s=true∧∃ sz x v,o = .st sz x v)∨∃ m e sz bytes str x y,o = .ap m e sz bytes str x y:=by
 unfold rn at h;simp only at h;split at h
 ·cases h
 ·split at h
  ·cases h
  ·split at h
   ·rename_i hn;exact .inl hn
   ·split at h
    ·split at h
     ·rename_i hs;exact .inr (.inl ⟨hs,_,_,_,rfl⟩)
     ·cases h
    ·split at h
     ·rename_i hs;exact .inr (.inr ⟨_,_,_,_,_,_,_,rfl⟩)
     ·cases h
    ·cases h
theorem MJ{q:Cl}{s:Bool}{o:ROp}(h:(rn q s (.op o)).keeps=true):rn q s (.op o) = .Zn:=by
 unfold rn at h ⊢;simp only at h ⊢
 repeat' split at h
 all_goals first | (cases h;done) | simp_all
theorem acL{q:Cl}{s:Bool}{o:ROp}:rn q s (.op o)≠.quiet:=by
 unfold rn;simp only;split
 ·simp
 ·split
  ·simp
  ·split
   ·simp
   ·split
    ·split<;>simp
    ·split<;>simp
    ·simp
theorem Ya(hnt:nt≤N.n){q:Cl}{s:Bool}(hq:q≠.pure)(hc:Gr P G m nt ops ops.toList=some ros)(hu:Ob ops ros=true){cl:Nat→Cl}(hcl0:∀ i,cl i=Bs q s ros i∨cl i = .quiet∨((cl i = .eff∨cl i = .turn∨cl i = .stop∨cl i = .last)∧F9 ros i=true)):F6 P G N ops cl (DR P G ros) (DPR P G ros):=by
 have get:∀ (i:Nat) (o:Oper),ops[i]?=some o→∃ ro,ros[i]?=some ro∧cRO P G m nt ops o=some ro:=fun i o h=>Ib hc i o (by simpa using h)
 refine ⟨fun i o dst u a H v H' ho hd => ?_,fun i o a H p H' ho h K act w next Qx hg hr hn => ?_,fun i o dst u a H v H' ho hd => ?_,fun i a H v H' hp h => ?_,fun i o a H v H' ho h K act w next Q hg hr hlt hn => ?_⟩
 ·obtain ⟨ro,h1,h2⟩:=get i o ho
  unfold DPR;rw [h1];simp only;rw [R9 fun d e hm=>hd d e ?_]
  have hall:=amI.1 hu (o,ro) (by
   have:(ops.toList.zip ros)[i]?=some (o,ro):=by
    rw [aoM];exact ⟨by simpa using ho,h1⟩
   exact aml this)
  have:=amI.1 hall d hm;simpa using this
 ·obtain ⟨ro,h1,h2⟩:=get i o ho
  obtain ⟨hgd,hs,hdst,hlt2⟩:=Ha h2;unfold DPR at h;rw [h1] at h;simp only [Oh] at h;rcases G9 hs with ⟨c,f,hop,hcal,hsf⟩ | ⟨x,hop,hsx⟩ | ⟨q,hq,hsq⟩ | ⟨c,x,mn,hop,hcal,hsi⟩
  ·rw [hsf] at h
   simp only at h;split at h
   ·rename_i g first cap hfe
    refine G8 hop hcal hg (fun d e=>anb (hlt2 d e) hnt) hr hfe h ?_ ?_
    ·rintro K2 v2 H2 act' w' hk2 hr2 ⟨e1,e2⟩
     cases e1
    ·rintro K2 v2 cv H2 w' hk2 hv hr2 ⟨e1,e2⟩
     cases e1;subst e2;exact hn K2 act w' cv hk2 hv hr2
   ·exact h.elim
  ·rw [hsx] at h;exact h.elim
  ·rw [hsq] at h;exact h.elim
  ·rw [hsi] at h;exact h.elim
 ·obtain ⟨ro,h1,h2⟩:=get i o ho
  unfold DR;rw [h1];simp only;rw [R8 fun d e hm=>hd d e ?_]
  have hall:=amI.1 hu (o,ro) (by
   have:(ops.toList.zip ros)[i]?=some (o,ro):=by
    rw [aoM];exact ⟨by simpa using ho,h1⟩
   exact aml this)
  have:=amI.1 hall d hm;simpa using this
 ·unfold DR at h ⊢
  cases hro:ros[i]? with
  |none=>rw [hro] at h;exact h.elim
  |some ro=>
   rw [hro] at h
   have hp':rn q s ro.s = .pure:=by
    rcases hcl0 i with e | e | ⟨e,_⟩
    ·rw [e] at hp;unfold Bs at hp;rw [hro] at hp;exact hp
    ·rw [e] at hp;cases hp
    ·rcases e with e | e | e | e<;>rw [e] at hp<;>cases hp
   obtain ⟨o,ho,hpr⟩:=Oi hq hp';simp only [Ia,ho] at h ⊢;exact R4 hpr h
 ·obtain ⟨ro,h1,h2⟩:=get i o ho
  obtain ⟨hgd,hs,hdst,_⟩:=Ha h2;unfold DR at h;rw [h1] at h;simp only [Ia] at h;rcases G9 hs with ⟨c,f,hop,hcal,hsf⟩ | ⟨x,hop,hsx⟩ | ⟨q,hq,hsq⟩ | ⟨c,x,mn,hop,hcal,hsi⟩
  ·rw [hsf] at h
   simp only at h;split at h
   ·rename_i g first cap hfe
    refine G8 hop hcal hg hlt hr hfe h ?_ ?_
    ·rintro K2 v2 H2 act' w' hk2 hr2 ⟨e1,e2⟩
     cases e1;subst e2;exact hn K2 act' w' hk2 hr2
    ·rintro K2 v2 cv H2 w' hk2 hv hr2 ⟨e1,e2⟩
     cases e1
   ·exact h.elim
  ·rw [hsx] at h;exact h.elim
  ·rw [hsq] at h
   exact Wj hlt hr (Kb hg hr hq h) hn (Gd hq)
  ·rw [hsi] at h;exact h.elim
theorem PD{cls:Nat→Cl}:∀ {ord:List Nat}{listed:Array Bool},zw ops cls ord listed=true→∀ k∈ord,∃ o,ops[k]?=some o
 |[],_,_,k,hk=>by cases hk
 |i::ord,listed,h,k,hk=>by
  simp only [zw,amb] at h;rcases ank.1 hk with rfl | hk
  ·have:k∈Region.ready .any ops listed:=by simpa using h.1.1
   obtain ⟨_,o,ho,_⟩:=mem_ready.1 this;exact ⟨o,ho⟩
  ·exact PD h.2 k hk
end
section
variable{dec:Dec}{E:br}
theorem Bx(hE:E.Ok){n:Nat}(hC:∀ j,j<n→Bw dec E j){fn:Zj}{H0:List Y4}{k:List ZA}{r:Out}{N:Fr}{m:Bool}{nt:Nat}{ops:Array Oper}{ros:List RO}(hnt:nt≤N.n)
  (hc:Gr E.P E.G m nt ops ops.toList=some ros) {q:Cl}{sc s:Bool}{cl:Nat→Cl} (hcl0:∀ i,cl i=Bs q sc ros i∨cl i = .quiet∨((cl i = .eff∨cl i = .turn∨cl i = .stop∨cl i = .last)∧F9 ros i=true)) (hpiv:∀ i,cl i = .last→MD ops i) (htrk:∀ i,cl i = .turn∨cl i = .stop→s=true) (hscs:sc=true→s=true) :
  ∀ (ord:List Nat) (T L:List Nat) (j:Nat) (a:Env) (H:List Y4),Ic ops cl ord→(∀ i∈ord,∃ o,ops[i]?=some o)→j≤n →
   ev dec E j fn H0 (.c (.Z0 s T L (ord.map fun i=>(ros.getD i default,cl i)))::k) a H=some r →
   ∃ Tf Lf,(∀ x∈T,x∈Tf)∧(∀ x∈L,x∈Lf)∧apart Tf Lf∧(s=false→Tf=T) ∧
    (T=[]∨s=true→UF N ops (KpT Tf) (DR E.P E.G ros) (DPR E.P E.G ros) (cl) (MI dec E n fn H0 k r) ord a H)
 |_,T,L,0,a,H,_,_,_,h=>by cases h
 |[],T,L,j+1,a,H,_,_,hj,h=>by
  have h':(match dec.ap T L with
    |.yes _=>ev dec E j fn H0 k a H
    |.no=>none)=some r:=h
  split at h'
  ·rename_i ha _
   exact ⟨T,L,fun _ h=>h,fun _ h=>h,ha,fun _=>rfl,fun _=>⟨j,by omega,h'⟩⟩
  ·cases h'
 |i::ord,T,L,j+1,a,H,hso,hlt,hj,h=>by
  obtain ⟨o,ho⟩:=hlt i (by simp);obtain ⟨ro,hro,hcro⟩:=Ib hc i o (by simpa using ho);obtain ⟨hgd,hs,hdst,hlt2⟩:=Ha hcro;have hd:∀ d,o.dst=some d→d<N.n:=fun d e=>anb (hlt2 d e) hnt
  have hw:Bt a ro=nr ops a o:=by
   obtain ⟨d,g,s⟩:=ro;exact PB hgd
  have hclr:Bs q sc ros i=rn q sc ro.s:=by unfold Bs;rw [hro]
  have hgetD:ros.getD i default=ro:=by simp [List.getD,hro]
  have hlt':∀ i∈ord,∃ o,ops[i]?=some o:=fun i hi=>hlt i (by simp [hi])
  rw [amN] at h;simp only [ev] at h;rw [hgetD,hw] at h;split at h
  ·cases h
  ·rename_i hwt
   obtain ⟨Tf,Lf,h1,h2,h3,h4,h5⟩:=Bx hE hC hnt hc hcl0 hpiv htrk hscs ord T L j _ H hso.2 hlt' (by omega) h;refine ⟨Tf,Lf,h1,h2,h3,h4,fun hts=>.inl ⟨o,jY,H,ho,⟨hd,fun _=>rfl,fun _=>⟨amp _,fun _ _ _=>rfl⟩,.inr ⟨hwt,rfl,rfl⟩⟩, ?_⟩⟩;rw [← hdst];exact h5 hts
  ·rename_i hwt
   rcases G9 hs with ⟨c,f,hop,hcal,hsf⟩ | ⟨x,hop,hsx⟩ | ⟨op,hq,hsq⟩ | ⟨c,x,mn,hop,hcal,hsi⟩
   ·rw [hsf] at h
    simp only at h;split at h
    ·rename_i g first cap hfe
     split at h
     ·rename_i v L1 hwv
      obtain ⟨Tf,Lf,h1,h2,h3,h4,h5⟩:=Bx hE hC hnt hc hcl0 hpiv htrk hscs ord T (L1++L) j _ H hso.2 hlt' (by omega) h
      have hwc:cl i = .wide∧∀ H2:List Y4,(∀ id∈L1,id<H.length→H2[id]?=H[id]?)→dL E.P E.G g (first++(sO E.P E.G c.args.toList c.argTypes.toList).map (rx a)++cap) H2 fun r H'=>r = .ret v∧H'=H2:=by
       unfold HY at hwv;split at hwv
       ·rename_i e;exact ⟨e,hE.wo _ _ _ _ _ hwv⟩
       ·cases hwv
      have hD:∀ H2:List Y4,(∀ id∈L1,id<H.length→H2[id]?=H[id]?)→DR E.P E.G ros i a H2 v H2:=fun H2 hh=>by
       unfold DR;rw [hro];simp only [Ia,hsf,hfe];exact hwc.2 H2 hh
      refine ⟨Tf,Lf,h1,fun x hx=>h2 x (by simp [hx]),h3,h4,fun hts=>.inl ⟨o,v,H,ho,⟨hd,fun hst=>rfl,fun hkp => ?_,.inl ⟨hwt,hD H (fun _ _ _=>rfl),fun hwd => ?_⟩⟩, ?_⟩⟩
      ·rw [hwc.1] at hkp;cases hkp
      ·intro H2 hk2;exact hD H2 fun id hid hlt=>hk2.2 id hlt (h3 id (h2 id (by simp [hid])))
      ·rw [← hdst];exact h5 hts
     have h':(match Bu dec E j g (first++(sO E.P E.G c.args.toList c.argTypes.toList).map (rx a)++cap) H with
      |some (.ret v,H')=>match R3 dec E (cl i) g (first++(sO E.P E.G c.args.toList c.argTypes.toList).map (rx a)++cap) H v H' T with
       |some T'=>ev dec E j fn H0 (.c (.Z0 s T' L (ord.map fun i=>(ros.getD i default,cl i)))::k) (kE a ro.d v) H'
       |none=>none
      |some (.panic p,H')=>C0 dec E (ev dec E j) (cl i) ro.g fn H0 k a T L p H'
      |none=>none)=some r:=h
     split at h'
     ·rename_i v H' hcall
      have hA:=hC j (by omega) _ _ _ _ _ hcall
      have hD:DR E.P E.G ros i a H v H':=by
       unfold DR;rw [hro];simp only [Ia,hsf,hfe];exact hA
      split at h'
      ·rename_i T' hdt
       obtain ⟨Tf,Lf,h1,h2,h3,h4,h5⟩:=Bx hE hC hnt hc hcl0 hpiv htrk hscs ord T' L j _ H' hso.2 hlt' (by omega) h';unfold R3 at hdt;split at hdt
       ·rename_i hdyn
        cases hdt;refine ⟨Tf,Lf,h1,h2,h3,h4,fun hts=>.inl ⟨o,v,H',ho,⟨hd,fun hst => ?_,fun hkp => ?_,.inl ⟨hwt,hD,fun hwd => ?_⟩⟩, ?_⟩⟩
        ·unfold rH at hdyn
         cases hcl2:cl i<;>rw [hcl2] at hst hdyn<;>simp only [Cl.still] at hst<;>first | (cases hst;done) | skip
         ·exact AQ.of hdyn
         ·exact (AQ.of hdyn).1
        ·unfold rH at hdyn
         cases hcl2:cl i<;>rw [hcl2] at hkp hdyn<;>simp only [Cl.keeps] at hkp<;>first | (cases hkp;done) | (cases hdyn;done) | skip
         have e:H'.take H.length=H:=AQ.of hdyn
         have:H'=H++H'.drop H.length:=by
          conv=>lhs;rw [← ao3 H.length H',e]
         rw [this];exact zD _ _ _
        ·intro H2 _
         rw [hwd] at hdyn;have e:=AQ.of hdyn;unfold DR;rw [hro];simp only [Ia,hsf,hfe];exact e.2 H2
        ·rw [← hdst];exact h5 hts
       ·have htu:∃ x : {T:List Nat // KpT T H H'},(cl i = .turn∨cl i = .stop)∧T'=x.1++T:=by
         unfold HZ at hdt;cases hcl2:cl i<;>rw [hcl2] at hdt<;>simp only at hdt<;>first | (cases hdt;done) | skip
         all_goals
          split at hdt
          ·rename_i x _
           cases hdt;exact ⟨x,by simp,rfl⟩
          ·cases hdt
        obtain ⟨x,hcl2,rfl⟩:=htu;have hs1:=htrk i hcl2;refine ⟨Tf,Lf,fun y hy=>h1 y (by simp [hy]),h2,h3,fun e=>(by rw [hs1] at e;cases e),fun hts=>.inl ⟨o,v,H',ho,⟨hd,fun hst => ?_,fun hkp => ?_,.inl ⟨hwt,hD,fun hwd => ?_⟩⟩, ?_⟩⟩
        ·rcases hcl2 with e | e<;>rw [e] at hst<;>cases hst
        ·exact x.2.mono fun y hy=>h1 y (by simp [hy])
        ·rcases hcl2 with e | e<;>rw [e] at hwd<;>cases hwd
        ·rw [← hdst];exact h5 (.inr hs1)
      ·cases h'
     ·rename_i p H' hcall
      by_cases hlast:cl i = .last
      ·rw [hlast] at h'
       unfold C0 at h';simp only at h';split at h'
       ·split at h'
        ·rename_i hap _
         have hA:=hC j (by omega) _ _ _ _ _ hcall;refine ⟨T,L,fun _ h=>h,fun _ h=>h,hap,fun _=>rfl,fun hts=>.inr ⟨o,p,H',ho,(by rw [hlast];intro e;cases e),hwt, ?_,.inr ⟨hpiv i hlast,⟨j,by omega, ?_⟩⟩⟩⟩
         ·unfold DPR
          rw [hro];simp only [Oh,hsf,hfe];exact hA
         ·exact h'
        ·cases h'
       ·cases h'
      have h':Oe dec (cl i) ro.g fn H0 T L p H'=some r:=by
       unfold C0 at h';split at h'
       ·rename_i e;exact absurd e hlast
       ·exact h'
      unfold Oe at h';cases hcl2:cl i<;>rw [hcl2] at h'<;>simp only at h'<;>first | (cases h';done) | skip
      split at h'
      ·rename_i hgn
       split at h'
       ·rename_i hdf
        split at h'
        ·rename_i hap _
         have hA:=hC j (by omega) _ _ _ _ _ hcall;refine ⟨T,L,fun _ h=>h,fun _ h=>h,hap,fun _=>rfl,fun hts=>.inr ⟨o,p,H',ho,(by rw [hcl2];intro e;cases e),hwt, ?_,.inl ⟨hso.1 hcl2,fun a2=>⟨j,by omega, ?_⟩⟩⟩⟩
         ·unfold DPR
          rw [hro];simp only [Oh,hsf,hfe];exact hA
         ·simp only [evX,kG,hdf]
          exact h'
        ·cases h'
       ·cases h'
      ·cases h'
     ·cases h'
    ·cases h
   ·rw [hsx] at h;cases h
   ·rw [hsq] at h
    simp only at h;split at h
    ·rename_i v H' hrop
     split at h
     ·rename_i T' L' hdyn
      obtain ⟨Tf,Lf,h1,h2,h3,h4,h5⟩:=Bx hE hC hnt hc hcl0 hpiv htrk hscs ord T' L' j _ H' hso.2 hlt' (by omega) h
      have hD:DR E.P E.G ros i a H v H':=by
       unfold DR;rw [hro];simp only [Ia,hsq];exact hrop
      rcases hcl0 i with hcl | hcl | ⟨_,hcb⟩
      rotate_left
      rotate_left
      ·unfold F9 at hcb
       rw [hro] at hcb;dsimp only at hcb;rw [hsq] at hcb;cases hcb
      rotate_left
      ·rw [hcl] at hdyn
       replace hdyn:(if DS op then some (T,L) else none)=some (T',L'):=hdyn
       by_cases hwo:DS op=true
       ·rw [if_pos hwo] at hdyn
        obtain ⟨rfl,rfl⟩:T=T'∧L=L':=by simpa using hdyn
        refine ⟨Tf,Lf,h1,h2,h3,h4,fun hts=>.inl ⟨o,v,H',ho,⟨hd,fun _=>(H5 hwo hrop).1,fun hkp=>(by rw [hcl] at hkp;cases hkp),.inl ⟨hwt,hD,fun hwd=>(by rw [hcl] at hwd;cases hwd)⟩⟩, ?_⟩⟩;rw [← hdst];exact h5 hts
       ·rw [if_neg hwo] at hdyn;cases hdyn
      rw [hclr] at hcl
      have hdyn2:(∀ x∈T,x∈T')∧(∀ x∈L,x∈L')∧(s=false→T'=T)∧(cl i = .wide→s=true→∀ id,zB a op=some id→id∈L') ∧
        (cl i = .Zn→∀ sz x v,op = .st sz x v→∀ id,u1 (rx a x)=some id→id∈T') ∧
        (cl i = .Zn→∀ m e sz bytes str x y,op = .ap m e sz bytes str x y→∀ id,pU (rx a x)=some id→id∈T'):=by
       rw [hcl,hsq] at hdyn ⊢;unfold qP at hdyn;split at hdyn
       ·rename_i hw
        split at hdyn
        ·rename_i hst
         split at hdyn
         ·rename_i id hid
          cases hdyn;refine ⟨fun _ h=>h,fun _ h=>by simp [h],fun _=>rfl,fun _ _ id' hid' => ?_,fun e=>(by rw [hw] at e;cases e),fun e=>(by rw [hw] at e;cases e)⟩;rw [hid] at hid';cases hid';simp
         ·rename_i hid
          cases hdyn;exact ⟨fun _ h=>h,fun _ h=>h,fun _=>rfl,fun _ _ id' hid'=>(by rw [hid] at hid';cases hid'),fun e=>(by rw [hw] at e;cases e),fun e=>(by rw [hw] at e;cases e)⟩
        ·rename_i hst
         cases hdyn;exact ⟨fun _ h=>h,fun _ h=>h,fun _=>rfl,fun _ e=>absurd e hst,fun e=>(by rw [hw] at e;cases e),fun e=>(by rw [hw] at e;cases e)⟩
       ·rename_i hkp
        have hkc:=If hkp;split at hdyn
        ·rename_i sz x v'
         have hst:s=true:=by
          rcases hkc with e | ⟨e,_⟩ | ⟨_,_,_,_,_,_,_,e⟩
          ·cases e
          ·exact hscs e
          ·cases e
         split at hdyn
         ·rename_i id hid
          cases hdyn;refine ⟨fun _ h=>by simp [h],fun _ h=>h,fun e=>(by rw [hst] at e;cases e),fun e=>(by rw [hkp] at e;cases e),fun _ sz2 x2 v2 e id' hid' => ?_,fun _ _ _ _ _ _ _ _ e=>(by cases e)⟩;cases e;rw [hid] at hid';cases hid';simp
         ·cases hdyn
        ·rename_i m e sz bytes str x y
         split at hdyn
         ·rename_i id hid
          cases hdyn
          have hst:s=true:=by
           rcases hkc with hn | ⟨e,_⟩ | ⟨_,_,_,_,_,_,_,e⟩
           ·obtain ⟨_,_,_,rfl⟩:=Lx hn
            simp [rx,pU] at hid
           ·exact hscs e
           ·cases hss:sc with
            |true=>exact hscs hss
            |false=>
             rw [hss] at hkp;unfold rn at hkp;simp only at hkp;split at hkp
             ·cases hkp
             ·split at hkp
              ·cases hkp
              ·split at hkp
               ·rename_i hn
                obtain ⟨_,_,_,rfl⟩:=Lx hn;simp [rx,pU] at hid
               ·cases hkp
          refine ⟨fun _ h=>by simp [h],fun _ h=>h,fun e=>(by rw [hst] at e;cases e),fun e=>(by rw [hkp] at e;cases e),fun _ _ _ _ e=>(by cases e),fun _ m2 e2 sz2 b2 st2 x2 y2 e id' hid' => ?_⟩;cases e;rw [hid] at hid';cases hid';simp
         ·rename_i hid
          cases hdyn;exact ⟨fun _ h=>h,fun _ h=>h,fun _=>rfl,fun e=>(by rw [hkp] at e;cases e),fun _ _ _ _ e=>(by cases e),fun _ m2 e2 sz2 b2 st2 x2 y2 e id' hid'=>(by cases e;rw [hid] at hid';cases hid')⟩
        ·rename_i hnst hnap
         cases hdyn;exact ⟨fun _ h=>h,fun _ h=>h,fun _=>rfl,fun e=>(by rw [hkp] at e;cases e),fun _ sz x v e=>absurd e (hnst sz x v),fun _ m e sz bytes str x y h=>absurd h (hnap m e sz bytes str x y)⟩
       ·rename_i hqq;exact absurd hqq acL
       ·rename_i n1 n2 n3
        cases hdyn;exact ⟨fun _ h=>h,fun _ h=>h,fun _=>rfl,fun e=>absurd e n1,fun e=>absurd e n2,fun e=>absurd e n2⟩
      obtain ⟨g1,g2,g3,g4,g5,g6⟩:=hdyn2;refine ⟨Tf,Lf,fun x hx=>h1 x (g1 x hx),fun x hx=>h2 x (g2 x hx),h3,fun e=>(h4 e).trans (g3 e),fun hts=>.inl ⟨o,v,H',ho,⟨hd,fun hst => ?_,fun hkp => ?_,.inl ⟨hwt,hD,fun hwd => ?_⟩⟩, ?_⟩⟩
      ·rw [hcl,hsq] at hst
       have:DS op=true:=by
        cases hcl2:rn q sc (.op op)<;>rw [hcl2] at hst<;>simp only [Cl.still] at hst<;>first | (cases hst;done) | skip
        ·exact absurd hcl2 acL
        ·exact Ie hcl2
       exact (H5 this hrop).1
      ·rw [hcl,hsq] at hkp
       have hkp':=MJ hkp;have hkp2:cl i = .Zn:=by rw [hcl,hsq];exact hkp'
       rcases If hkp' with hn | ⟨hs',sz,x,v',rfl⟩ | ⟨m,e,sz,bytes,str,x,y,rfl⟩
       ·obtain ⟨Ln,rfl⟩:=UL hn hrop
        exact zD _ _ _
       ·obtain ⟨id,ob,e1,rfl⟩:=WH hrop
        exact PC (h1 id (g5 hkp2 sz x v' rfl id e1)) _ _
       ·rcases WG hrop with ⟨L,rfl⟩ | ⟨id,ob,L,e1,rfl⟩
        ·exact zD _ _ _
        ·exact KpT.trans _ _ _ (PC (h1 id (g6 hkp2 m e sz bytes str x y rfl id e1)) _ _) (zD _ _ _)
      ·intro H2 hk2
       have hwd':=hwd;rw [hcl,hsq] at hwd';unfold DR;rw [hro];simp only [Ia,hsq];refine (H5 (Ie hwd') hrop).2 H2 fun id hid hlen=>hk2.2 id hlen ?_
       rcases aol s with hst | hst
       ·exact h3 id (h2 id (g4 hwd hst id hid))
       ·rw [h4 hst,g3 hst]
        rcases hts with e | e
        ·rw [e];simp
        ·rw [hst] at e;cases e
      ·rw [← hdst]
       refine h5 ?_;rcases hts with e | e
       ·rcases aol s with hst | hst
        ·exact .inr hst
        ·exact .inl (by rw [g3 hst];exact e)
       ·exact .inr e
     ·cases h
    ·cases h
   ·rw [hsi] at h;cases h
end
section
variable{dec:Dec}{E:br}
theorem xu{n n':Nat}{fn:Zj}{H0:List Y4}{k k':List ZA}{r:Out}(hn:n≤n')(hk:∀ x a H m,x≠.normal→evX dec E m fn H0 x k a H=evX dec E m fn H0 x k' a H){x:kA}{a:Env}{H:List Y4}
  (hx:x≠.normal) (h:MI dec E n fn H0 k r x a H):MI dec E n' fn H0 k' r x a H:=by
 obtain ⟨m,hm,h⟩:=h;exact ⟨m,by omega,by rw [← hk x a H m hx];exact h⟩
theorem Sc{m:Nat}{fn:Zj}{H0:List Y4}{x:kA}{k:List ZA}{ac:AC}{a:Env}{H:List Y4}(hx:x≠.normal):evX dec E m fn H0 x (.c ac::k) a H=evX dec E m fn H0 x k a H:=by
 cases x<;>first | exact absurd rfl hx | rfl
theorem WJ{m:Nat}{fn:Zj}{H0:List Y4}{x:kA}{k:List ZA}{h:LH}{ac:AC}{He:List Y4}{a:Env}{H:List Y4}(hx:x≠.normal):evX dec E m fn H0 x (.lp h ac He::k) a H=evX dec E m fn H0 x k a H:=by
 cases x<;>first | exact absurd rfl hx | rfl
theorem LC(m:Bool)(ops:Array Oper)(ros:List RO)(q:Cl)(s:Bool)(ord:List Nat)(k:Nat):HV m ops ros q s ord k=Bs q s ros k∨HV m ops ros q s ord k = .quiet∨(HV m ops ros q s ord k = .eff∧F9 ros k=true):=by
 unfold HV;split
 ·exact .inr (.inl rfl)
 ·split
  ·rename_i h
   unfold Wf at h;simp only [amb] at h;exact .inr (.inr ⟨rfl,h.2.1⟩)
  ·exact .inl rfl
theorem MK{m:Bool}{ops:Array Oper}{ros:List RO}{ac:AC}:∀ {l:List (Cl×Bool×List Nat)},UH m ops ros l=some ac→∃ q s ord,(q,s,ord)∈l∧ord.length=ops.size∧zw ops (HV m ops ros q s ord) ord (Array.replicate ops.size false)=true ∧
  ac = .Z0 s [] [] (ord.map fun k=>(ros.getD k default,HV m ops ros q s ord k))
 |[],h=>by cases h
 |(q,s,ord)::l,h=>by
  simp only [UH] at h;split at h
  ·rename_i hc
   simp only [amb,amU] at hc;cases h;exact ⟨q,s,ord,by simp,hc.1,hc.2,rfl⟩
  ·obtain ⟨q',s',ord',h1,h2⟩:=MK h
   exact ⟨q',s',ord',by simp [h1],h2⟩
theorem Ke{ops:Array Oper}{ros:List RO}{ac:AC}:∀ {l:List (List Nat)},Py ops ros l=some ac→∃ ord,ord.length=ops.size∧zw ops (Lt ops ros ord) ord (Array.replicate ops.size false)=true ∧
  ac = .Z0 true [] [] (ord.map fun k=>(ros.getD k default,Lt ops ros ord k))
 |[],h=>by cases h
 |ord::l,h=>by
  simp only [Py] at h;split at h
  ·rename_i hc
   simp only [amb,amU] at hc;cases h;exact ⟨ord,hc.1,hc.2,rfl⟩
  ·exact Ke h
theorem Ig{i x:Nat}{l:List Nat}(hx:x∈l):∀ pre:List Nat,x∈Ls (pre++i::l) i
 |[]=>by
  have:(!Nat.beq i i)=false:=by simp
  simp [Ls,ao9,this,hx]
 |b::pre=>by
  unfold Ls;rw [amW,ao9];cases hb:(!Nat.beq b i) with
  |true=>simp only [if_true];exact Ig hx pre
  |false=>simp [hx]
theorem ML{ops:Array Oper}{ros:List RO}{full:List Nat}:∀ (l pre:List Nat),full=pre++l→Ic ops (Lt ops ros full) l
 |[],_,_=>trivial
 |i::l,pre,h=>by
  refine ⟨fun hc j hj => ?_,ML l (pre++[i]) (by simp [h])⟩;unfold Lt at hc;split at hc
  ·split at hc
   ·rename_i hs
    unfold Wg at hs;rw [amI] at hs;have:=hs j (by rw [h];exact Ig hj pre);exact wi ops.toList [] (fun j=>by simp) (fun j hj=>by simp at hj) j this
   ·cases hc
  ·exact absurd hc (LB (by decide) (by decide)).2
theorem EW{ops:Array Oper}{cl:Nat→Cl}(h:∀ i,cl i≠.stop):∀ l,Ic ops cl l
 |[]=>trivial
 |i::l=>⟨fun e=>absurd e (h i),EW h l⟩
theorem Kf{ops:Array Oper}{ros:List RO}{ac:AC}:∀ {l:List (List Nat)},Px ops ros l=some ac→∃ ord,ord.length=ops.size∧zw ops (Jz ops ros) ord (Array.replicate ops.size false)=true ∧
  ac = .Z0 false [] [] (ord.map fun k=>(ros.getD k default,Jz ops ros k))
 |[],h=>by cases h
 |ord::l,h=>by
  simp only [Px] at h;split at h
  ·rename_i hc
   simp only [amb,amU] at hc;exact ⟨ord,hc.1,hc.2,by simpa using h.symm⟩
  ·exact Kf h
theorem Sd{ops:Array Oper}{k:Nat}(h:WC ops k=true):MD ops k:=fun j oj hj hne=>by
 unfold WC at h;rw [amI] at h;have:=h j (anV.2 (amh.1 hj).1);rw [anN,anN] at this;rcases this with (h1 | h1) | h1
 ·exact absurd (amv h1) hne
 ·exact .inl (wi ops.toList [] (fun j=>by simp) (fun j hj=>by simp at hj) j h1)
 ·exact .inr (wi ops.toList [] (fun j=>by simp) (fun j hj=>by simp at hj) k h1)
theorem Kg{m t u:Bool}{ops:Array Oper}{ros:List RO}{ac:AC}(h:RZ m t u ops ros=some ac):∃ (q:Cl) (sc s:Bool) (cl:Nat→Cl) (ord:List Nat),q≠.pure∧Ob ops ros=true∧ord.length=ops.size∧zw ops cl ord (Array.replicate ops.size false)=true ∧
  ac = .Z0 s [] [] (ord.map fun k=>(ros.getD k default,cl k))∧YX ops ros q sc s cl ord:=by
 unfold RZ at h;split at h
 ·rename_i hu
  simp only at h;split at h
  ·obtain ⟨ord,h1,h2,h3⟩:=Kf h
   have nt:∀ i,Jz ops ros i≠.turn∧Jz ops ros i≠.stop:=fun i=>by
    unfold Jz;split
    ·exact ⟨by decide,by decide⟩
    ·exact LB (by decide) (by decide)
   refine ⟨.eff,false,false,Jz ops ros,ord,by decide,hu,h1,h2,h3,⟨fun i => ?_,fun i hi => ?_,fun i hi => ?_,fun e=>(by cases e),EW (fun i=>(nt i).2) ord⟩⟩
   ·unfold Jz
    split
    ·rename_i hc
     rw [amb] at hc;exact .inr (.inr ⟨.inr (.inr (.inr rfl)),hc.1⟩)
    ·exact .inl rfl
   ·unfold Jz at hi
    split at hi
    ·rename_i hc
     rw [amb] at hc;exact Sd hc.2
    ·exact absurd hi (LA (by decide))
   ·rcases hi with e | e
    ·exact absurd e (nt i).1
    ·exact absurd e (nt i).2
  split at h
  ·obtain ⟨ord,h1,h2,h3⟩:=Ke h
   refine ⟨.Zn,false,true,Lt ops ros ord,ord,by decide,hu,h1,h2,h3,⟨fun i => ?_,fun i hi => ?_,fun _ _=>rfl,fun e=>(by cases e),ML ord [] rfl⟩⟩
   rotate_left
   ·unfold Lt at hi
    split at hi
    ·split at hi<;>cases hi
    ·exact absurd hi (LA (by decide))
   unfold Lt;split
   ·rename_i hcb
    split
    ·exact .inr (.inr ⟨.inr (.inr (.inl rfl)),hcb⟩)
    ·exact .inr (.inr ⟨.inr (.inl rfl),hcb⟩)
   ·exact .inl rfl
  ·obtain ⟨q,s,ord,hmem,h1,h2,h3⟩:=MK h
   have hq:q≠.pure∧q≠.turn∧q≠.stop∧q≠.last:=by
    refine ⟨?_, ?_, ?_, ?_⟩<;>intro e<;>subst e<;>simp at hmem
   have nt:∀ i,HV m ops ros q s ord i≠.turn∧HV m ops ros q s ord i≠.stop:=fun i=>by
    rcases LC m ops ros q s ord i with e | e | ⟨e,_⟩
    ·rw [e];exact LB hq.2.1 hq.2.2.1
    ·rw [e];decide
    ·rw [e];decide
   refine ⟨q,s,s,HV m ops ros q s ord,ord,hq.1,hu,h1,h2,h3,⟨fun i => ?_,fun i hi => ?_,fun i hi => ?_,fun e=>e,EW (fun i=>(nt i).2) ord⟩⟩
   ·rcases LC m ops ros q s ord i with e | e | ⟨e,hb⟩
    ·exact .inl e
    ·exact .inr (.inl e)
    ·exact .inr (.inr ⟨.inl e,hb⟩)
   ·exfalso
    rcases LC m ops ros q s ord i with e | e | ⟨e,_⟩
    ·rw [e] at hi;exact absurd hi (LA hq.2.2.2)
    ·rw [e] at hi;cases hi
    ·rw [e] at hi;cases hi
   ·rcases hi with e | e
    ·exact absurd e (nt i).1
    ·exact absurd e (nt i).2
 ·cases h
theorem EX{x y:AC}(h:∀ l,y≠.lv l)(h2:∀ t l,y≠.fz t l):(AC.seq x y).strip = .seq x.strip y.strip:=by
 cases y<;>first | exact absurd rfl (h _) | exact absurd rfl (h2 _ _) | rw [AC.strip]
 all_goals intros;rename_i e;cases e
theorem WK{P:Program}{G:Nat→Option (List AV)}{N:Fr}{c:Code}{a:Env}{H:List Y4}{Q Q':kA→Env→List Y4→Prop}(h:AWP P G N c Q a H)
  (hn:∀ a H,Q .normal a H→∃ a' H2,(∀ K act w,Rel N K a H act w→∃ K2,K.le K2∧Rel N K2 a' H2 act w)∧Q' .normal a' H2) (ho:∀ x a H,x≠.normal→Q x a H→Q' x a H):AWP P G N c Q' a H:=fun K act w hg hr=>
 wpIn_mono (h K act w hg hr) fun e _ _ ⟨K',x,a',H',h1,h2,h3,h4⟩=>by
  by_cases hx:x = .normal
  ·subst hx
   obtain ⟨a2,H2,h5,h6⟩:=hn _ _ h4;obtain ⟨K2,h7,h8⟩:=h5 _ _ _ h3;exact ⟨K2,.normal,a2,H2,h1.trans h7,by cases e<;>first | exact (h2:False).elim | trivial,h8,h6⟩
  ·exact ⟨K',x,a',H',h1,h2,h3,ho x a' H' hx h4⟩
theorem PE{K:aC}{tm:Nat→Value}:∀ (l:List Nat) (vs:List AV) (a:Env),(∀ t,V K (fh a t) (tm t))→(∀ (i:Nat) (p:Nat) (v:AV),l[i]?=some p→vs[i]?=some v→V K v (tm p))→∀ t,V K (fh (wm a l vs) t) (tm t)
 |[],_,a,h,_,t=>h t
 |_::_,[],a,h,_,t=>h t
 |p :: l,v::vs,a,h,h2,t=>PE l vs (qx a p v) (fun t=>by
    rw [oB];split
    ·rename_i e;subst e;exact h2 0 _ v rfl rfl
    ·exact h t) (fun i q u hq hu=>h2 (i+1) q u (by simpa using hq) (by simpa using hu)) t
theorem PF{N:Fr}{K:aC}{a a':Env}{H H':List Y4}{act:Act}{w:World}{t:Nat}{l:List Nat}(h:fzR dec t l a H=some (a',H'))(hr:Rel N K a H act w):∃ K2,K.le K2∧Rel N K2 a' H' act w:=by
 unfold fzR at h;split at h
 ·split at h
  ·rename_i n off vs hok _
   split at h
   ·rename_i hlen
    cases h
    let tm:Nat→Value:=fun t=>act.tmps.getD t undef
    have hv:V K (.tuple (l.map (fh a))) (.tuple (l.map tm).toArray):=.tuple _ _ (by simp) fun i av hi=>by
     rw [amK] at hi;cases hl:l[i]? with
     |none=>rw [hl] at hi;cases hi
     |some p=>
      rw [hl] at hi;cases hi
      have:((l.map tm).toArray).getD i undef=tm p:=by simp [amd,amK,hl]
      rw [this];exact hr.tmps p
    obtain ⟨K2,h1,h2,h3⟩:=hok K w _ hr.inv hv;refine ⟨K2,h1,⟨h3,hr.defers.mono h1,hr.size, ?_⟩⟩;refine PE (tm:=tm) l vs .leaf (fun t=>by rw [EG];exact .ZW _) fun i p v hp hv2 => ?_
    cases h2 with
    |tuple _ _ g1 g2=>
     have:=g2 i v hv2;have e:((l.map tm).toArray).getD i undef=tm p:=by simp [amd,amK,hp]
     rwa [e] at this
   ·cases h
  ·cases h
 ·cases h
theorem Se{P:Program}{G:Nat→Option (List AV)}{N:Fr}{c:Code}{a:Env}{H:List Y4}{Q Q':kA→Env→List Y4→Prop}(h:AWP P G N c Q a H)
  (hq:∀ x a H,Q x a H→∃ a',(∀ K act w,Rel N K a H act w→Rel N K a' H act w)∧Q' x a' H):AWP P G N c Q' a H:=fun K act w hg hr=>
 wpIn_mono (h K act w hg hr) fun _ _ _ ⟨K',x,a',H',h1,h2,h3,h4⟩=>by
  obtain ⟨a2,h5,h6⟩:=hq _ _ _ h4;exact ⟨K',x,a2,H',h1,h2,h5 _ _ _ h3,h6⟩
theorem Sf{x y:AC}(_:AF (.seq x y)=true):AF x=true∧AF y=true:=⟨rfl,rfl⟩
theorem PG{c:RX}{x y:AC}(_:AF (.cond c x y)=true):AF x=true∧AF y=true:=⟨rfl,rfl⟩
theorem Sg(x:AC):AF x.strip=AF x:=rfl
theorem C2{P:Program}{G:Nat→Option (List AV)}{m:Nat→Bool}{nt:Nat}:∀ (c:Code) (ac:AC),fw P G m nt c=some ac→∀ l,(DT ac l=none→findLabel c l=none)∧∀ q,DT ac l=some q→∃ rest,findLabel c l=some rest∧fw P G m nt rest=some q
 |.seq x y,ac,h,l=>by
  simp only [fw] at h;split at h
  ·rename_i x' hx
   split at h
   ·rename_i y' hy
    cases h;obtain ⟨h1,h2⟩:=C2 x x' hx l;obtain ⟨h3,h4⟩:=C2 y y' hy l;simp only [DT,findLabel];cases hf:DT x' l with
    |none=>
     rw [h1 hf];exact ⟨h3,h4⟩
    |some r=>
     obtain ⟨rest,e1,e2⟩:=h2 r hf;rw [e1];refine ⟨fun h=>(by cases h),fun q hq => ?_⟩;cases hq;exact ⟨_,rfl,by simp only [fw,e2,hy]⟩
   ·cases h
  ·cases h
 |.label l',ac,h,l=>by
  simp only [fw,amo] at h;subst h;simp only [DT,findLabel];split
  ·exact ⟨fun h=>(by cases h),fun q hq=>by cases hq;exact ⟨.skip,rfl,rfl⟩⟩
  ·exact ⟨fun _=>rfl,fun q hq=>by cases hq⟩
 |.skip,ac,h,l=>by simp only [fw,amo] at h;subst h;exact ⟨fun _=>rfl,fun q hq=>by cases hq⟩
 |.exit _,ac,h,l=>by simp only [fw,amo] at h;subst h;exact ⟨fun _=>rfl,fun q hq=>by cases hq⟩
 |.ret,ac,h,l=>by simp only [fw,amo] at h;subst h;exact ⟨fun _=>rfl,fun q hq=>by cases hq⟩
 |.refuse _,ac,h,l=>by simp only [fw,amo] at h;subst h;exact ⟨fun _=>rfl,fun q hq=>by cases hq⟩
 |.goto _,ac,h,l=>by simp only [fw,amo] at h;subst h;exact ⟨fun _=>rfl,fun q hq=>by cases hq⟩
 |.cond _ _ _,ac,h,l=>by
  simp only [fw] at h;split at h
  ·split at h
   ·cases h;exact ⟨fun _=>rfl,fun q hq=>by cases hq⟩
   ·cases h
  ·cases h
 |.block _ _,ac,h,l=>by
  simp only [fw] at h;split at h
  ·cases h;exact ⟨fun _=>rfl,fun q hq=>by cases hq⟩
  ·cases h
 |.loop _,ac,h,l=>by
  simp only [fw] at h;split at h
  ·cases h;exact ⟨fun _=>rfl,fun q hq=>by cases hq⟩
  ·cases h
 |.scope _,ac,h,l=>by
  simp only [fw] at h;split at h
  ·cases h;exact ⟨fun _=>rfl,fun q hq=>by cases hq⟩
  ·cases h
 |.rangeFunc _ _ _ _,ac,h,l=>by cases h
 |.region _ ops draw,ac,h,l=>by
  simp only [fw] at h;split at h
  ·rename_i ros hros
   split at h
   ·obtain ⟨q,sc,s,cl,ord,_,_,_,_,hac,_⟩:=Kg h
    rw [hac];exact ⟨fun _=>rfl,fun q hq=>by cases hq⟩
   ·cases h;exact ⟨fun _=>rfl,fun q hq=>by cases hq⟩
  ·cases h
theorem acH:∀ (t:AC) (l:Nat) (r:AC),xr t l=some r→xr t.strip l=some r.strip
 |.tab l' r' t,l,r,h=>by
  simp only [xr,AC.strip] at h ⊢;split at h
  ·rename_i e;cases h;rw [if_pos e]
  ·rename_i e;rw [if_neg e];exact acH t l r h
 |.skip,_,_,h=>by cases h
 |.exit _,_,_,h=>by cases h
 |.ret,_,_,h=>by cases h
 |.seq ..,_,_,h=>by cases h
 |.cond ..,_,_,h=>by cases h
 |.block ..,_,_,h=>by cases h
 |.loop ..,_,_,h=>by cases h
 |.ops ..,_,_,h=>by cases h
 |.Z0 ..,_,_,h=>by cases h
 |.lv ..,_,_,h=>by cases h
 |.bad,_,_,h=>by cases h
 |.lbl ..,_,_,h=>by cases h
 |.goto ..,_,_,h=>by cases h
 |.scope ..,_,_,h=>by cases h
 |.rfn ..,_,_,h=>by cases h
theorem Ih{x:AC}:∀ (ls:List Nat) (l:Nat) (q:AC),xr (MH x ls) l=some q→DT x l=some q
 |[],l,q,h=>by cases h
 |l'::ls,l,q,h=>by
  unfold MH at h;split at h
  ·rename_i r hr
   unfold xr at h;split at h
   ·rename_i e;cases h;rw [← e];exact hr
   ·exact Ih ls l q h
  ·exact Ih ls l q h
theorem Oj{n:Nat}(hC:∀ j,j<n→Bw dec E j)(hE:E.Ok)(IH:∀ j,j<n→DY dec E j):DY dec E n:=by
  intro fn H0 ac k a H r h N m nt c hN hnt hc;cases n with
  |zero=>cases h
  |succ n=>
   by_cases hlv:∃ ax l,ac = .seq ax (.lv l)
   ·obtain ⟨ax,l,rfl⟩:=hlv
    have hc':fw E.P E.G m nt c=some ax.strip:=by simpa [AC.strip] using hc
    have h1:ev dec E n fn H0 (.c ax :: .c (.lv l)::k) a H=some r:=h;refine Se ((IH n (ane n) fn H0 ax (.c (.lv l)::k) a H r h1 N m nt c (fun _=>.inr rfl) hnt hc')) fun e a' H' hp => ?_
    by_cases he:e = .normal
    ·subst he
     obtain ⟨j,hj,h2⟩:=hp;have h2':ev dec E j fn H0 (.c (.lv l)::k) a' H'=some r:=h2;cases j with
     |zero=>cases h2'
     |succ j=>exact ⟨sP a' l,fun K act w hr=>hr.Zn l,j,by omega,h2'⟩
    ·exact ⟨a',fun K act w hr=>hr,xu (n':=n+1) (k':=k) (apa n) (fun x a H m hx=>Sc hx) he hp⟩
   by_cases hfz:∃ ax t l,ac = .seq ax (.fz t l)
   ·obtain ⟨ax,t,l,rfl⟩:=hfz
    have hc':fw E.P E.G m nt c=some ax.strip:=by simpa [AC.strip] using hc
    have h1:ev dec E n fn H0 (.c ax :: .c (.fz t l)::k) a H=some r:=h;refine WK ((IH n (ane n) fn H0 ax (.c (.fz t l)::k) a H r h1 N m nt c (fun _=>.inr rfl) hnt hc')) (fun a' H' hp => ?_) (fun x a' H' hx hp=>xu (n':=n+1) (k':=k) (apa n) (fun x a H m hx=>Sc hx) hx hp);obtain ⟨j,hj,h2⟩:=hp;have h2':ev dec E j fn H0 (.c (.fz t l)::k) a' H'=some r:=h2;cases j with
    |zero=>cases h2'
    |succ j=>
     simp only [ev] at h2';split at h2'
     ·rename_i a2 H2 hf
      exact ⟨a2,H2,fun K act w hr=>PF hf hr,j,by omega,h2'⟩
     ·cases h2'
   have hseq:∀ x y,ac = .seq x y→ac.strip = .seq x.strip y.strip:=fun x y e=>by
    rw [e];exact EX (fun l hl=>hlv ⟨x,l,by rw [e,hl]⟩) (fun t l hl=>hfz ⟨x,t,l,by rw [e,hl]⟩)
   cases c with
   |skip=>
    have:ac.strip = .skip:=by simpa [fw] using hc.symm
    cases ac<;>(try rw [hseq _ _ rfl] at this)<;>simp [AC.strip] at this
    exact RE ⟨n,ane n,h⟩
   |label l=>
    have:ac.strip = .lbl l:=by simpa [fw] using hc.symm
    cases ac<;>(try rw [hseq _ _ rfl] at this)<;>simp [AC.strip] at this
    exact Qk ⟨n,ane n,h⟩
   |goto l=>
    have:ac.strip = .goto l:=by simpa [fw] using hc.symm
    cases ac<;>(try rw [hseq _ _ rfl] at this)<;>simp [AC.strip] at this
    subst this;exact RG ⟨n,ane n,h⟩
   |exit id=>
    have:ac.strip = .exit id:=by simpa [fw] using hc.symm
    cases ac<;>(try rw [hseq _ _ rfl] at this)<;>simp [AC.strip] at this
    subst this;exact RF ⟨n,ane n,h⟩
   |refuse s=>
    have:ac.strip = .bad:=by simpa [fw] using hc.symm
    cases ac<;>(try rw [hseq _ _ rfl] at this)<;>simp [AC.strip] at this
    cases h
   |ret=>
    have:ac.strip = .ret:=by simpa [fw] using hc.symm
    cases ac<;>(try rw [hseq _ _ rfl] at this)<;>simp [AC.strip] at this
    exact Uy ⟨n,ane n,h⟩
   |seq x y=>
    simp only [fw] at hc;split at hc
    ·rename_i x' hx
     split at hc
     ·rename_i y' hy
      simp only [amo] at hc;cases ac<;>(try rw [hseq _ _ rfl] at hc)<;>simp [AC.strip] at hc
      rename_i ax ay;obtain ⟨rfl,rfl⟩:=hc;have h1:ev dec E n fn H0 (.c ax :: .c ay::k) a H=some r:=h;refine Uz ((IH n (ane n) fn H0 ax (.c ay::k) a H r h1 N m nt x (fun e=>(hN e).imp id fun h=>(Sf h).1) hnt hx).mono fun e a' H' hp => ?_)
      by_cases he:e = .normal
      ·subst he
       obtain ⟨j,hj,h2⟩:=hp;exact (IH j (by omega) fn H0 ay k a' H' r h2 N m nt y (fun e=>(hN e).imp id fun h=>(Sf h).2) hnt hy).mono fun e2 a2 H2 ⟨j2,hj2,h3⟩=>⟨j2,by omega,h3⟩
      ·have:=xu (n':=n+1) (k':=k) (apa n) (fun x a H m hx=>Sc hx) he hp
       cases e<;>first | exact absurd rfl he | exact this
     ·cases hc
    ·cases hc
   |cond cx x y=>
    simp only [fw] at hc;split at hc
    ·rename_i x' hx
     split at hc
     ·rename_i y' hy
      simp only [amo] at hc;cases ac<;>(try rw [hseq _ _ rfl] at hc)<;>simp [AC.strip] at hc
      rename_i ax ay;obtain ⟨rfl,rfl,rfl⟩:=hc;simp only [ev] at h;split at h
      ·rename_i b hb
       rw [My] at hb;refine RH hb ?_;split at h
       ·rename_i e
        rw [if_pos e];exact (IH n (ane n) fn H0 _ k a H r h N m nt x (fun e=>(hN e).imp id fun h=>(PG h).1) hnt hx).mono fun e2 a2 H2 ⟨j2,hj2,h3⟩=>⟨j2,by omega,h3⟩
       ·rename_i e
        rw [if_neg e];exact (IH n (ane n) fn H0 _ k a H r h N m nt y (fun e=>(hN e).imp id fun h=>(PG h).2) hnt hy).mono fun e2 a2 H2 ⟨j2,hj2,h3⟩=>⟨j2,by omega,h3⟩
      ·cases h
     ·cases hc
    ·cases hc
   |block id x=>
    simp only [fw] at hc;split at hc
    ·rename_i x' hx
     simp only [amo] at hc;cases ac<;>(try rw [hseq _ _ rfl] at hc)<;>simp [AC.strip] at hc
     rename_i ax;obtain ⟨rfl,rfl⟩:=hc;have h1:ev dec E n fn H0 (.c ax :: .ZU id::k) a H=some r:=h;refine Ql ((IH n (ane n) fn H0 ax (.ZU id::k) a H r h1 N m nt x (fun e=>(hN e).imp (fun h=>h) fun h=>h) hnt hx).mono fun e a' H' hp => ?_);obtain ⟨j,hj,h2⟩:=hp;cases e with
     |normal=>
      have h2':ev dec E j fn H0 (.ZU id::k) a' H'=some r:=h2;cases j with
      |zero=>cases h2'
      |succ j=>exact ⟨j,by omega,h2'⟩
     |exit id'=>
      simp only [evX,unw] at h2;show if id'=id then _ else _
      by_cases e:id'=id
      ·rw [if_pos e]
       rw [if_pos e.symm] at h2;exact ⟨j,by omega,h2⟩
      ·rw [if_neg e]
       rw [if_neg (fun h=>e h.symm)] at h2;exact ⟨j,by omega,h2⟩
     |ret=>exact ⟨j,by omega,h2⟩
     |panic v=>exact ⟨j,by omega,h2⟩
     |goto l=>exact ⟨j,by omega,h2⟩
    ·cases hc
   |loop x=>
    simp only [fw] at hc;split at hc
    ·rename_i x' hx
     simp only [amo] at hc;cases ac<;>(try rw [hseq _ _ rfl] at hc)<;>simp [AC.strip] at hc
     rename_i lh ax;subst hc;have h1:ev dec E n fn H0 (.c ax :: .lp lh ax (sR lh a H).2::k) (sR lh a H).1 (sR lh a H).2=some r:=h;refine UM (a':=(sR lh a H).1) (H':=(sR lh a H).2) (fun K act w hr=>Lz lh hr) ?_;refine Ly (fun j a H=>j≤n∧ev dec E j fn H0 (.c ax :: .lp lh ax H::k) a H=some r) n ⟨amp n,h1⟩ ?_;rintro j a1 H1 ⟨hj,h2⟩;refine (IH j (by omega) fn H0 ax (.lp lh ax H1::k) a1 H1 r h2 N m nt x (fun e=>(hN e).imp id fun h=>h) hnt hx).mono fun e a' H' hp => ?_
     by_cases he:e = .normal
     ·subst he
      obtain ⟨j2,hj2,h3⟩:=hp;have h3':ev dec E j2 fn H0 (.lp lh ax H1::k) a' H'=some r:=h3;cases j2 with
      |zero=>cases h3'
      |succ j2=>
       simp only [ev] at h3';split at h3'
       ·rename_i a2 H2 hb
        exact ⟨j2,a2,H2,by omega,⟨by omega,h3'⟩,H9 hb⟩
       ·cases h3'
     ·have:=xu (n':=n+1) (k':=k) (by omega) (fun x a H m hx=>WJ hx) he hp
      cases e<;>first | exact absurd rfl he | exact this
    ·cases hc
   |region id ops draw=>
    simp only [fw] at hc;split at hc
    ·rename_i ros hros
     cases draw with
     |false=>
      simp only [amQ,if_false,amo] at hc;cases ac<;>(try rw [hseq _ _ rfl] at hc)<;>simp [AC.strip] at hc
      subst hc;intro K act w hg hr;exact wpIn_region (UN hE (n:=n+1) hC hnt hg ops.toList ros (List.range ops.size) (n+1) K a H act w (amp _) h hros (Qo ops) (.refl K) hr)
     |true=>
      simp only [if_true] at hc;obtain ⟨q,sc,s,cl,ord,hq,hu,hlen,hlex,hac,hok⟩:=Kg hc
      have hac2:ac = .Z0 s [] [] (ord.map fun k=>(ros.getD k default,cl k)):=by
       cases ac<;>(try rw [hseq _ _ rfl] at hac)<;>simp [AC.strip] at hac
       obtain ⟨rfl,rfl,rfl,rfl⟩:=hac;rfl
      subst hac2;obtain ⟨Tf,Lf,_,_,_,_,h5⟩:=Bx hE (n:=n+1) hC hnt hros hok.base hok.piv hok.trk hok.scs ord [] [] (n+1) a H hok.stp (PD hlex) (amp _) h;exact Qw cl (Ya hnt hq hros hu hok.base) (KpT Tf) ord KpT.trans hE.mixed hlen hlex (h5 (.inl rfl))
    ·cases hc
   |scope x=>
    simp only [fw] at hc;split at hc
    ·rename_i x' hx
     simp only [amo] at hc;cases ac<;>(try rw [hseq _ _ rfl] at hc)<;>simp [AC.strip] at hc
     rename_i ax t;obtain ⟨rfl,ht⟩:=hc;have h1:ev dec E n fn H0 (.c ax :: .sc t::k) a H=some r:=h;have hNx:fn.Z7=none→(N.rd=none∧N.mks=true)∨AF ax=true:=fun _=>.inr rfl
     have hNt:∀ l r',xr t l=some r'→fn.Z7=none→(N.rd=none∧N.mks=true)∨AF r'=true:=fun l r' hf e=>.inr rfl
     have post:∀ (j:Nat) (e:kA) (a':Env) (H':List Y4),j≤n→MI dec E j fn H0 (.sc t::k) r e a' H'→match e with
       |.goto l => ∃ m',m'<j∧∃ r',xr t l=some r'∧ev dec E m' fn H0 (.c r' :: .sc t::k) a' H'=some r
       |e=>MI dec E (n+1) fn H0 k r e a' H':=fun j e a' H' hj hp=>by
      obtain ⟨j2,hj2,h2⟩:=hp;cases e with
      |normal=>
       have h2':ev dec E j2 fn H0 (.sc t::k) a' H'=some r:=h2;cases j2 with
       |zero=>cases h2'
       |succ j2=>exact ⟨j2,by omega,h2'⟩
      |goto l=>
       simp only [evX,jmp] at h2;split at h2
       ·rename_i k' hk'
        split at hk'
        ·rename_i r' hr'
         cases hk';exact ⟨j2,hj2,r',hr',h2⟩
        ·cases hk'
       ·cases h2
      |exit id=>exact ⟨j2,by omega,h2⟩
      |ret=>exact ⟨j2,by omega,h2⟩
      |panic v=>exact ⟨j2,by omega,h2⟩
     refine Qm (fun j l a H=>j≤n∧∃ r',xr t l=some r'∧ev dec E j fn H0 (.c r' :: .sc t::k) a H=some r) n ?_ ?_
     ·refine (IH n (ane n) fn H0 ax (.sc t::k) a H r h1 N m nt x hNx hnt hx).mono fun e a' H' hp => ?_
      have:=post n e a' H' (amp n) hp;cases e<;>first | exact this | (obtain ⟨m',h2,h3⟩:=this;exact ⟨m',by omega,by omega,h3⟩)
     ·rintro j l a1 H1 ⟨hj,r',hf,h2⟩
      obtain ⟨rest,e1,e2⟩:=(C2 x _ hx l).2 _ (Ih (Lu ax.strip).eraseDups l _ (by rw [ht];exact acH t l r' hf));refine ⟨rest,e1,(IH j (by omega) fn H0 r' (.sc t::k) a1 H1 r h2 N m nt rest (hNt l r' hf) hnt e2).mono fun e a' H' hp => ?_⟩;have:=post j e a' H' hj hp;cases e<;>first | exact this | (obtain ⟨m',h2,h3⟩:=this;exact ⟨m',h2,by omega,h3⟩)
    ·cases hc
   |rangeFunc g ps y z=>cases hc
end
def MM:List Code→Code→Code
 |[],R=>R
 |A::l,R=>.seq A (MM l R)
theorem Si{c:Code}{id:Nat}{ops:Array Oper}{os:List Oper}{o:Oper}(h:WD c=some (id,ops,os,o)):c = .region id ops false∧ops.toList=os++[o]:=by
 unfold WD at h;split at h
 ·split at h
  ·rename_i o' os' hrev
   split at h
   ·simp only [amo,anM] at h
    obtain ⟨rfl,rfl,rfl,rfl⟩:=h;refine ⟨rfl, ?_⟩;have:=congrArg List.reverse hrev;simpa using this
   ·cases h
  ·cases h
 ·cases h
theorem Ol:∀ {c:Code}{l:List Code}{B:Code}{id:Nat}{ops:Array Oper}{os:List Oper}{o:Oper},Lv c=some (l,id,ops,os,o,B)→c=MM l (.seq (.region id ops false) B)∧ops.toList=os++[o]:=by
 intro c;induction c with
 |seq A c _ ih=>
  intro l B id ops os o h;unfold Lv at h;split at h
  ·rename_i hd
   simp only [amo,anM] at h;obtain ⟨rfl,rfl,rfl,rfl,rfl,rfl⟩:=h;obtain ⟨rfl,h2⟩:=Si hd;exact ⟨rfl,h2⟩
  ·split at h
   ·rename_i l2 x hs
    simp only [amo,anM] at h;obtain ⟨rfl,rfl⟩:=h;obtain ⟨e1,e2⟩:=ih hs;exact ⟨by rw [e1];rfl,e2⟩
   ·cases h
 |_=>intro l B id ops os o h;cases h
section
variable{dec:Dec}{E:br}
theorem Qz{P:Program}{G:Nat→Option (List AV)}{m:Nat→Bool}{n:Nat}{A:List Code}{B:Code}{id:Nat}{ops:Array Oper}{os:List Oper}{o:Oper}{a b:AC}{l:List RO}{x:RX}
  (h:R0 P G m n (A,id,ops,os,o,B)=some (a,l,x,b)):∃ c f,o.op = .defer c∧c.callee = .value f∧o.guard=none∧o.dst=none∧c.args = #[]∧acr P G m n A=some a∧Gr P G (m id) n ops os=some l∧fw P G m n B=some b∧x=ZQ G f:=by
 unfold R0 at h;simp only at h;split at h
 ·rename_i c hop
  split at h
  ·rename_i f hcal
   split at h
   ·rename_i hc
    simp only [amb,aoj,Array.isEmpty_iff] at hc;split at h
    ·rename_i a' l' b' e1 e2 e3
     simp only [amo,anM] at h;obtain ⟨rfl,rfl,rfl,rfl⟩:=h;exact ⟨c,f,hop,hcal,hc.1.1,hc.1.2,hc.2,e1,e2,e3,rfl⟩
    ·cases h
   ·cases h
  ·cases h
 ·cases h
theorem MN(hE:E.Ok){n:Nat}(hCl:DY dec E n){g:FuncId}{args:List AV}{d:Nat}{fn':Zj}(hd:E.dfn g=some (d,fn')){p:AV}{H H':List Y4}{r:AV}
  (h:ev dec E n fn' H [.c fn'.c] (Gb (qx (env args) d p) p fn'.abu) H=some (.ret r,H')) {K:aC}{w:World}{cargs:Array Value} (hg:K.ZC=E.G) (hi:Inv K H w) (hv:Vs K args cargs) {u u':FrameMode}{pv:Value} (hp:V K p pv)
  (hrec:∀ (c₀:Frame) (cs:List Frame),c₀.mode=u→(recoverD (c₀::cs)=some (pv,{ c₀ with mode:=u' }::cs))∨(recoverD (c₀::cs)=none∧pv = .nilIface∧c₀::cs = { c₀ with mode:=u' }::cs)) :
  CallsD E.P g cargs u w fun e u2 w2 => ∃ v,e = .returned v∧u2=u'∧∃ K2,K.le K2∧Inv K2 H' w2:=by
 obtain ⟨hcomp,hdf⟩:=hE.dfn g d fn' hd;unfold Kc at hcomp;split at hcomp
 ·cases hcomp
 ·rename_i fnc hf
  split at hcomp
  ·cases hcomp
  ·split at hcomp
   ·rename_i id ops B hb
    split at hcomp
    ·rename_i o os hops
     split at hcomp
     ·rename_i c d' hop hdst
      split at hcomp
      ·rename_i hcal
       split at hcomp
       ·rename_i hcond
        simp only [amb,aoj,ana] at hcond;split at hcomp
        ·rename_i b rs ms hB hrs hms
         split at hcomp
         case isFalse=>cases hcomp
         rename_i hnr;simp only [amo,anM] at hcomp;obtain ⟨rfl,rfl,h2,h3,h4⟩:=hcomp;rw [← h4] at h;have hw:=hCl fn' H fn'.c [] _ H (.ret r,H') h { n:=args.length+(fnc.ntmps-args.length),free:=fun b=>K.shape b=none,mks:=false } _ fnc.ntmps B (fun _=>.inr (by rw [← Sg];exact hnr)) (show fnc.ntmps≤args.length+(fnc.ntmps-args.length) from by omega) hB;refine callsD_of_wpS hf hb fun c₀ cs hm=>wpS_seq (wpS_region ?_)
         have ho:ops[0]?=some o:=by rw [← an3,hops];rfl
         have hrun:∀ (act:Act),(execOp act.eval o).run E.P w = .ok .recover w:=fun act=>by
          unfold execOp;simp only [hop,resolve,hcal,pure_bind,invoke];rfl
         have run:∀ act,Rel { n:=args.length+(fnc.ntmps-args.length),free:=fun b=>K.shape b=none,mks:=false } K (Gb (qx (env args) d' p) p ms) H act w→∀ cs',cs' = { c₀ with mode:=u' }::cs→B.wpS E.P (bodyPostS E.P fnc c₀ cs fun e u2 w2 => ∃ v,e = .returned v∧u2=u'∧∃ K2,K.le K2∧Inv K2 H' w2) act cs' w:=by
          rintro act hra cs' rfl;refine wpS_of_wp ((wpIn_wide (n:=0)).1 (wpIn_mono (hw K act w hg hra) ?_));rintro e act w' ⟨K',x,a',H2,hk,he,hr,m,hm2,hx⟩;cases x with
          |normal=>
           cases e<;>first | exact (he:False).elim | skip
           have hx':ev dec E m fn' H [] a' H2=some (.ret r,H'):=hx;cases m with
           |zero=>cases hx'
           |succ m=>
            simp only [ev,hdf] at hx';obtain ⟨cv,h5,K2,r2,H3,h6,h7,h8,h9,h10⟩:=yv h3 hrs hi hk hr hx';subst h10;exact ⟨hr.defers.bare rfl,u',rfl,cv,h5,cv,rfl,rfl,K2,h6,h8⟩
          |ret=>
           cases e<;>first | exact (he:False).elim | skip
           simp only [evX,tP,hdf] at hx;obtain ⟨cv,h5,K2,r2,H3,h6,h7,h8,h9,h10⟩:=yv h3 hrs hi hk hr hx;subst h10;exact ⟨hr.defers.bare rfl,u',rfl,cv,h5,cv,rfl,rfl,K2,h6,h8⟩
          |panic v=>
           simp only [evX,kG,hdf] at hx;unfold DV at hx;split at hx<;>cases hx
          |exit id=>simp [evX,unw,HW,si] at hx
          |goto l=>simp [evX,jmp] at hx
         have h0:Rel { n:=args.length+(fnc.ntmps-args.length),free:=fun b=>K.shape b=none,mks:=false } K (env args) H { tmps:=cargs++Array.replicate (fnc.ntmps-cargs.size) undef,defers:=[] } w:=
          ⟨hi,.none fun _ h=>h,by simp [← hv.size],fun t=>ER hv _ t⟩
         have h1:Rel { n:=args.length+(fnc.ntmps-args.length),free:=fun b=>K.shape b=none,mks:=false } K (qx (env args) d' p) H (({ tmps:=cargs++Array.replicate (fnc.ntmps-cargs.size) undef,defers:=[] }:Act).put o.dst pv) w:=by
          rw [hdst];exact h0.put (.refl K) hi (dst:=some d') hp (fun d e=>by cases e;exact anb hcond.2 (show fnc.ntmps≤args.length+(fnc.ntmps-args.length) from by omega))
         cases os with
         |nil=>
          cases hms;have hsz:ops.size=1:=by rw [← aoC,hops];rfl
          rw [hsz,show List.range 1=[0] from rfl];simp only [wpOpsS,ho,Region.wanted,hcond.1,if_true,hrun];rcases hrec c₀ cs hm with h1' | ⟨h1',h2',h3'⟩
          ·rw [h1']
           exact run _ h1 _ rfl
          ·rw [h1']
           subst h2';exact run _ h1 _ h3'
         |cons o2 os=>
          cases os with
          |cons=>cases hms
          |nil=>
           unfold Wi at hms;simp only at hms;split at hms
           ·rename_i x2 e2 hx2 he2
            split at hms
            ·rename_i hc2
             cases hms;simp only [amb,aoj,ana] at hc2;obtain ⟨⟨hg2,hlt2⟩,hxt⟩:=hc2
             have hxt2:ZQ E.G x2 = .t d':=by
              cases hcx:ZQ E.G x2 with
              |t t=>rw [hcx] at hxt;rw [amv hxt]
              |c v=>rw [hcx] at hxt;cases hxt
             have hsz:ops.size=2:=by rw [← aoC,hops];rfl
             have ho2:ops[1]?=some o2:=by rw [← an3,hops];rfl
             have hrun2:∀ (act:Act),(execOp act.eval o2).run E.P w = .ok (.value (act.eval x2)) w:=fun act=>by
              unfold Wh at hx2;split at hx2
              ·rename_i e;cases hx2;unfold execOp;simp only [e];rfl
              ·rename_i e;cases hx2;unfold execOp;simp only [e];rfl
              ·cases hx2
             have fin2:∀ cs',cs' = { c₀ with mode:=u' }::cs→B.wpS E.P (bodyPostS E.P fnc c₀ cs fun e u2 w2 => ∃ v,e = .returned v∧u2=u'∧∃ K2,K.le K2∧Inv K2 H' w2) ((({ tmps:=cargs++Array.replicate (fnc.ntmps-cargs.size) undef,defers:=[] }:Act).put o.dst pv).put o2.dst ((({ tmps:=cargs++Array.replicate (fnc.ntmps-cargs.size) undef,defers:=[] }:Act).put o.dst pv).eval x2)) cs' w:=by
              refine run _ ?_;have hvx:=oD hg h1 x2;rw [hxt2] at hvx;have hvp:rx (qx (env args) d' p) (.t d')=p:=by simp [rx,oB]
              rw [hvp] at hvx;rw [he2];exact h1.put (.refl K) hi (dst:=some e2) hvx (fun d e=>by cases e;exact anb hlt2 (show fnc.ntmps≤args.length+(fnc.ntmps-args.length) from by omega))
             rw [hsz,show List.range 2=[0,1] from rfl];simp only [wpOpsS,ho,ho2,Region.wanted,hcond.1,hg2,if_true,hrun,hrun2,Oper.upon];rcases hrec c₀ cs hm with h1' | ⟨h1',h2',h3'⟩
             ·rw [h1']
              exact fin2 _ rfl
             ·rw [h1']
              subst h2';exact fin2 _ h3'
            ·cases hms
           ·cases hms
        ·cases hcomp
       ·cases hcomp
      ·cases hcomp
     ·cases hcomp
    ·cases hcomp
   ·cases hcomp
end
section
variable{dec:Dec}{E:br}
theorem MO{P:Program}{G:Nat→Option (List AV)}{g:FuncId}{x:Nat×AC×Nat×List wZ×List Nat}(h:Kc P G g=some x)(args:Array Value)(w:World):(callFunc g args).run P w = .ok (.enter g args) w:=by
 unfold Kc at h;split at h
 ·cases h
 ·rename_i fn hf
  split at h
  ·cases h
  ·rename_i hn
   split at h
   ·rename_i hb
    exact sS hf (by simpa using hn) (by rw [hb];rfl) args w
   ·cases h
theorem Ge(hE:E.Ok){n:Nat}(hCl:DY dec E n){fn':Zj}{fnc:Func}{rs:List wZ}(h3:rs=fn'.res)(hrs:AO E.P fnc.results.toList=some rs){N:Fr}{K K':aC}{H H2 H3:List Y4}{w w':World}{a':Env}{act:Act}{r:uY}{H':List Y4}
  (hi:Inv K H w) (hk:K.le K') (hr:Rel N K' a' H2 act w') {v p:AV} (hcall:qW E (ev dec E n) v p H2=some H3) (hf:fin dec fn' H a' H3=some (r,H')) (hg:K.ZC=E.G) {g2:FuncId}{vs us:Array Value} (hv:V K' v (.func (.func g2) vs us)) {pv:Value} (hp:V K' p pv) {u u':FrameMode}
  (hu:u≠.run) (hrec:∀ (c₀:Frame) (cs:List Frame),c₀.mode=u→(recoverD (c₀::cs)=some (pv,{ c₀ with mode:=u' }::cs))∨(recoverD (c₀::cs)=none∧pv = .nilIface∧c₀::cs = { c₀ with mode:=u' }::cs)) (hs:settle u' = .returning) :
  Leaves E.P fnc act.tmps (Cz K fun r2 H2=>r2=r∧H2=H') [{ target:=.fn (.func g2) us,args:=vs }] u w':=by
 unfold qW at hcall;split at hcall
 ·rename_i g first cap
  split at hcall
  ·rename_i d fd hd
   split at hcall
   ·rename_i rv H4 hev
    cases hcall;obtain ⟨vs',us',hve,h1,h2⟩:=hv.ade;cases hve;obtain ⟨hcomp,hdf⟩:=hE.dfn _ d fd hd;have hargs:=h1.append h2;refine leaves_cons hu (f:=g2) (args:=vs++us) ?_ ?_
    ·have:=MO hcomp (vs++us) w'
     exact this
    ·refine (MN hE hCl hd hev (hk.ZC.trans hg) hr.inv hargs hp hrec).mono ?_
     rintro e u2 w2 ⟨v2,rfl,rfl,K2,hk2,hi2⟩;simp only [hs];have hr2:Rel N K2 a' _ act w2:=⟨hi2,hr.defers.mono hk2,hr.size,fun t=>(hr.tmps t).mono hk2⟩
     obtain ⟨cv,h5,h6⟩:=yv h3 hrs hi (hk.trans hk2) hr2 hf;exact ⟨cv,h5,h6⟩
   ·cases hcall
  ·cases hcall
 ·cases hcall
def Ii(dec:Dec)(E:br)(n:Nat)(fn':Zj)(H0:List Y4)(r:Out)(N:Fr)(m:Nat→Bool)(nt:Nat)(K:aC)(R:Code)(Q:Exit→Act→World→Prop)(As:List Code)(c:AC):Prop:=
 ∀ (kk:List ZA),(∀ id,unw id kk=none)→si kk=none→(∀ l,jmp l kk=none)→acr E.P E.G m nt As=some c.strip→∀ (j:Nat),j≤n→∀ (K':aC) (a:Env) (H:List Y4) (act:Act) (w:World),ev dec E j fn' H0 (.c c::kk) a H=some r→K.le K'→Rel N K' a H act w →
  (∀ (j:Nat),j≤n→∀ (K':aC) (act:Act) (w:World) (a:Env) (H:List Y4),K.le K'→Rel N K' a H act w→ev dec E j fn' H0 kk a H=some r→R.wpIn N.F 0 E.P Q act w) →
  (∀ (K':aC) (act:Act) (w:World) (a:Env) (H:List Y4),K.le K'→Rel N K' a H act w→fin dec fn' H0 a H=some r→Q .ret act w)→(MM As R).wpIn N.F 0 E.P Q act w
theorem MP{n:Nat}{fn':Zj}{H0:List Y4}{r:Out}{N:Fr}{m:Nat→Bool}{nt:Nat}{K:aC}{R:Code}{Q:Exit→Act→World→Prop}{As:List Code}{c:AC}(h:Ii dec E n fn' H0 r N m nt K R Q As c)(l:List Nat):Ii dec E n fn' H0 r N m nt K R Q As (.seq c (.lv l)):=by
 intro kk hu hdr hj hA j hjn K' a H act w hev hk hr hcont hret;cases j with
 |zero=>cases hev
 |succ j=>
  simp only [ev] at hev;refine h (.c (.lv l)::kk) (fun id=>by simp [unw,hu]) (by simp [si,hdr]) (fun l=>by simp [jmp,hj]) hA j (by omega) K' a H act w hev hk hr (fun j2 hj2 K2 act2 w2 a2 H2 hk2 hr2 hx2 => ?_) hret;cases j2 with
  |zero=>cases hx2
  |succ j2=>
   simp only [ev] at hx2;exact hcont j2 (by omega) K2 act2 w2 _ H2 hk2 (hr2.Zn l) hx2
theorem MQ{n:Nat}{fn':Zj}{H0:List Y4}{r:Out}{N:Fr}{m:Nat→Bool}{nt:Nat}{K:aC}{R:Code}{Q:Exit→Act→World→Prop}{As:List Code}{c:AC}(h:Ii dec E n fn' H0 r N m nt K R Q As c)(t:Nat)(l:List Nat):Ii dec E n fn' H0 r N m nt K R Q As (.seq c (.fz t l)):=by
 intro kk hu hdr hj hA j hjn K' a H act w hev hk hr hcont hret;cases j with
 |zero=>cases hev
 |succ j=>
  simp only [ev] at hev;refine h (.c (.fz t l)::kk) (fun id=>by simp [unw,hu]) (by simp [si,hdr]) (fun l=>by simp [jmp,hj]) hA j (by omega) K' a H act w hev hk hr (fun j2 hj2 K2 act2 w2 a2 H2 hk2 hr2 hx2 => ?_) hret;cases j2 with
  |zero=>cases hx2
  |succ j2=>
   simp only [ev] at hx2;split at hx2
   ·rename_i a3 H3 hf
    obtain ⟨K3,g1,g2⟩:=PF hf hr2;exact hcont j2 (by omega) K3 act2 w2 a3 H3 (hk2.trans g1) g2 hx2
   ·cases hx2
theorem QA{n:Nat}(hc:∀ j,j≤n→DY dec E j){fn':Zj}{H0:List Y4}{r:Out}(hdn:fn'.Z7≠none){N:Fr}{m:Nat→Bool}{nt:Nat}(hnt:nt≤N.n){K:aC}(hg:K.ZC=E.G){R:Code}{Q:Exit→Act→World→Prop} :
  ∀ (As:List Code) (c:AC),Ii dec E n fn' H0 r N m nt K R Q As c:=by
 have one:∀ (A:Code) (c:AC) (k2:List ZA) (R2:Code),(∀ id,unw id k2=none)→si k2=none→(∀ l,jmp l k2=none)→fw E.P E.G m nt A=some c.strip→∀ (j:Nat),j≤n→∀ (K':aC) (a:Env) (H:List Y4) (act:Act) (w:World),ev dec E j fn' H0 (.c c::k2) a H=some r→K.le K'→Rel N K' a H act w →
  (∀ (j:Nat),j≤n→∀ (K':aC) (act:Act) (w:World) (a:Env) (H:List Y4),K.le K'→Rel N K' a H act w→ev dec E j fn' H0 k2 a H=some r→R2.wpIn N.F 0 E.P Q act w) →
  (∀ (K':aC) (act:Act) (w:World) (a:Env) (H:List Y4),K.le K'→Rel N K' a H act w→fin dec fn' H0 a H=some r→Q .ret act w)→(Code.seq A R2).wpIn N.F 0 E.P Q act w:=by
  intro A c k2 R2 hu hdr hj hA j hjn K' a H act w h hk hr hcont hret;refine wpIn_seq (wpIn_mono (hc j hjn fn' H0 c k2 a H r h N m nt A (fun e=>absurd e hdn) hnt hA K' act w (hk.ZC.trans hg) hr) ?_);rintro e act2 w2 ⟨K2,xe,a2,H2,hk2,he,hr2,m2,hm2,hx⟩;obtain ⟨d,hd⟩:=Option.ne_none_iff_exists'.1 hdn;cases xe with
  |normal=>
   cases e<;>first | exact (he:False).elim | skip
   exact hcont m2 (by omega) K2 act2 w2 a2 H2 (hk.trans hk2) hr2 hx
  |ret=>
   cases e<;>first | exact (he:False).elim | skip
   simp only [evX,tP,hd,hdr] at hx;exact hret K2 act2 w2 a2 H2 (hk.trans hk2) hr2 hx
  |panic v=>simp [evX,kG,hd,hdr] at hx
  |exit id=>simp [evX,hu,HW,hdr] at hx
  |goto l=>simp [evX,hj] at hx
 intro As;induction As with
 |nil=>
  intro c;induction c with
  |seq x y ih _=>
   by_cases hlv:∃ l,y = .lv l
   ·obtain ⟨l,rfl⟩:=hlv
    exact MP ih l
   ·by_cases hfz:∃ t l,y = .fz t l
    ·obtain ⟨t,l,rfl⟩:=hfz
     exact MQ ih t l
    ·intro kk _ _ _ hA
     rw [EX (fun l hl=>hlv ⟨l,hl⟩) (fun t l hl=>hfz ⟨t,l,hl⟩)] at hA;cases hA
  |skip=>
   intro kk hu hdr hj hA j hjn K' a H act w h hk hr hcont hret;cases j with
   |zero=>cases h
   |succ j=>
    simp only [ev] at h;exact hcont j (by omega) K' act w a H hk hr h
  |_=>intro kk _ _ _ hA;simp [acr,AC.strip] at hA
 |cons A l ih=>
  cases l with
  |nil=>intro c kk hu hdr hj hA j hjn K' a H act w h hk hr hcont hret;exact one A c kk R hu hdr hj hA j hjn K' a H act w h hk hr hcont hret
  |cons A2 l=>
   intro c
   have hcL:∀ c:AC,acr E.P E.G m nt (A::A2::l)=some c→∃ a b,c = .seq a b∧fw E.P E.G m nt A=some a∧acr E.P E.G m nt (A2::l)=some b:=fun c h=>by
    rw [acr] at h;split at h
    ·rename_i a1 b1 e1 e2
     cases h;exact ⟨_,_,rfl,e1,e2⟩
    ·cases h
   induction c with
   |seq x y ihx _=>
    by_cases hlv:∃ l,y = .lv l
    ·obtain ⟨l,rfl⟩:=hlv
     exact MP ihx l
    ·by_cases hfz:∃ t l,y = .fz t l
     ·obtain ⟨t,l,rfl⟩:=hfz
      exact MQ ihx t l
     ·intro kk hu hdr hj hA j hjn K' a H act w h hk hr hcont hret
      rw [EX (fun l hl=>hlv ⟨l,hl⟩) (fun t l hl=>hfz ⟨t,l,hl⟩)] at hA;obtain ⟨a1,b1,e0,e1,e2⟩:=hcL _ hA;cases e0;cases j with
      |zero=>cases h
      |succ j=>
       simp only [ev] at h;exact one A x (.c y::kk) (MM (A2::l) R) (fun id=>by simp [unw,hu]) (by simp [si,hdr]) (fun l=>by simp [jmp,hj]) e1 j (by omega) K' a H act w h hk hr (fun j2 hj2 K2 act2 w2 a2 H2 hk2 hr2 hx2=>ih y kk hu hdr hj e2 j2 hj2 K2 a2 H2 act2 w2 hx2 hk2 hr2 hcont hret) hret
   |_=>intro kk _ _ _ hA;obtain ⟨_,_,e0,_⟩:=hcL _ hA;simp [AC.strip] at e0
theorem Sj(hE:E.Ok){n:Nat}(hC:∀ j,j<n→Bw dec E j)(hc:∀ j,j≤n→DY dec E j){g:FuncId}{fn':Zj}{fnc:Func}{rs:List wZ}{args:List AV}{H:List Y4}{r:uY}{H':List Y4}
  {l:List RO}{x:RX}{aB:AC} (hdf:fn'.Z7=some (l,x,aB)) (hf:E.P.funcs[g]?=some fnc)
  (hname:(fnc.name == "runtime.NumGoroutine")=false) {As:List Code}{B:Code}{id:Nat}{ops:Array Oper}{os:List Oper}{o:Oper} (hb:fnc.body=some (MM As (.seq (.region id ops false) B))) (hops:ops.toList=os++[o])
  (h3:rs=fn'.res) (hrs:AO E.P fnc.results.toList=some rs) (hA:acr E.P E.G (fn'.abu.contains ·) fnc.ntmps As=some fn'.c.strip) (hB:fw E.P E.G (fn'.abu.contains ·) fnc.ntmps B=some aB.strip)
  (hros:Gr E.P E.G (fn'.abu.contains id) fnc.ntmps ops os=some l) {c:Call}{f:Operand} (hop:o.op = .defer c) (hcal:c.callee = .value f) (hgd:o.guard=none) (hdst:o.dst=none) (hca:c.args = #[]) (hx:x=ZQ E.G f)
  (h:ev dec E n fn' H [.c fn'.c,.c (.ops l),.df x aB] (env args) H=some (r,H')):dL E.P E.G g args H fun r2 H2=>r2=r∧H2=H':=by
 have hnt:fnc.ntmps≤args.length+(fnc.ntmps-args.length):=by omega
 intro K w cargs hg hi hv;refine .inl ⟨sS hf hname (by simp [hb]) cargs w, ?_⟩;refine calls_of_wp_defers hf hb ((wpIn_wide (n:=0)).1 (QA hc (fun e=>by rw [hdf] at e;cases e) (N := { n:=args.length+(fnc.ntmps-args.length),mks:=false }) hnt hg As fn'.c [.c (.ops l),.df x aB] (fun id=>rfl) rfl (fun l=>rfl) hA n (amp n) K _ _ _ w h (aC.le.refl _) ⟨hi,.none fun _ _=>trivial,by simp [← hv.size],fun t=>ER hv _ t⟩ ?_ ?_))
 ·intro m hm K' act w' a' H2 hk hr hx2
  refine wpIn_seq (wpIn_region ?_)
  have hsz:List.range ops.size=List.range os.length++[os.length]:=by
   rw [← aoC,hops];simp [List.range_succ]
  rw [hsz];refine DZ hE (n:=n) hC (N := { n:=args.length+(fnc.ntmps-args.length),mks:=false }) hnt hg (l2:=[os.length]) ?_ ?_ os l (List.range os.length) m K' a' H2 act w' (by omega) hx2 hros ?_ hk hr
  ·
   intro j K1 a1 H1 act1 w1 hj hk1 hr1 hev;cases j with
   |zero=>cases hev
   |succ j=>
    simp only [ev] at hev;split at hev
    ·rename_i g2 first cap hfe
     split at hev
     ·rename_i hsome
      have ho:ops[os.length]?=some o:=by rw [← an3,hops];simp
      rw [wpOpsIn_cons,wpOpIn,ho];have hfv:=oD (hk1.ZC.trans hg) hr1 f;rw [← hx,hfe] at hfv;obtain ⟨vs,us,hfv2,h1,h2⟩:=hfv.ade
      have hrun:(execOp act1.eval o).run E.P w1 = .ok (.defer { target:=.fn (.func g2) us,args:=vs }) w1:=by
       unfold execOp;simp only [hop,resolve,hcal,hfv2,hca,pure_bind,Deferred.ofValue,Array.map_empty,Array.append_empty];rfl
      simp only [Region.wanted,hgd,if_true];refine ⟨fun f _=>trivial, ?_⟩;rw [show Oper.semAt (Fence.round _) act1.eval o=execOp act1.eval o from rfl,hrun,Oper.uponIn_defer,hdst];have hd0:act1.defers=[]:=hr1.defers.bare rfl
      have hr2:Rel { n:=args.length+(fnc.ntmps-args.length),mks:=false,ds:=[{ target:=.fn (.func g2) us,args:=vs }] } K1 a1 H1 (({ act1 with defers := { target:=.fn (.func g2) us,args:=vs }::act1.defers }:Act).put none undef) w1:=
       ⟨hr1.inv,by rw [hd0];exact .none fun _ _=>trivial,hr1.size,hr1.tmps⟩
      show Code.wpIn Fence.wide 0 E.P B _ _ w1;refine wpIn_mono (hc j (by omega) fn' H aB [.dr (.fn (.func g2) first cap)] a1 H1 (r,H') hev _ _ fnc.ntmps B (fun e=>by rw [hdf] at e;cases e) hnt hB K1 _ w1 (hk1.ZC.trans hg) hr2) ?_;rintro e act2 w2 ⟨K2,x2,a2,H3,hk2,he2,hr3,m2,hm2,hx3⟩
      have hfv3:V K2 (.fn (.func g2) first cap) (.func (.func g2) vs us):=by
       rw [← hfv2];exact hfv.mono hk2
      have hds:act2.defers=[{ target:=.fn (.func g2) us,args:=vs }]:=hr3.defers.bare rfl;have hk3:=hk1.trans hk2
      have plain:∀ m3,m3≤n→tP dec E (ev dec E m3) fn' H [.dr (.fn (.func g2) first cap)] a2 H3=some (r,H')→Leaves E.P fnc act2.tmps (Cz K fun r2 H2=>r2=r∧H2=H') act2.defers .returning w2:=fun m3 hm3 hx4=>by
       simp only [tP,hdf,si] at hx4;split at hx4
       ·rename_i H4 hcl
        rw [hds];refine Ge hE (hc m3 hm3) h3 hrs hi hk3 hr3 hcl hx4 hg hfv3 (.Zr) (u:=.returning) (u':=.returning) (by simp) (fun c₀ cs hm=>.inr ⟨by simp [recoverD,hm],rfl,by rw [← hm]⟩) rfl
       ·cases hx4
      cases x2 with
      |normal=>
       cases e<;>first | exact (he2:False).elim | skip
       have hx4:ev dec E m2 fn' H [.dr (.fn (.func g2) first cap)] a2 H3=some (r,H'):=hx3;cases m2 with
       |zero=>cases hx4
       |succ m2=>exact plain m2 (by omega) hx4
      |ret=>
       cases e<;>first | exact (he2:False).elim | skip
       exact plain m2 (by omega) hx3
      |panic v=>
       cases e<;>first | exact (he2:False).elim | skip
       obtain ⟨cv,rfl,hcv⟩:=he2;simp only [evX,kG,hdf,si] at hx3;split at hx3
       ·rename_i H4 hcl
        show Leaves E.P fnc act2.tmps _ act2.defers _ w2;rw [hds];refine Ge hE (hc m2 (by omega)) h3 hrs hi hk3 hr3 hcl hx3 hg hfv3 hcv (u:=.panicking [{ v:=cv,recovered:=false }]) (u':=.panicking [{ v:=cv,recovered:=true }]) (by simp) (fun c₀ cs hm=>.inl (by simp [recoverD,hm])) rfl
       ·cases hx3
      |exit id=>simp [evX,unw,HW,si] at hx3
      |goto l=>simp [evX,jmp] at hx3
     ·cases hev
    ·cases hev
  ·intro j K1 a1 H1 act1 w1 v cv hj hk1 hv1 hr1 hev
   simp [kG,hdf,si] at hev
  ·refine an5 fun i => ?_
   rw [amK,amK]
   by_cases hi':i<os.length
   ·rw [aoB hi']
    simp only [amO];rw [← an3,hops,al7 hi',al4 hi'];rfl
   ·rw [am0 (by simp;omega),am0 (by omega)]
    rfl
 ·intro K' act w' a' H2 hk hr hx2
  show Leaves E.P fnc act.tmps (Cz K fun r2 H2=>r2=r∧H2=H') act.defers .returning w';have hd0:act.defers=[]:=hr.defers.bare rfl;rw [hd0];exact yv h3 hrs hi hk hr hx2
theorem QB(hE:E.Ok){n:Nat}(hC:∀ j,j<n→Bw dec E j)(hc:∀ j,j≤n→DY dec E j):Bw dec E n:=by
 intro g args H r H' h;unfold Bu yu at h;split at h
 ·rename_i fn' hfn
  have hcomp:=hE.fn g fn' hfn;unfold Pz at hcomp;split at hcomp
  ·cases hcomp
  ·rename_i fnc hf
   split at hcomp
   ·cases hcomp
   ·rename_i hname
    split at hcomp
    ·cases hcomp
    ·rename_i c hb
     split at hcomp
     ·cases hcomp
     ·rename_i rs hrs
      split at hcomp
      ·rename_i hsp
       split at hcomp
       ·cases hcomp
       ·rename_i ac hac
        simp only [amo,anM] at hcomp;obtain ⟨rfl,h2,h3,h4⟩:=hcomp
        have hdf:fn'.Z7=none:=by
         cases hd:fn'.Z7 with
         |none=>rfl
         |some x=>rw [hd] at h4;cases h4
        simp only [hdf] at h;exact Og (hc n (amp n)) hdf hf (by simpa using hname) hb h3 hrs hac h
      ·rename_i x hsp
       split at hcomp
       ·cases hcomp
       ·rename_i ac l y B hcd
        simp only [amo,anM] at hcomp;obtain ⟨rfl,h2,h3,h4⟩:=hcomp;obtain ⟨A0,id,ops,os,o,B0⟩:=x;obtain ⟨rfl,hops⟩:=Ol hsp;obtain ⟨cc,f,e1,e2,e3,e4,e5,e6,e7,e8,e9⟩:=Qz hcd;cases hd:fn'.Z7 with
        |none=>rw [hd] at h4;cases h4
        |some x=>
         obtain ⟨l',x',aB⟩:=x;rw [hd] at h4;simp only [amO,amo,anM] at h4;obtain ⟨rfl,rfl,rfl⟩:=h4;simp only [hd] at h;exact Sj hE hC hc hd hf (by simpa using hname) hb hops h3 hrs e6 e8 e7 e1 e2 e3 e4 e5 e9 h
 ·exact hE.orc g args H r H' h
theorem yw(hE:E.Ok):∀ n,DY dec E n∧Bw dec E n:=by
 intro n;induction n using Nat.strongRecOn with
 |ind n ih=>
  have h1:=Oj (fun j hj=>(ih j hj).2) hE (fun j hj=>(ih j hj).1)
  exact ⟨h1,QB hE (fun j hj=>(ih j hj).2) fun j hj=>by
   rcases Nat.lt_or_eq_of_le hj with h | rfl
   ·exact (ih j h).1
   ·exact h1⟩
end
mutual
def AV.eqb:AV→AV→Bool
 |.ZW,.ZW=>true
 |.bool a,.bool b=>a == b
 |.int k m,.int k' n=>decide (k=k')&&decide (m=n)
 |.str s,.str t=>decide (s=t)
 |.ZB,.ZB=>true
 |.ptr i o,.ptr i' o'=>Nat.beq i i'&&Nat.beq o o'
 |.Zu e r i o,.Zu e' r' i' o'=>Nat.beq e e'&&AV.aeN r r'&&Nat.beq i i'&&Nat.beq o o'
 |.slice t e r,.slice t' e' r'=>decide (t=t')&&Nat.beq e e'&&AV.aeN r r'
 |.Za i o l e r,.Za i' o' l' e' r'=>Nat.beq i i'&&Nat.beq o o'&&Nat.beq l l'&&Nat.beq e e'&&r == r'
 |.ZG,.ZG=>true
 |.map i,.map i'=>Nat.beq i i'
 |.Z2 es,.Z2 es'=>AV.afq es es'
 |.sdp t r,.sdp t' r'=>Nat.beq t t'&&AV.aeN r r'
 |.fn (.func g) a b,.fn (.func g') a' b'=>Nat.beq g g'&&AV.acN a a'&&AV.acN b b'
 |.Zw,.Zw=>true
 |.iface t v,.iface t' v'=>Nat.beq t t'&&AV.eqb v v'
 |.Zr,.Zr=>true
 |.agg a,.agg b=>AV.acN a b
 |.tuple a,.tuple b=>AV.acN a b
 |_,_=>false
def AV.acN:List AV→List AV→Bool
 |[],[]=>true
 |x::l,y::m=>AV.eqb x y&&AV.acN l m
 |_,_=>false
def AV.aeN:List (List AV)→List (List AV)→Bool
 |[],[]=>true
 |x::l,y::m=>AV.acN x y&&AV.aeN l m
 |_,_=>false
def AV.afq:List (AV×AV)→List (AV×AV)→Bool
 |[],[]=>true
 |x::l,y::m=>AV.ajA x y&&AV.afq l m
 |_,_=>false
def AV.ajA:AV×AV→AV×AV→Bool
 |(x,y),(x',y')=>AV.eqb x x'&&AV.eqb y y'
end
mutual
theorem AV.abM:∀ {x y:AV},AV.eqb x y=true→x=y
 |.ZW,y,h=>by cases y<;>simp [AV.eqb] at h;rfl
 |.bool a,y,h=>by cases y<;>simp [AV.eqb] at h;rw [h]
 |.int k m,y,h=>by cases y<;>simp [AV.eqb] at h;rw [h.1,h.2]
 |.str s,y,h=>by cases y<;>simp [AV.eqb] at h;rw [h]
 |.ZB,y,h=>by cases y<;>simp [AV.eqb] at h;rfl
 |.ptr i o,y,h=>by cases y<;>simp [AV.eqb] at h;rw [h.1,h.2]
 |.Zu e r i o,y,h=>by
  cases y<;>simp [AV.eqb] at h
  obtain ⟨⟨⟨h1,h2⟩,h3⟩,h4⟩:=h;rw [h1,AV.acX h2,h3,h4]
 |.slice t e r,y,h=>by
  cases y<;>simp [AV.eqb] at h
  obtain ⟨⟨h1,h2⟩,h3⟩:=h;rw [h1,h2,AV.acX h3]
 |.Za i o l e r,y,h=>by
  cases y<;>simp [AV.eqb] at h
  obtain ⟨⟨⟨⟨h1,h2⟩,h3⟩,h4⟩,h5⟩:=h;rw [h1,h2,h3,h4,h5]
 |.ZG,y,h=>by cases y<;>simp [AV.eqb] at h;rfl
 |.map i,y,h=>by cases y<;>simp [AV.eqb] at h;rw [h]
 |.Z2 es,y,h=>by cases y<;>simp [AV.eqb] at h;rw [AV.adN h]
 |.sdp t r,y,h=>by
  cases y<;>simp [AV.eqb] at h
  rw [h.1,AV.acX h.2]
 |.fn (.func g) a b,.fn (.func g') a' b',h=>by
  simp [AV.eqb] at h;obtain ⟨⟨h1,h2⟩,h3⟩:=h;rw [h1,AV.aa4 h2,AV.aa4 h3]
 |.fn (.func g) a b,.fn (.method _) a' b',h=>by simp [AV.eqb] at h
 |.fn (.func g) a b,.fn (.methodOf _ _) a' b',h=>by simp [AV.eqb] at h
 |.fn (.func g) a b,.fn (.via _ _ _ _) a' b',h=>by simp [AV.eqb] at h
 |.fn (.func g) a b,.fn (.yield _) a' b',h=>by simp [AV.eqb] at h
 |.fn (.method _) a b,y,h=>by simp [AV.eqb] at h
 |.fn (.methodOf _ _) a b,y,h=>by simp [AV.eqb] at h
 |.fn (.via _ _ _ _) a b,y,h=>by simp [AV.eqb] at h
 |.fn (.yield _) a b,y,h=>by simp [AV.eqb] at h
 |.fn (.func g) a b,.ZW,h=>by simp [AV.eqb] at h
 |.fn (.func g) a b,.bool _,h=>by simp [AV.eqb] at h
 |.fn (.func g) a b,.int _ _,h=>by simp [AV.eqb] at h
 |.fn (.func g) a b,.str _,h=>by simp [AV.eqb] at h
 |.fn (.func g) a b,.ZB,h=>by simp [AV.eqb] at h
 |.fn (.func g) a b,.ptr _ _,h=>by simp [AV.eqb] at h
 |.fn (.func g) a b,.Zu _ _ _ _,h=>by simp [AV.eqb] at h
 |.fn (.func g) a b,.slice _ _ _,h=>by simp [AV.eqb] at h
 |.fn (.func g) a b,.Za _ _ _ _ _,h=>by simp [AV.eqb] at h
 |.fn (.func g) a b,.ZG,h=>by simp [AV.eqb] at h
 |.fn (.func g) a b,.map _,h=>by simp [AV.eqb] at h
 |.fn (.func g) a b,.Z2 _,h=>by simp [AV.eqb] at h
 |.fn (.func g) a b,.sdp _ _,h=>by simp [AV.eqb] at h
 |.fn (.func g) a b,.Zw,h=>by simp [AV.eqb] at h
 |.fn (.func g) a b,.iface _ _,h=>by simp [AV.eqb] at h
 |.fn (.func g) a b,.Zr,h=>by simp [AV.eqb] at h
 |.fn (.func g) a b,.agg _,h=>by simp [AV.eqb] at h
 |.fn (.func g) a b,.tuple _,h=>by simp [AV.eqb] at h
 |.Zw,y,h=>by cases y<;>simp [AV.eqb] at h;rfl
 |.iface t v,y,h=>by
  cases y<;>simp [AV.eqb] at h
  rw [h.1,AV.abM h.2]
 |.Zr,y,h=>by cases y<;>simp [AV.eqb] at h;rfl
 |.agg a,y,h=>by cases y<;>simp [AV.eqb] at h;rw [AV.aa4 h]
 |.tuple a,y,h=>by cases y<;>simp [AV.eqb] at h;rw [AV.aa4 h]
theorem AV.aa4:∀ {x y:List AV},AV.acN x y=true→x=y
 |[],y,h=>by cases y<;>simp [AV.acN] at h;rfl
 |x::l,y,h=>by
  cases y<;>simp [AV.acN] at h
  rw [AV.abM h.1,AV.aa4 h.2]
theorem AV.acX:∀ {x y:List (List AV)},AV.aeN x y=true→x=y
 |[],y,h=>by cases y<;>simp [AV.aeN] at h;rfl
 |x::l,y,h=>by
  cases y<;>simp [AV.aeN] at h
  rw [AV.aa4 h.1,AV.acX h.2]
theorem AV.adN:∀ {x y:List (AV×AV)},AV.afq x y=true→x=y
 |[],y,h=>by cases y<;>simp [AV.afq] at h;rfl
 |x::l,y,h=>by
  cases y<;>simp [AV.afq] at h
  rw [AV.ahF h.1,AV.adN h.2]
theorem AV.ahF:∀ {x y:AV×AV},AV.ajA x y=true→x=y
 |(x,x'),(y,y'),h=>by
  simp [AV.ajA] at h;rw [AV.abM h.1,AV.abM h.2]
end
def Y4.eqb:Y4→Y4→Bool
 |.dead,.dead=>true
 |.cells a T,.cells b T'=>AV.acN a b&&Nat.beq T T'
 |.tok n T,.tok n' T'=>Nat.beq n n'&&Nat.beq T T'
 |.aaj s n,.aaj s' n'=>decide (s=s')&&Nat.beq n n'
 |.map a,.map b=>AV.afq a b
 |_,_=>false
theorem Y4.abM{x y:Y4}(h:Y4.eqb x y=true):x=y:=by
 cases x<;>cases y<;>simp [Y4.eqb] at h<;>try rfl
 ·rw [AV.aa4 h.1,h.2]
 ·rw [h.1,h.2]
 ·rw [h.1,h.2]
 ·rw [AV.adN h]
def u3:List Y4→List Y4→Bool
 |[],_=>true
 |x::l,y::m=>Y4.eqb x y&&u3 l m
 |_,_=>false
theorem v8:∀ {H H':List Y4},u3 H H'=true→H'.take H.length=H
 |[],_,_=>by simp
 |x::l,y,h=>by
  cases y<;>simp [u3] at h
  rw [← Y4.abM h.1];simp [v8 h.2]
def Wm(L:List Nat)(H H':List Y4):Bool:=
 L.all fun id=>match H[id]? with
  |none=>true
  |some x=>match H'[id]? with
   |some y=>Y4.eqb x y
   |none=>false
theorem Sk{L:List Nat}{H H':List Y4}(h:Wm L H H'=true):∀ id∈L,id<H.length→H'[id]?=H[id]? := fun id hid hlt=>by
 have:=amI.1 h id hid;rw [al4 hlt] at this ⊢;simp only at this;split at this
 ·rename_i y hy;rw [hy,Y4.abM this]
 ·cases this
def LD:Nat→List Y4→List Y4→Option (List Nat)
 |_,[],_=>some []
 |_,_::_,[]=>none
 |i,x::H,y::H'=>match LD (i+1) H H' with
  |some l=>bif u3 [x] [y] then some l else some (i::l)
  |none=>none
theorem EY:∀ (H H':List Y4) (i:Nat) (l:List Nat),LD i H H'=some l→H.length≤H'.length∧∀ j,j<H.length→i+j ∉ l→H'[j]?=H[j]?
 |[],H',i,l,_=>⟨anC _,fun j hj=>absurd hj (aoA _)⟩
 |_::_,[],_,_,h=>by cases h
 |x::H,y::H',i,l,h=>by
  simp only [LD] at h;split at h
  ·rename_i l2 h2
   obtain ⟨h3,h4⟩:=EY H H' (i+1) l2 h2;refine ⟨by simpa using h3,fun j hj hn => ?_⟩;cases j with
   |zero=>
    cases hb:u3 [x] [y] with
    |true=>
     have:=v8 hb;simp at this;simp [this]
    |false=>
     rw [hb] at h;simp only [cond_false,amo] at h;subst h;simp at hn
   |succ j=>
    simp only [amX];refine h4 j (by simpa using hj) (fun hm=>hn ?_);have e:i+(j+1)=i+1+j:=by omega
    rw [e];cases hb:u3 [x] [y] with
    |true=>rw [hb] at h;simp only [cond_true,amo] at h;rw [← h];exact hm
    |false=>rw [hb] at h;simp only [cond_false,amo] at h;rw [← h];exact aoz _ hm
  ·cases h
def UO:Dec where
 frz _ _ _ _:=.no
 deep _ _ _:=none
 hand _ _ _:=.no
 back _ _ _ _:=.no
 ap T L:=if h:L.all (fun x => !T.contains x)=true then .yes (fun x hx ht=>by
   have:=amI.1 h x hx;simp [ht] at this) else .no
 wide _ _ _ _ _ _:=.no
 same H H':=if h:(u3 H H'&&Nat.beq H.length H'.length)=true then .yes (by
   simp only [amb,apx] at h;have:=v8 h.1;rwa [h.2,anQ] at this) else .no
 Zn H H':=if h:u3 H H'=true then .yes (v8 h) else .no
 ids L H H':=if h:Wm L H H'=true then .yes (Sk h) else .no
 turn H H':=match h:LD 0 H H' with
  |some l=>some ⟨l,(EY H H' 0 l h).1,fun i hi hn=>(EY H H' 0 l h).2 i hi (by simpa using hn)⟩
  |none=>none
 fzp _ _ _:=none
def Zv{α:Type}(b:Bool)(x y:α):α:=
 match b with
 |true=>x
 |false=>y
def UP(x:Option (AV×List Y4)):Option Out:=
 match x with
 |some (v,H)=>some (.ret v,H)
 |none=>none
def QC(x:AV)(H:List Y4):Option Out:=
 match x with
 |.iface t v=>some (.panic (.iface t v),H)
 |_=>none
def qD(E:br)(f:Rec)(x:AV)(args:List AV)(H:List Y4):Option Out:=
 match x with
 |.fn (.func g) first cap=>yu E f g (first++args++cap) H
 |_=>none
def uy(E:br)(f:Rec)(a:Env)(H:List Y4)(s:RS):Option Out:=
 match s with
 |.op op=>UP (Z1 a H op)
 |.call x args=>qD E f (rx a x) (args.map (rx a)) H
 |.panic x=>QC (rx a x) H
 |.inv x m args=>qD E f (Od E (rx a x) m) (args.map (rx a)) H
def By{α:Type}(v:AV)(w:Bool)(x u:Option α):Option α:=
 match v with
 |.bool b=>Zv (b == w) x u
 |.tuple _=>u
 |_=>none
def kW{α:Type}(a:Env)(g:Option (Nat×Bool))(u x:Option α):Option α:=
 match g with
 |none=>x
 |some (t,w)=>By (fh a t) w x u
def aft(dec:Dec)(E:br)(f:Rec)(fn:Zj)(H0:List Y4)(os:List RO)(k:List ZA)(a:Env)(d:Option Nat)(r:Option Out):Option Out:=
 match r with
 |some (.ret v,H)=>f fn H0 (.c (.ops os)::k) (kE a d v) H
 |some (.panic v,H)=>kG dec E f fn H0 k a v H
 |none=>none
abbrev EZ:=AV×List Y4×List Nat×List Nat
def QD(x:Option (AV×List Y4))(y:Option (List Nat×List Nat)):Option EZ:=
 match x,y with
 |some (v,H),some (T,L)=>some (v,H,T,L)
 |_,_=>none
def MR(dec:Dec)(c:Cl)(v:AV)(H H':List Y4)(T L:List Nat):Option EZ:=
 match HZ dec c H H' T with
 |some T'=>some (v,H',T',L)
 |none=>none
def sC(dec:Dec)(E:br)(c:Cl)(x:AV)(args:List AV)(H:List Y4)(T L:List Nat)(r:Option Out):Option EZ:=
 match x,r with
 |.fn (.func g) first cap,some (.ret v,H')=>if rH dec E c g (first++args++cap) H v H' then some (v,H',T,L) else MR dec c v H H' T L
 |_,_=>none
def kH(E:br)(c:Cl)(x:AV)(args:List AV)(H:List Y4):Option (AV×List Nat):=
 match x with
 |.fn (.func g) first cap=>HY E c g (first++args++cap) H
 |_=>none
def Bz(w:Option (AV×List Nat))(H:List Y4)(T L:List Nat)(r:Option EZ):Option EZ:=
 match w with
 |some (v,L1)=>some (v,H,T,L1++L)
 |none=>r
def tQ(dec:Dec)(E:br)(f:Rec)(a:Env)(H:List Y4)(s:Bool)(T L:List Nat)(c:Cl)(x:RS):Option EZ:=
 match x with
 |.op op=>QD (Z1 a H op) (qP s c a op T L)
 |.call x args=>Bz (kH E c (rx a x) (args.map (rx a)) H) H T L <| sC dec E c (rx a x) (args.map (rx a)) H T L (qD E f (rx a x) (args.map (rx a)) H)
 |.panic _=>none
 |.inv .. => none
def D0(f:Rec)(fn:Zj)(H0:List Y4)(s:Bool)(l:List (RO×Cl))(k:List ZA)(a:Env)(d:Option Nat)(r:Option EZ):Option Out:=
 match r with
 |some (v,H,T,L)=>f fn H0 (.c (.Z0 s T L l)::k) (kE a d v) H
 |none=>none
def Gf(f:Rec)(fn:Zj)(H0:List Y4)(x y:AC)(k:List ZA)(a:Env)(H:List Y4)(c:AV):Option Out:=
 match c with
 |.bool b=>Zv b (f fn H0 (.c x::k) a H) (f fn H0 (.c y::k) a H)
 |_=>none
def dfR(E:br)(f:Rec)(fn:Zj)(H0:List Y4)(B:AC)(k:List ZA)(a:Env)(H:List Y4)(v:AV):Option Out:=
 match v with
 |.fn (.func g) first cap=>if (E.dfn g).isSome then f fn H0 (.c B :: .dr (.fn (.func g) first cap)::k) a H else none
 |_=>none
def emR(dec:Dec)(fn:Zj)(H0:List Y4)(a:Env)(H:List Y4):Option Out:=
 match fn.Z7 with
 |none=>fin dec fn H0 a H
 |some _=>none
def Gs(f:Rec)(fn:Zj)(H0:List Y4)(a:Env)(H:List Y4)(j:Option Out)(k:Option (List ZA)):Option Out:=
 match k with
 |some k=>f fn H0 k a H
 |none=>j
def Sm(id:Nat)(k:List ZA)(H:List Y4):Option Out:=if HW k=true then some (.ret (.int .i64 id),H) else none
def drR(dec:Dec)(E:br)(f:Rec)(fn:Zj)(H0:List Y4)(k:List ZA)(a:Env)(H:List Y4)(v:AV):Option Out:=
 match v with
 |.ZB=>some (.ret .ZB,H)
 |v=>tP dec E f fn H0 (.dr v::k) a H
def Gg(f:Rec)(fn:Zj)(H0:List Y4)(h:LH)(x:AC)(k:List ZA)(r:Option (Env×List Y4)):Option Out:=
 match r with
 |some (a,H)=>f fn H0 (.c x :: .lp h x H::k) a H
 |none=>none
def inR(f:Rec)(fn:Zj)(H0:List Y4)(h:LH)(x:AC)(k:List ZA)(r:Env×List Y4):Option Out:=f fn H0 (.c x :: .lp h x r.2::k) r.1 r.2
def u4(dec:Dec)(T L:List Nat)(r:Option Out):Option Out:=
 match dec.ap T L with
 |.yes _=>r
 |.no=>none
def pnR(dec:Dec)(fn:Zj)(H0:List Y4)(T L:List Nat)(r:Option Out)(x:Option Out):Option Out:=
 match r with
 |some (.panic p,H)=>Oe dec .stop none fn H0 T L p H
 |some (.ret _,_)=>x
 |none=>none
def pnL(dec:Dec)(E:br)(f:Rec)(fn:Zj)(H0:List Y4)(k:List ZA)(a:Env)(T L:List Nat)(r:Option Out)(x:Option Out):Option Out:=
 match r with
 |some (.panic p,H)=>C0 dec E f .last none fn H0 k a T L p H
 |some (.ret _,_)=>x
 |none=>none
def pnX(dec:Dec)(E:br)(f:Rec)(k:List ZA)(a:Env)(c:Cl)(g:Option (Nat×Bool))(fn:Zj)(H0:List Y4)(T L:List Nat)(r:Option Out)(x:Option Out):Option Out:=
 match c with
 |.stop=>match g with
  |none=>pnR dec fn H0 T L r x
  |some _=>x
 |.last=>match g with
  |none=>pnL dec E f fn H0 k a T L r x
  |some _=>x
 |_=>x
def pnS(dec:Dec)(E:br)(f:Rec)(fn:Zj)(H0:List Y4)(k:List ZA)(a:Env)(H:List Y4)(T L:List Nat)(o:RO)(c:Cl)(x:Option Out):Option Out:=
 match o.s with
 |.call y args=>pnX dec E f k a c o.g fn H0 T L (qD E f (rx a y) (args.map (rx a)) H) x
 |_=>x
def fzS(f:Rec)(fn:Zj)(H0:List Y4)(k:List ZA)(r:Option (Env×List Y4)):Option Out:=
 match r with
 |some (a',H')=>f fn H0 k a' H'
 |none=>none
def jr(dec:Dec)(E:br)(f:Rec)(fn:Zj)(H0:List Y4)(k:List ZA)(a:Env)(H:List Y4):Option Out:=
 match k with
 |[]=>emR dec fn H0 a H
 |.df x B::k=>dfR E f fn H0 B k a H (rx a x)
 |.dr v::k=>drR dec E f fn H0 k a H v
 |.ZU _::k=>f fn H0 k a H
 |.sc _::k=>f fn H0 k a H
 |.lp h x He::k=>Gg f fn H0 h x k (sQ dec h He a H)
 |.c ac::k=>match ac with
  |.skip=>f fn H0 k a H
  |.exit id=>Gs f fn H0 a H (Sm id k H) (unw id k)
  |.lbl _=>f fn H0 k a H
  |.goto l=>Gs f fn H0 a H none (jmp l k)
  |.scope x t=>f fn H0 (.c x :: .sc t::k) a H
  |.tab .. => none
  |.rfn .. => none
  |.ret=>tP dec E f fn H0 k a H
  |.seq x y=>f fn H0 (.c x :: .c y::k) a H
  |.lv l=>f fn H0 k (sP a l) H
  |.fz t l=>fzS f fn H0 k (fzR dec t l a H)
  |.bad=>none
  |.cond c x y=>Gf f fn H0 x y k a H (rx a c)
  |.block id x=>f fn H0 (.c x :: .ZU id::k) a H
  |.loop h x=>inR f fn H0 h x k (sR h a H)
  |.ops []=>f fn H0 k a H
  |.ops (o::os)=>aft dec E f fn H0 os k a o.d (kW a o.g (some (.ret jY,H)) (uy E f a H o.s))
  |.Z0 _ T L []=>u4 dec T L (f fn H0 k a H)
  |.Z0 s T L ((o,c)::l)=>pnS dec E f fn H0 k a H T L o c (D0 f fn H0 s l k a o.d (kW a o.g (some (jY,H,T,L)) (tQ dec E f a H s T L c o.s)))
section
variable{dec:Dec}{E:br}
theorem D3{α:Type}(a:Env)(o:RO)(u x:Option α):kW a o.g u x=match Bt a o with
  |none=>none
  |some false=>u
  |some true=>x:=by
 unfold kW Bt;cases o.g with
 |none=>rfl
 |some g=>
  simp only [By];cases fh a g.1<;>simp only
  rename_i b;cases hb:(b == g.2)<;>simp [Zv]
theorem LF(n:Nat)(fn:Zj)(H0:List Y4)(k:List ZA)(a:Env)(H:List Y4):ev dec E (n+1) fn H0 k a H=jr dec E (ev dec E n) fn H0 k a H:=by
 match k with
 |[]=>
  simp only [ev,jr,emR];cases fn.Z7<;>rfl
 |.df x B::k=>
  simp only [ev,jr,dfR];cases rx a x with
  |fn f first cap=>cases f<;>rfl
  |_=>rfl
 |.dr v::k=>cases v<;>rfl
 |.ZU _::k=>rfl
 |.sc _::k=>rfl
 |.lp h x He::k=>simp only [ev,jr,Gg];cases sQ dec h He a H<;>rfl
 |.c .skip::k=>rfl
 |.c (.exit id)::k=>simp only [ev,jr,Gs,Sm];cases unw id k<;>rfl
 |.c (.lbl _)::k=>rfl
 |.c (.goto l)::k=>simp only [ev,jr,Gs];cases jmp l k<;>rfl
 |.c (.scope x t)::k=>rfl
 |.c (.tab ..)::k=>rfl
 |.c (.rfn ..)::k=>rfl
 |.c .ret::k=>rfl
 |.c (.seq x y)::k=>rfl
 |.c (.lv l)::k=>rfl
 |.c (.fz t l)::k=>simp only [ev,jr,fzS];cases fzR dec t l a H<;>rfl
 |.c .bad::k=>rfl
 |.c (.cond c x y)::k=>
  simp only [ev,jr,Gf];cases rx a c<;>simp only
  rename_i b;cases b<;>rfl
 |.c (.block id x)::k=>rfl
 |.c (.loop h x)::k=>rfl
 |.c (.ops [])::k=>rfl
 |.c (.ops (o::os))::k=>
  simp only [ev,jr];rw [D3];cases hw:Bt a o with
  |none=>rfl
  |some b=>
   cases b with
   |false=>rfl
   |true=>
    simp only [uy];cases o.s with
    |op op=>simp only;cases Z1 a H op<;>rfl
    |call f args=>
     simp only [qD];cases rx a f with
     |fn f first cap=>
      cases f with
      |func g=>
       simp only [yu];cases E.fn g with
       |none=>
        simp only;cases E.orc g (first++args.map (rx a)++cap) H with
        |none=>rfl
        |some r=>obtain ⟨r,H'⟩:=r;cases r<;>rfl
       |some fn'=>
        simp only;cases fn'.Z7 with
        |none=>
         simp only;cases ev dec E n fn' H [.c fn'.c] (env (first++args.map (rx a)++cap)) H with
         |none=>rfl
         |some r=>obtain ⟨r,H'⟩:=r;cases r<;>rfl
        |some q=>
         simp only;cases ev dec E n fn' H [.c fn'.c,.c (.ops q.1),.df q.2.1 q.2.2] (env (first++args.map (rx a)++cap)) H with
         |none=>rfl
         |some r=>obtain ⟨r,H'⟩:=r;cases r<;>rfl
      |_=>rfl
     |_=>rfl
    |panic x=>simp only [QC];cases rx a x<;>rfl
    |inv x m args=>
     simp only [qD];cases Od E (rx a x) m with
     |fn f first cap=>
      cases f with
      |func g=>
       simp only [yu];cases E.fn g with
       |none=>
        simp only;cases E.orc g (first++args.map (rx a)++cap) H with
        |none=>rfl
        |some r=>obtain ⟨r,H'⟩:=r;cases r<;>rfl
       |some fn'=>
        simp only;cases fn'.Z7 with
        |none=>
         simp only;cases ev dec E n fn' H [.c fn'.c] (env (first++args.map (rx a)++cap)) H with
         |none=>rfl
         |some r=>obtain ⟨r,H'⟩:=r;cases r<;>rfl
        |some q=>
         simp only;cases ev dec E n fn' H [.c fn'.c,.c (.ops q.1),.df q.2.1 q.2.2] (env (first++args.map (rx a)++cap)) H with
         |none=>rfl
         |some r=>obtain ⟨r,H'⟩:=r;cases r<;>rfl
      |_=>rfl
     |_=>rfl
 |.c (.Z0 s T L [])::k=>rfl
 |.c (.Z0 s T L ((⟨d,g,x⟩,c)::l))::k=>
  cases g with
  |some g=>
   have hp:∀ y,pnS dec E (ev dec E n) fn H0 k a H T L ⟨d,some g,x⟩ c y=y:=fun y=>by
    cases x<;>first | rfl | (cases c<;>rfl)
   simp only [ev,jr,hp];rw [D3 a ⟨d,some g,x⟩];cases hw:Bt a ⟨d,some g,x⟩ with
   |none=>rfl
   |some b=>
    cases b with
    |false=>rfl
    |true=>
     simp only [tQ];cases x with
     |op op=>simp only [QD];cases Z1 a H op<;>cases qP s c a op T L<;>rfl
     |call f args=>
      simp only [qD,sC,Bz,kH];cases rx a f with
      |fn f first cap=>
       cases f with
       |func g=>
        simp only;cases HY E c g (first++args.map (rx a)++cap) H with
        |some v=>rfl
        |none=>
         simp only;cases yu E (fun fn H0 k a H=>ev dec E n fn H0 k a H) g (first++args.map (rx a)++cap) H with
         |none=>rfl
         |some r=>
          obtain ⟨r,H'⟩:=r;cases r with
          |ret v=>
           simp only [R3,MR];cases rH dec E c g (first++args.map (rx a)++cap) H v H' with
           |true=>rfl
           |false=>cases HZ dec c H H' T<;>rfl
          |panic v=>cases c<;>rfl
       |_=>rfl
      |_=>rfl
     |panic x=>rfl
     |inv x m args=>rfl
  |none=>
   simp only [ev,jr,kW,Bt];cases x with
   |op op=>simp only [tQ,pnS,QD];cases Z1 a H op<;>cases qP s c a op T L<;>rfl
   |call f args=>
    simp only [tQ,pnS,qD,sC,Bz,kH];cases rx a f with
    |fn f first cap=>
     cases f with
     |func g=>
      simp only;cases hwv:HY E c g (first++args.map (rx a)++cap) H with
      |some v=>
       have hc:c = .wide:=by
        unfold HY at hwv;split at hwv
        ·rfl
        ·cases hwv
       subst hc;rfl
      |none=>
       simp only;cases yu E (fun fn H0 k a H=>ev dec E n fn H0 k a H) g (first++args.map (rx a)++cap) H with
       |none=>cases c<;>rfl
       |some r=>
        obtain ⟨r,H'⟩:=r;cases r with
        |ret v=>
         have hp:∀ y,pnX dec E (ev dec E n) k a c none fn H0 T L (some (.ret v,H')) y=y:=fun y=>by cases c<;>rfl
         simp only [R3,MR,hp];cases rH dec E c g (first++args.map (rx a)++cap) H v H' with
         |true=>rfl
         |false=>cases HZ dec c H H' T<;>rfl
        |panic v=>cases c<;>rfl
     |_=>cases c<;>rfl
    |_=>cases c<;>rfl
   |panic x=>rfl
   |inv x m args=>rfl
def RLe(f g:Rec):Prop:=∀ fn H0 k a H r,f fn H0 k a H=some r→g fn H0 k a H=some r
theorem QE{f g:Rec}(h:RLe f g){x:FuncId}{args:List AV}{H:List Y4}{r:Out}(hr:yu E f x args H=some r):yu E g x args H=some r:=by
 unfold yu at hr ⊢;split at hr
 ·rename_i fn' he
  split at hr<;>exact h _ _ _ _ _ _ hr
 ·exact hr
theorem acM{f g:Rec}(h:RLe f g){v p:AV}{H H':List Y4}(hr:qW E f v p H=some H'):qW E g v p H=some H':=by
 unfold qW at hr ⊢;split at hr
 ·split at hr
  ·split at hr
   ·rename_i he;rw [h _ _ _ _ _ _ he];exact hr
   ·cases hr
  ·cases hr
 ·cases hr
theorem Ij{f g:Rec}(h:RLe f g){fn:Zj}{H0:List Y4}{k:List ZA}{a:Env}{H:List Y4}{r:Out}(hr:tP dec E f fn H0 k a H=some r):tP dec E g fn H0 k a H=some r:=by
 unfold tP at hr ⊢;split at hr
 ·exact hr
 ·split at hr
  ·exact hr
  ·split at hr
   ·rename_i he;rw [acM h he];exact hr
   ·cases hr
  ·exact hr
theorem BA{f g:Rec}(h:RLe f g){fn:Zj}{H0:List Y4}{k:List ZA}{a:Env}{p:AV}{H:List Y4}{r:Out}(hr:kG dec E f fn H0 k a p H=some r):kG dec E g fn H0 k a p H=some r:=by
 unfold kG at hr ⊢;split at hr
 ·exact hr
 ·split at hr
  ·split at hr
   ·rename_i he;rw [acM h he];exact hr
   ·cases hr
  ·cases hr
theorem wa{f g:Rec}(h:RLe f g){x:AV}{args:List AV}{H:List Y4}{r:Out}(hr:qD E f x args H=some r):qD E g x args H=some r:=by
 unfold qD at hr ⊢;split at hr
 ·exact QE h hr
 ·cases hr
theorem Ik{f g:Rec}(h:RLe f g){a:Env}{H:List Y4}{s:RS}{r:Out}(hr:uy E f a H s=some r):uy E g a H s=some r:=by
 unfold uy at hr ⊢;cases s with
 |op op=>exact hr
 |call x args=>exact wa h hr
 |panic x=>exact hr
 |inv x m args=>exact wa h hr
theorem C3{f g:Rec}(h:RLe f g){a:Env}{H:List Y4}{b:Bool}{T L:List Nat}{c:Cl}{s:RS}{r:EZ}(hr:tQ dec E f a H b T L c s=some r):tQ dec E g a H b T L c s=some r:=by
 unfold tQ at hr ⊢;cases s with
 |op op=>exact hr
 |call x args=>
  simp only at hr ⊢;unfold Bz at hr ⊢;split at hr
  ·exact hr
  ·cases hv:qD E f (rx a x) (args.map (rx a)) H with
   |none=>rw [hv] at hr;unfold sC at hr;split at hr<;>rename_i he<;>first | (cases he;done) | (cases hr;done)
   |some q=>rw [hv] at hr;rw [wa h hv];exact hr
 |panic x=>exact hr
 |inv x m args=>exact hr
theorem Kh{f g:Rec}(h:RLe f g){c:Cl}{gd:Option (Nat×Bool)}{fn:Zj}{H0:List Y4}{k:List ZA}{a:Env}{T L:List Nat}{p:AV}{H:List Y4}{r:Out}(hr:C0 dec E f c gd fn H0 k a T L p H=some r):C0 dec E g c gd fn H0 k a T L p H=some r:=by
 cases c<;>simp only [C0] at hr ⊢ <;> first | exact hr | skip
 split at hr
 ·split at hr
  ·exact BA h hr
  ·cases hr
 ·cases hr
theorem Sn{f g:Rec}(h:RLe f g){fn:Zj}{H0:List Y4}{k:List ZA}{a:Env}{H:List Y4}{T L:List Nat}{o:RO}{c:Cl}{x y:Option Out}(hx:∀ r,x=some r→y=some r){r:Out}(hr:pnS dec E f fn H0 k a H T L o c x=some r):pnS dec E g fn H0 k a H T L o c y=some r:=by
 obtain ⟨d,gd,z⟩:=o;cases z with
 |call z args=>
  simp only [pnS] at hr ⊢;cases c<;>simp only [pnX] at hr ⊢ <;> first | exact hx r hr | skip
  all_goals
   cases gd with
   |some _=>exact hx r hr
   |none=>
    simp only at hr ⊢;cases hv:qD E f (rx a z) (args.map (rx a)) H with
    |none=>rw [hv] at hr;cases hr
    |some q=>
     rw [hv] at hr;rw [wa h hv];obtain ⟨q,H'⟩:=q;cases q with
     |ret v=>exact hx r hr
     |panic p=>first | exact Kh (c:=.last) (gd:=none) h (show C0 dec E f .last none fn H0 k a T L p H'=some r from hr) | exact hr
 |_=>exact hx r hr
theorem sU{α:Type}{a:Env}{g:Option (Nat×Bool)}{u x y:Option α}{r:α}(h:∀ r,x=some r→y=some r)(hr:kW a g u x=some r):kW a g u y=some r:=by
 unfold kW at hr ⊢;cases g with
 |none=>exact h r hr
 |some g=>
  simp only [By] at hr ⊢;split at hr
  ·rename_i b hb
   cases hc:(b == g.2)<;>rw [hc] at hr<;>simp only [Zv] at hr ⊢
   ·exact hr
   ·exact h r hr
  ·exact hr
  ·cases hr
theorem Il{f g:Rec}(h:RLe f g):RLe (jr dec E f) (jr dec E g):=by
 intro fn H0 k a H r hr
 match k with
 |[]=>exact hr
 |.df x B::k=>
  simp only [jr,dfR] at hr ⊢;split at hr
  ·split at hr
   ·rename_i hs;simp only [hs,if_true];exact h _ _ _ _ _ _ hr
   ·cases hr
  ·cases hr
 |.dr v::k=>
  simp only [jr,drR] at hr ⊢;split at hr
  ·exact hr
  ·exact Ij h hr
 |.ZU _::k=>exact h _ _ _ _ _ _ hr
 |.sc _::k=>exact h _ _ _ _ _ _ hr
 |.c (.lbl _)::k=>exact h _ _ _ _ _ _ hr
 |.c (.goto l)::k=>
  simp only [jr,Gs] at hr ⊢;split at hr
  ·exact h _ _ _ _ _ _ hr
  ·cases hr
 |.c (.scope x t)::k=>exact h _ _ _ _ _ _ hr
 |.c (.tab ..)::k=>cases hr
 |.c (.rfn ..)::k=>cases hr
 |.lp lh x He::k=>
  simp only [jr,Gg] at hr ⊢;split at hr
  ·rename_i he;exact h _ _ _ _ _ _ hr
  ·cases hr
 |.c .skip::k=>exact h _ _ _ _ _ _ hr
 |.c (.exit id)::k=>
  simp only [jr,Gs] at hr ⊢;split at hr
  ·exact h _ _ _ _ _ _ hr
  ·exact hr
 |.c .ret::k=>exact Ij h hr
 |.c (.seq x y)::k=>exact h _ _ _ _ _ _ hr
 |.c (.lv l)::k=>exact h _ _ _ _ _ _ hr
 |.c (.fz t l)::k=>
  simp only [jr,fzS] at hr ⊢;split at hr
  ·exact h _ _ _ _ _ _ hr
  ·cases hr
 |.c .bad::k=>cases hr
 |.c (.cond c x y)::k=>
  simp only [jr,Gf] at hr ⊢;split at hr
  ·rename_i b he
   cases b<;>simp only [Zv] at hr ⊢ <;> exact h _ _ _ _ _ _ hr
  ·cases hr
 |.c (.block id x)::k=>exact h _ _ _ _ _ _ hr
 |.c (.loop lh x)::k=>exact h _ _ _ _ _ _ hr
 |.c (.ops [])::k=>exact h _ _ _ _ _ _ hr
 |.c (.ops (o::os))::k=>
  simp only [jr] at hr ⊢;cases hv:kW a o.g (some (.ret jY,H)) (uy E f a H o.s) with
  |none=>rw [hv] at hr;cases hr
  |some q=>
   rw [hv] at hr;rw [sU (fun r=>Ik h) hv];unfold aft at hr ⊢;obtain ⟨q,H'⟩:=q;cases q with
   |ret v=>exact h _ _ _ _ _ _ hr
   |panic v=>exact BA h hr
 |.c (.Z0 s T L [])::k=>
  simp only [jr,u4] at hr ⊢;split at hr
  ·exact h _ _ _ _ _ _ hr
  ·cases hr
 |.c (.Z0 s T L ((o,c)::l))::k=>
  simp only [jr] at hr ⊢;refine Sn h (fun r hr => ?_) hr;cases hv:kW a o.g (some (jY,H,T,L)) (tQ dec E f a H s T L c o.s) with
  |none=>rw [hv] at hr;cases hr
  |some q=>
   rw [hv] at hr;rw [sU (fun r=>C3 h) hv];exact h _ _ _ _ _ _ hr
theorem So(n:Nat):RLe (ev dec E n) (ev dec E (n+1)):=by
 induction n with
 |zero=>intro fn H0 k a H r hr;cases hr
 |succ n ih=>
  intro fn H0 k a H r hr;rw [LF] at hr ⊢;exact Il ih fn H0 k a H r hr
theorem rJ{n m:Nat}(h:n≤m):RLe (ev dec E n) (ev dec E m):=by
 induction m with
 |zero=>
  have:n=0:=by omega
  subst this;exact fun _ _ _ _ _ _ h=>h
 |succ m ih=>
  by_cases e:n=m+1
  ·subst e;exact fun _ _ _ _ _ _ h=>h
  ·exact fun fn H0 k a H r hr=>So m fn H0 k a H r (ih (by omega) fn H0 k a H r hr)
end
structure cH (dec:Dec) (E:br) where
 go:Rec
 spec:∀ fn H0 k a H r,go fn H0 k a H=some r↔∃ n,ev dec E n fn H0 k a H=some r
theorem MS(dec:Dec)(E:br):Nonempty (cH dec E):=by
 have key:∀ (fn:Zj) (H0:List Y4) (k:List ZA) (a:Env) (H:List Y4),∃ o:Option Out,∀ r,o=some r↔∃ n,ev dec E n fn H0 k a H=some r:=by
  intro fn H0 k a H
  by_cases h:∃ n r,ev dec E n fn H0 k a H=some r
  ·obtain ⟨n,r,h⟩:=h
   refine ⟨some r,fun r'=>⟨fun e=>⟨n,by rw [h,e]⟩,fun ⟨m,hm⟩ => ?_⟩⟩;have h1:=rJ (an6 n m) fn H0 k a H r h;have h2:=rJ (an0 n m) fn H0 k a H r' hm;rw [← h1,← h2]
  ·exact ⟨none,fun r=>⟨fun e=>(by cases e),fun ⟨n,hn⟩=>absurd ⟨n,r,hn⟩ h⟩⟩
 exact ⟨⟨fun fn H0 k a H=>Classical.choose (key fn H0 k a H),fun fn H0 k a H=>anh (key fn H0 k a H)⟩⟩
section
variable{dec:Dec}{E:br}
theorem UQ{α:Type}{x y:Option α}(h:∀ r,x=some r↔y=some r):x=y:=by
 cases x with
 |none=>
  cases y with
  |none=>rfl
  |some y=>exact ((h y).2 rfl)
 |some x=>exact ((h x).1 rfl).symm
theorem cH.le(M:cH dec E)(n:Nat):RLe (ev dec E n) M.go:=fun fn H0 k a H r h=>(M.spec fn H0 k a H r).2 ⟨n,h⟩
theorem cH.acj(M:cH dec E){x:AV}{args:List AV}{H:List Y4}{r:Out}(h:qD E M.go x args H=some r):∃ n,qD E (ev dec E n) x args H=some r:=by
 unfold qD at h ⊢;split at h
 ·unfold yu at h ⊢
  split at h
  ·split at h<;>exact (M.spec _ _ _ _ _ _).1 h
  ·exact ⟨0,h⟩
 ·cases h
theorem cH.ac4(M:cH dec E){v p:AV}{H H':List Y4}(hr:qW E M.go v p H=some H'):∃ n,qW E (ev dec E n) v p H=some H':=by
 unfold qW at hr ⊢;split at hr
 ·split at hr
  ·split at hr
   ·rename_i he
    obtain ⟨n,hn⟩:=(M.spec _ _ _ _ _ _).1 he;exact ⟨n,by rw [hn];exact hr⟩
   ·cases hr
  ·cases hr
 ·cases hr
theorem cH.adz(M:cH dec E){fn:Zj}{H0:List Y4}{k:List ZA}{a:Env}{H:List Y4}{r:Out}(hr:tP dec E M.go fn H0 k a H=some r):∃ n,tP dec E (ev dec E n) fn H0 k a H=some r:=by
 unfold tP at hr ⊢;split at hr
 ·exact ⟨0,hr⟩
 ·split at hr
  ·exact ⟨0,hr⟩
  ·split at hr
   ·rename_i he
    obtain ⟨n,hn⟩:=M.ac4 he;exact ⟨n,by rw [hn];exact hr⟩
   ·cases hr
  ·exact ⟨0,hr⟩
theorem cH.ac3(M:cH dec E){fn:Zj}{H0:List Y4}{k:List ZA}{a:Env}{p:AV}{H:List Y4}{r:Out}(hr:kG dec E M.go fn H0 k a p H=some r):∃ n,kG dec E (ev dec E n) fn H0 k a p H=some r:=by
 unfold kG at hr ⊢;split at hr
 ·exact ⟨0,hr⟩
 ·split at hr
  ·split at hr
   ·rename_i he
    obtain ⟨n,hn⟩:=M.ac4 he;exact ⟨n,by rw [hn];exact hr⟩
   ·cases hr
  ·cases hr
theorem Gh{α:Type}{a:Env}{g:Option (Nat×Bool)}{u x:Option α}{y:Nat→Option α}{r:α}(h:x=some r→∃ n,y n=some r)(hr:kW a g u x=some r):∃ n,kW a g u (y n)=some r:=by
 unfold kW at hr ⊢;cases g with
 |none=>exact h hr
 |some g=>
  simp only [By] at hr ⊢;split at hr
  ·rename_i b hb
   cases hc:(b == g.2)<;>rw [hc] at hr<;>simp only [Zv] at hr ⊢
   ·exact ⟨0,hr⟩
   ·exact h hr
  ·exact ⟨0,hr⟩
  ·cases hr
theorem cH.afh(M:cH dec E){a:Env}{H:List Y4}{s:RS}{q:Out}(hs:uy E M.go a H s=some q):∃ n,uy E (ev dec E n) a H s=some q:=by
 unfold uy at hs ⊢;cases s with
 |op op=>exact ⟨0,hs⟩
 |call x args=>exact M.acj hs
 |panic x=>exact ⟨0,hs⟩
 |inv x m args=>exact M.acj hs
theorem cH.afz(M:cH dec E){a:Env}{H:List Y4}{b:Bool}{T L:List Nat}{c:Cl}{s:RS}{q:EZ}(hs:tQ dec E M.go a H b T L c s=some q):∃ n,tQ dec E (ev dec E n) a H b T L c s=some q:=by
 unfold tQ at hs ⊢;cases s with
 |op op=>exact ⟨0,hs⟩
 |call x args=>
  simp only at hs ⊢;unfold Bz at hs ⊢;split at hs
  ·exact ⟨0,hs⟩
  ·cases hv:qD E M.go (rx a x) (args.map (rx a)) H with
   |none=>rw [hv] at hs;unfold sC at hs;split at hs<;>rename_i he<;>first | (cases he;done) | (cases hs;done)
   |some q=>
    obtain ⟨n,hn⟩:=M.acj hv;exact ⟨n,by simp only [hn];rw [← hv];exact hs⟩
 |panic x=>cases hs
 |inv x m args=>cases hs
theorem cH.agE(M:cH dec E){c:Cl}{gd:Option (Nat×Bool)}{fn:Zj}{H0:List Y4}{k:List ZA}{a:Env}{T L:List Nat}{p:AV}{H:List Y4}{r:Out}(hr:C0 dec E M.go c gd fn H0 k a T L p H=some r):∃ n,C0 dec E (ev dec E n) c gd fn H0 k a T L p H=some r:=by
 cases c<;>simp only [C0] at hr ⊢ <;> first | exact ⟨0,hr⟩ | skip
 split at hr
 ·split at hr
  ·rename_i he
   obtain ⟨n,hn⟩:=M.ac3 hr;exact ⟨n,by simpa [he] using hn⟩
  ·cases hr
 ·cases hr
theorem cH.aic(M:cH dec E){fn:Zj}{H0:List Y4}{k:List ZA}{a:Env}{H:List Y4}{T L:List Nat}{o:RO}{c:Cl}{x:Option Out}{y:Nat→Option Out}(hx:∀ r,x=some r→∃ n,y n=some r)(hm:∀ n m,n≤m→∀ r,y n=some r→y m=some r){r:Out}
  (hr:pnS dec E M.go fn H0 k a H T L o c x=some r):∃ n,pnS dec E (ev dec E n) fn H0 k a H T L o c (y n)=some r:=by
 obtain ⟨d,gd,z⟩:=o;cases z with
 |call z args=>
  simp only [pnS] at hr ⊢;cases c<;>simp only [pnX] at hr ⊢ <;> first | exact hx r hr | skip
  all_goals
   cases gd with
   |some _=>exact hx r hr
   |none=>
    simp only at hr ⊢;cases hv:qD E M.go (rx a z) (args.map (rx a)) H with
    |none=>rw [hv] at hr;cases hr
    |some q=>
     rw [hv] at hr;obtain ⟨n1,h1⟩:=M.acj hv;obtain ⟨q,H'⟩:=q;cases q with
     |ret v=>
      obtain ⟨n2,h2⟩:=hx r hr;refine ⟨max n1 n2, ?_⟩;rw [wa (rJ (an6 n1 n2)) h1];exact hm _ _ (an0 n1 n2) r h2
     |panic p=>first
      |exact ⟨n1,by rw [h1];exact hr⟩
      |obtain ⟨n2,h2⟩:=M.agE (c:=.last) (gd:=none) (show C0 dec E M.go .last none fn H0 k a T L p H'=some r from hr)
       refine ⟨max n1 n2, ?_⟩;rw [wa (rJ (an6 n1 n2)) h1];exact Kh (c:=.last) (gd:=none) (rJ (an0 n1 n2)) h2
 |_=>exact hx r hr
theorem cH.step(M:cH dec E)(fn:Zj)(H0:List Y4)(k:List ZA)(a:Env)(H:List Y4):M.go fn H0 k a H=jr dec E M.go fn H0 k a H:=by
 refine UQ fun r=>⟨fun h => ?_,fun h => ?_⟩
 ·obtain ⟨n,hn⟩:=(M.spec _ _ _ _ _ _).1 h
  cases n with
  |zero=>cases hn
  |succ n=>rw [LF] at hn;exact Il (M.le n) _ _ _ _ _ _ hn
 ·have tail:∀ {fn H0 k a H r},M.go fn H0 k a H=some r→∃ n,ev dec E n fn H0 k a H=some r:=fun h=>(M.spec _ _ _ _ _ _).1 h
  have back:(∃ n,jr dec E (ev dec E n) fn H0 k a H=some r)→M.go fn H0 k a H=some r:=fun ⟨n,hn⟩=>(M.spec _ _ _ _ _ _).2 ⟨n+1,by rw [LF];exact hn⟩
  apply back
  match k with
  |[]=>exact ⟨0,h⟩
  |.df x B::k=>
   simp only [jr,dfR] at h ⊢;split at h
   ·split at h
    ·rename_i hs;simp only [hs,if_true];exact tail h
    ·cases h
   ·cases h
  |.dr v::k=>
   simp only [jr,drR] at h ⊢;split at h
   ·exact ⟨0,h⟩
   ·exact M.adz h
  |.ZU _::k=>exact tail h
  |.sc _::k=>exact tail h
  |.c (.lbl _)::k=>exact tail h
  |.c (.goto l)::k=>
   simp only [jr,Gs] at h ⊢;split at h
   ·exact tail h
   ·cases h
  |.c (.scope x t)::k=>exact tail h
  |.c (.tab ..)::k=>cases h
  |.c (.rfn ..)::k=>cases h
  |.lp lh x He::k=>
   simp only [jr,Gg] at h ⊢;split at h
   ·rename_i he;exact tail h
   ·cases h
  |.c .skip::k=>exact tail h
  |.c (.exit id)::k=>
   simp only [jr,Gs] at h ⊢;split at h
   ·exact tail h
   ·exact ⟨0,h⟩
  |.c .ret::k=>exact M.adz h
  |.c (.seq x y)::k=>exact tail h
  |.c (.lv l)::k=>exact tail h
  |.c (.fz t l)::k=>
   simp only [jr,fzS] at h ⊢;split at h
   ·exact tail h
   ·cases h
  |.c .bad::k=>cases h
  |.c (.cond c x y)::k=>
   simp only [jr,Gf] at h ⊢;split at h
   ·rename_i b he
    cases b<;>simp only [Zv] at h ⊢ <;> exact tail h
   ·cases h
  |.c (.block id x)::k=>exact tail h
  |.c (.loop lh x)::k=>exact tail h
  |.c (.ops [])::k=>exact tail h
  |.c (.ops (o::os))::k=>
   simp only [jr] at h ⊢;cases hv:kW a o.g (some (.ret jY,H)) (uy E M.go a H o.s) with
   |none=>rw [hv] at h;cases h
   |some q=>
    rw [hv] at h;obtain ⟨n1,h1⟩:=Gh (y:=fun n=>uy E (ev dec E n) a H o.s) M.afh hv;have up:∀ m,n1≤m→kW a o.g (some (.ret jY,H)) (uy E (ev dec E m) a H o.s)=some q:=fun m hm=>sU (fun r=>Ik (rJ hm)) h1
    obtain ⟨q,H'⟩:=q;cases q with
    |ret v=>
     obtain ⟨n2,h2⟩:=tail h;refine ⟨max n1 n2, ?_⟩;rw [up _ (an6 _ _)];exact rJ (an0 _ _) _ _ _ _ _ _ h2
    |panic v=>
     obtain ⟨n2,h2⟩:=M.ac3 h;refine ⟨max n1 n2, ?_⟩;rw [up _ (an6 _ _)];exact BA (rJ (an0 _ _)) h2
  |.c (.Z0 s T L [])::k=>
   simp only [jr,u4] at h ⊢;split at h
   ·exact tail h
   ·cases h
  |.c (.Z0 s T L ((o,c)::l))::k=>
   simp only [jr] at h ⊢;refine M.aic (fun r h => ?_) (fun n m hnm r hr => ?_) h
   ·cases hv:kW a o.g (some (jY,H,T,L)) (tQ dec E M.go a H s T L c o.s) with
    |none=>rw [hv] at h;cases h
    |some q=>
     rw [hv] at h;obtain ⟨n1,h1⟩:=Gh (y:=fun n=>tQ dec E (ev dec E n) a H s T L c o.s) M.afz hv;have up:∀ m,n1≤m→kW a o.g (some (jY,H,T,L)) (tQ dec E (ev dec E m) a H s T L c o.s)=some q:=fun m hm=>sU (fun r=>C3 (rJ hm)) h1
     obtain ⟨n2,h2⟩:=tail h;refine ⟨max n1 n2, ?_⟩;rw [up _ (an6 _ _)];exact rJ (an0 _ _) _ _ _ _ _ _ h2
   ·cases hv:kW a o.g (some (jY,H,T,L)) (tQ dec E (ev dec E n) a H s T L c o.s) with
    |none=>rw [hv] at hr;cases hr
    |some q=>
     rw [hv] at hr;rw [sU (fun r=>C3 (rJ hnm)) hv];exact rJ hnm _ _ _ _ _ _ hr
def cH.run(M:cH dec E)(f:FuncId)(args:List AV)(H:List Y4):Option Out:=yu E M.go f args H
theorem cH.sound(M:cH dec E)(hE:E.Ok){f:FuncId}{args:List AV}{H:List Y4}{r:uY}{H':List Y4}(h:M.run f args H=some (r,H')):dL E.P E.G f args H fun r2 H2=>r2=r∧H2=H':=by
 have h1:∃ n,Bu dec E n f args H=some (r,H'):=by
  unfold cH.run yu at h;unfold Bu yu;split at h
  ·split at h<;>exact (M.spec _ _ _ _ _ _).1 h
  ·exact ⟨0,h⟩
 obtain ⟨n,hn⟩:=h1;exact (yw (dec:=dec) hE n).2 f args H r H' hn
end
section
open Classical in
noncomputable def bM:Dec where
 frz H0 H v v':=if h:CH H0 H v v' then .yes h else .no
 deep H0 H v:=if h:∃ v',Fz H0.length H v v'∧CH H0 H v v' then some ⟨Classical.choose h,(anh h).2⟩ else none
 hand H0 H v:=if h:bY H0 H∧Wk H0.length v (AP v) then .yes h else .no
 back He H a l:=if h:bY He H∧∀ t∈l,Wk He.length (fh a t) (fh a t) then .yes h else .no
 ap T L:=if h:apart T L then .yes h else .no
 wide E g args H v H':=if h:H'=H∧DU E g args v then .yes h else .no
 same H H':=if h:H'=H then .yes h else .no
 Zn H H':=if h:H'.take H.length=H then .yes h else .no
 ids L H H':=if h:∀ id∈L,id<H.length→H'[id]?=H[id]? then .yes h else .no
 turn H H':=if h:H.length≤H'.length then some ⟨(List.range H.length).filter fun i=>decide (H'[i]?≠H[i]?),h,fun i hi hn=>by
  by_cases e:H'[i]?=H[i]?
  ·exact e
  ·exact absurd (ao2.2 ⟨anV.2 hi,by simpa using e⟩) hn⟩ else none
 fzp n H v:=if h:∃ v',Fz n H v v'∧PA n H v v' then some ⟨Classical.choose h,(anh h).2⟩ else none
theorem Sp{H0 H:List Y4}{v v':AV}(h:CH H0 H v v'):bM.frz H0 H v v' = .yes h:=dif_pos h
theorem QF{H0 H:List Y4}{v:AV}(h1:bY H0 H)(h2:Wk H0.length v (AP v)):bM.hand H0 H v = .yes ⟨h1,h2⟩:=dif_pos (⟨h1,h2⟩:_∧_)
theorem QG{He H:List Y4}{a:Env}{l:List Nat}(h1:bY He H)(h2:∀ t∈l,Wk He.length (fh a t) (fh a t)):bM.back He H a l = .yes ⟨h1,h2⟩:=dif_pos (⟨h1,h2⟩:_∧_)
theorem D4{T L:List Nat}(h:apart T L):bM.ap T L = .yes h:=dif_pos h
theorem QH{E:br}{g:FuncId}{args:List AV}{H:List Y4}{v:AV}{H':List Y4}(h1:H'=H)(h2:DU E g args v):bM.wide E g args H v H' = .yes ⟨h1,h2⟩:=dif_pos (⟨h1,h2⟩:_∧_)
theorem Ki{H H':List Y4}(h:H'.take H.length=H):bM.Zn H H' = .yes h:=dif_pos h
def D5{α β:Type}(o:Option α)(x y:β):β:=
 match o with
 |none=>x
 |some _=>y
theorem afm{α β:Type}(x y:β):D5 (none:Option α) x y=x:=rfl
theorem afv{α β:Type}(o:α)(x y:β):D5 (some o) x y=y:=rfl
theorem aF{α β:Type}{o o':Option α}{x y:β}(h:o=o'):D5 o x y=D5 o' x y:=by rw [h]
def MT(dec:Dec)(fn:Zj)(H0:List Y4)(a:Env)(r:Option (List Y4)):Option Out:=
 match r with
 |some H=>fin dec fn H0 a H
 |none=>none
def Im(dec:Dec)(E:br)(f:Rec)(fn:Zj)(H0:List Y4)(a:Env)(p:AV)(H:List Y4)(v:Option AV):Option Out:=
 match v with
 |some v=>MT dec fn H0 a (qW E f v p H)
 |none=>none
def MU(dec:Dec)(E:br)(f:Rec)(fn:Zj)(H0:List Y4)(a:Env)(H:List Y4)(v:Option AV):Option Out:=
 match v with
 |some .ZB=>some (.ret (.bool true),H)
 |none=>fin dec fn H0 a H
 |v=>Im dec E f fn H0 a .Zr H v
theorem aff(dec:Dec)(E:br)(f:Rec)(fn:Zj)(H0:List Y4)(a:Env)(H:List Y4):MU dec E f fn H0 a H (some .ZB)=some (.ret (.bool true),H):=rfl
theorem agM(dec:Dec)(E:br)(f:Rec)(fn:Zj)(H0:List Y4)(a:Env)(H:List Y4)(g:Fn)(x y:List AV):MU dec E f fn H0 a H (some (.fn g x y))=Im dec E f fn H0 a .Zr H (some (.fn g x y)):=rfl
theorem UR(dec:Dec)(E:br)(f:Rec)(fn:Zj)(H0:List Y4)(k:List ZA)(a:Env)(H:List Y4):tP dec E f fn H0 k a H=D5 fn.Z7 (fin dec fn H0 a H) (MU dec E f fn H0 a H (si k)):=by
 unfold tP;cases fn.Z7 with
 |none=>rfl
 |some x=>
  simp only [D5,MU];cases si k with
  |none=>rfl
  |some v=>cases v<;>simp only [Im,MT]<;>split<;>simp_all
theorem MV(dec:Dec)(E:br)(f:Rec)(fn:Zj)(H0:List Y4)(k:List ZA)(a:Env)(p:AV)(H:List Y4):kG dec E f fn H0 k a p H=D5 fn.Z7 (DV dec fn H0 p H) (Im dec E f fn H0 a p H (si k)):=by
 unfold kG;cases fn.Z7 with
 |none=>rfl
 |some x=>
  simp only [D5,Im];cases si k with
  |none=>rfl
  |some v=>simp only [MT];cases qW E f v p H<;>rfl
section
variable{dec:Dec}{E:br}(M:cH dec E)(fn:Zj)(H0:List Y4)(k:List ZA)(a:Env)(H:List Y4)
theorem ajj:M.go fn H0 [] a H=D5 fn.Z7 (fin dec fn H0 a H) none:=by rw [M.step,jr,emR];cases fn.Z7<;>rfl
theorem aj9(id:Nat):M.go fn H0 (.ZU id::k) a H=M.go fn H0 k a H:=M.step _ _ _ _ _
theorem ak7(h:LH)(x:AC)(He:List Y4):M.go fn H0 (.lp h x He::k) a H=Gg M.go fn H0 h x k (sQ dec h He a H):=M.step _ _ _ _ _
theorem ahI:M.go fn H0 (.c .skip::k) a H=M.go fn H0 k a H:=M.step _ _ _ _ _
theorem aiD(id:Nat):M.go fn H0 (.c (.exit id)::k) a H=Gs M.go fn H0 a H (Sm id k H) (unw id k):=M.step _ _ _ _ _
theorem alc(t:AC):M.go fn H0 (.sc t::k) a H=M.go fn H0 k a H:=M.step _ _ _ _ _
theorem ajX(l:Nat):M.go fn H0 (.c (.lbl l)::k) a H=M.go fn H0 k a H:=M.step _ _ _ _ _
theorem aii(l:Nat):M.go fn H0 (.c (.goto l)::k) a H=Gs M.go fn H0 a H none (jmp l k):=M.step _ _ _ _ _
theorem agd(x t:AC):M.go fn H0 (.c (.scope x t)::k) a H=M.go fn H0 (.c x :: .sc t::k) a H:=M.step _ _ _ _ _
theorem aja:M.go fn H0 (.dr .ZB::k) a H=some (.ret .ZB,H):=M.step _ _ _ _ _
theorem ajp:M.go fn H0 (.c .ret::k) a H=D5 fn.Z7 (fin dec fn H0 a H) (MU dec E M.go fn H0 a H (si k)):=by rw [M.step];exact UR _ _ _ _ _ _ _ _
theorem ai8(x y:AC):M.go fn H0 (.c (.seq x y)::k) a H=M.go fn H0 (.c x :: .c y::k) a H:=M.step _ _ _ _ _
theorem ala(l:List Nat):M.go fn H0 (.c (.lv l)::k) a H=M.go fn H0 k (sP a l) H:=M.step _ _ _ _ _
theorem akS(t:Nat)(l:List Nat):M.go fn H0 (.c (.fz t l)::k) a H=fzS M.go fn H0 k (fzR dec t l a H):=M.step _ _ _ _ _
theorem ahK(c:RX)(x y:AC):M.go fn H0 (.c (.cond c x y)::k) a H=Gf M.go fn H0 x y k a H (rx a c):=M.step _ _ _ _ _
theorem agh(id:Nat)(x:AC):M.go fn H0 (.c (.block id x)::k) a H=M.go fn H0 (.c x :: .ZU id::k) a H:=M.step _ _ _ _ _
theorem ahi(h:LH)(x:AC):M.go fn H0 (.c (.loop h x)::k) a H=inR M.go fn H0 h x k (sR h a H):=M.step _ _ _ _ _
theorem ahR:M.go fn H0 (.c (.ops [])::k) a H=M.go fn H0 k a H:=M.step _ _ _ _ _
theorem akL(d:Option Nat)(op:ROp)(os:List RO):M.go fn H0 (.c (.ops (⟨d,none,.op op⟩::os))::k) a H=aft dec E M.go fn H0 os k a d (UP (Z1 a H op)):=M.step _ _ _ _ _
theorem akn(d:Option Nat)(t:Nat)(w:Bool)(s:RS)(os:List RO):M.go fn H0 (.c (.ops (⟨d,some (t,w),s⟩::os))::k) a H=aft dec E M.go fn H0 os k a d (By (fh a t) w (uy E M.go a H s) (some (.ret jY,H))):=M.step _ _ _ _ _
theorem ahY(d:Option Nat)(f:RX)(args:List RX)(os:List RO):M.go fn H0 (.c (.ops (⟨d,none,.call f args⟩::os))::k) a H=aft dec E M.go fn H0 os k a d (qD E M.go (rx a f) (args.map (rx a)) H):=M.step _ _ _ _ _
theorem ajW(d:Option Nat)(x:RX)(m:String)(args:List RX)(os:List RO):M.go fn H0 (.c (.ops (⟨d,none,.inv x m args⟩::os))::k) a H=aft dec E M.go fn H0 os k a d (qD E M.go (Od E (rx a x) m) (args.map (rx a)) H):=M.step _ _ _ _ _
theorem af6(d:Option Nat)(x:RX)(os:List RO):M.go fn H0 (.c (.ops (⟨d,none,.panic x⟩::os))::k) a H=aft dec E M.go fn H0 os k a d (QC (rx a x) H):=M.step _ _ _ _ _
theorem agf(s:Bool)(T L:List Nat):M.go fn H0 (.c (.Z0 s T L [])::k) a H=u4 dec T L (M.go fn H0 k a H):=M.step _ _ _ _ _
theorem akp(s:Bool)(T L:List Nat)(d:Option Nat)(op:ROp)(c:Cl)(l:List (RO×Cl)):M.go fn H0 (.c (.Z0 s T L ((⟨d,none,.op op⟩,c)::l))::k) a H=D0 M.go fn H0 s l k a d (QD (Z1 a H op) (qP s c a op T L)):=M.step _ _ _ _ _
theorem ail(s:Bool)(T L:List Nat)(d:Option Nat)(t:Nat)(w:Bool)(x:RS)(c:Cl)(l:List (RO×Cl)):M.go fn H0 (.c (.Z0 s T L ((⟨d,some (t,w),x⟩,c)::l))::k) a H=D0 M.go fn H0 s l k a d (By (fh a t) w (tQ dec E M.go a H s T L c x) (some (jY,H,T,L))):=by
 rw [M.step];cases x<;>first | rfl | (cases c<;>rfl)
theorem agW(s:Bool)(T L:List Nat)(d:Option Nat)(f:RX)(args:List RX)(l:List (RO×Cl)):(M.go fn H0 (.c (.Z0 s T L ((⟨d,none,.call f args⟩,.pure)::l))::k) a H=D0 M.go fn H0 s l k a d (Bz (kH E .pure (rx a f) (args.map (rx a)) H) H T L <| sC dec E .pure (rx a f) (args.map (rx a)) H T L (qD E M.go (rx a f) (args.map (rx a)) H))) ∧
  (M.go fn H0 (.c (.Z0 s T L ((⟨d,none,.call f args⟩,.quiet)::l))::k) a H=D0 M.go fn H0 s l k a d (Bz (kH E .quiet (rx a f) (args.map (rx a)) H) H T L <| sC dec E .quiet (rx a f) (args.map (rx a)) H T L (qD E M.go (rx a f) (args.map (rx a)) H))) ∧
  (M.go fn H0 (.c (.Z0 s T L ((⟨d,none,.call f args⟩,.wide)::l))::k) a H=D0 M.go fn H0 s l k a d (Bz (kH E .wide (rx a f) (args.map (rx a)) H) H T L <| sC dec E .wide (rx a f) (args.map (rx a)) H T L (qD E M.go (rx a f) (args.map (rx a)) H))) ∧
  (M.go fn H0 (.c (.Z0 s T L ((⟨d,none,.call f args⟩,.Zn)::l))::k) a H=D0 M.go fn H0 s l k a d (Bz (kH E .Zn (rx a f) (args.map (rx a)) H) H T L <| sC dec E .Zn (rx a f) (args.map (rx a)) H T L (qD E M.go (rx a f) (args.map (rx a)) H))) ∧
  (M.go fn H0 (.c (.Z0 s T L ((⟨d,none,.call f args⟩,.turn)::l))::k) a H=D0 M.go fn H0 s l k a d (Bz (kH E .turn (rx a f) (args.map (rx a)) H) H T L <| sC dec E .turn (rx a f) (args.map (rx a)) H T L (qD E M.go (rx a f) (args.map (rx a)) H))) ∧
  (M.go fn H0 (.c (.Z0 s T L ((⟨d,none,.call f args⟩,.eff)::l))::k) a H=D0 M.go fn H0 s l k a d (Bz (kH E .eff (rx a f) (args.map (rx a)) H) H T L <| sC dec E .eff (rx a f) (args.map (rx a)) H T L (qD E M.go (rx a f) (args.map (rx a)) H))) ∧
  (M.go fn H0 (.c (.Z0 s T L ((⟨d,none,.call f args⟩,.stop)::l))::k) a H=pnR dec fn H0 T L (qD E M.go (rx a f) (args.map (rx a)) H) (D0 M.go fn H0 s l k a d (Bz (kH E .stop (rx a f) (args.map (rx a)) H) H T L <| sC dec E .stop (rx a f) (args.map (rx a)) H T L (qD E M.go (rx a f) (args.map (rx a)) H)))) ∧
  (M.go fn H0 (.c (.Z0 s T L ((⟨d,none,.call f args⟩,.last)::l))::k) a H=pnL dec E M.go fn H0 k a T L (qD E M.go (rx a f) (args.map (rx a)) H) (D0 M.go fn H0 s l k a d (Bz (kH E .last (rx a f) (args.map (rx a)) H) H T L <| sC dec E .last (rx a f) (args.map (rx a)) H T L (qD E M.go (rx a f) (args.map (rx a)) H)))):=
 ⟨M.step _ _ _ _ _,M.step _ _ _ _ _,M.step _ _ _ _ _,M.step _ _ _ _ _,M.step _ _ _ _ _,M.step _ _ _ _ _,M.step _ _ _ _ _,M.step _ _ _ _ _⟩
theorem agT(op:ROp):uy E M.go a H (.op op)=UP (Z1 a H op):=rfl
theorem aeg(f:RX)(args:List RX):uy E M.go a H (.call f args)=qD E M.go (rx a f) (args.map (rx a)) H:=rfl
theorem afs(x:RX)(m:String)(args:List RX):uy E M.go a H (.inv x m args)=qD E M.go (Od E (rx a x) m) (args.map (rx a)) H:=rfl
theorem ad0(x:RX):uy E M.go a H (.panic x)=QC (rx a x) H:=rfl
theorem af5(s:Bool)(T L:List Nat)(c:Cl)(op:ROp):tQ dec E M.go a H s T L c (.op op)=QD (Z1 a H op) (qP s c a op T L):=rfl
theorem aey(s:Bool)(T L:List Nat)(c:Cl)(f:RX)(args:List RX):tQ dec E M.go a H s T L c (.call f args)=(Bz (kH E c (rx a f) (args.map (rx a)) H) H T L <| sC dec E c (rx a f) (args.map (rx a)) H T L (qD E M.go (rx a f) (args.map (rx a)) H)):=rfl
theorem US(os:List RO)(d:Option Nat)(v:AV):aft dec E M.go fn H0 os k a d (some (.ret v,H))=M.go fn H0 (.c (.ops os)::k) (kE a d v) H:=rfl
theorem Zq(os:List RO)(d:Option Nat)(v:AV):aft dec E M.go fn H0 os k a d (some (.panic v,H))=D5 fn.Z7 (DV dec fn H0 v H) (Im dec E M.go fn H0 a v H (si k)):=MV _ _ _ _ _ _ _ _ _
theorem afM(s:Bool)(l:List (RO×Cl))(d:Option Nat)(v:AV)(T L:List Nat):D0 M.go fn H0 s l k a d (some (v,H,T,L))=M.go fn H0 (.c (.Z0 s T L l)::k) (kE a d v) H:=rfl
theorem aeJ(x y:AC)(b:Bool):Gf M.go fn H0 x y k a H (.bool b)=Zv b (M.go fn H0 (.c x::k) a H) (M.go fn H0 (.c y::k) a H):=rfl
theorem afJ(j:Option Out)(k':List ZA):Gs M.go fn H0 a H j (some k')=M.go fn H0 k' a H:=rfl
theorem QI(j:Option Out):Gs M.go fn H0 a H j none=j:=rfl
theorem akJ(l:Nat)(x:AC)(k:List ZA):jmp l (.c x::k)=jmp l k:=rfl
theorem aj4(l:Nat)(h:LH)(x:AC)(He:List Y4)(k:List ZA):jmp l (.lp h x He::k)=jmp l k:=rfl
theorem ah4(l i:Nat)(k:List ZA):jmp l (.ZU i::k)=jmp l k:=rfl
def WL(t:AC)(k:List ZA)(r:Option AC):Option (List ZA):=
 match r with
 |some r=>some (.c r :: .sc t::k)
 |none=>none
theorem WM(l:Nat)(t:AC)(k:List ZA):jmp l (.sc t::k)=WL t k (xr t l):=by
 simp only [jmp,WL];cases xr t l<;>rfl
theorem afK(t:AC)(k:List ZA)(r:AC):WL t k (some r)=some (.c r :: .sc t::k):=rfl
theorem akj(i:Nat)(t:AC)(k:List ZA):unw i (.sc t::k)=unw i k:=rfl
theorem aew(l:Nat)(r t:AC):xr (.tab l r t) l=some r:=by simp [xr]
theorem aeE(h:LH)(x:AC)(a':Env)(H':List Y4):Gg M.go fn H0 h x k (some (a',H'))=M.go fn H0 (.c x :: .lp h x H'::k) a' H':=rfl
theorem af2(a':Env)(H':List Y4):fzS M.go fn H0 k (some (a',H'))=M.go fn H0 k a' H':=rfl
theorem akm(h:LH)(x:AC)(a':Env)(H':List Y4):inR M.go fn H0 h x k (a',H')=M.go fn H0 (.c x :: .lp h x H'::k) a' H':=rfl
theorem UT(g:FuncId)(first cap args:List AV):qD E M.go (.fn (.func g) first cap) args H=M.run g (first++args++cap) H:=rfl
theorem WN{f:FuncId}{fn:Zj}(hf:E.fn f=some fn)(hd:fn.Z7=none)(args:List AV)(H:List Y4):M.run f args H=M.go fn H [.c fn.c] (env args) H:=by
 unfold cH.run yu;rw [hf];simp only [hd]
theorem Ch{f:FuncId}(hf:E.fn f=none)(args:List AV)(H:List Y4):M.run f args H=E.orc f args H:=by
 unfold cH.run yu;rw [hf]
theorem afd(v:AV)(H:List Y4):UP (some (v,H))=some (.ret v,H):=rfl
theorem agt(v:AV)(H:List Y4):cf H (some v)=some (v,H):=rfl
theorem Zl(H:List Y4):DM (some H)=some (jY,H):=rfl
theorem afa{α:Type}(b w:Bool)(x u:Option α):By (.bool b) w x u=Zv (b == w) x u:=rfl
theorem Om{α:Type}(vs:List AV)(w:Bool)(x u:Option α):By (.tuple vs) w x u=u:=rfl
theorem aeA{α:Type}(w:Bool)(x u:Option α):By jY w x u=u:=rfl
theorem agU{α:Type}(b w:Bool)(v v':AV)(x u:Option α):By (Zv b v v') w x u=Zv b (By v w x u) (By v' w x u):=by cases b<;>rfl
theorem aao(dec:Dec)(fn:Zj)(H0:List Y4)(T L:List Nat)(v:AV)(H:List Y4)(x:Option Out):pnR dec fn H0 T L (some (.ret v,H)) x=x:=rfl
theorem aap(dec:Dec)(fn:Zj)(H0:List Y4)(T L:List Nat)(p:AV)(H:List Y4)(x:Option Out):pnR dec fn H0 T L (some (.panic p,H)) x=Oe dec .stop none fn H0 T L p H:=rfl
theorem aaH(fn:Zj)(H0:List Y4)(L:List Nat)(p:AV)(H:List Y4):Oe bM .stop none fn H0 [] L p H=D5 fn.Z7 (DV bM fn H0 p H) none:=by
 unfold Oe;cases fn.Z7 with
 |none=>simp only [D5,D4 (show apart [] L from fun x _ hx=>by cases hx)]
 |some _=>rfl
theorem rK(dec:Dec)(f:Rec)(fn:Zj)(H0:List Y4)(k:List ZA)(a:Env)(T L:List Nat)(v:AV)(H:List Y4)(x:Option Out):pnL dec E f fn H0 k a T L (some (.ret v,H)) x=x:=rfl
theorem rL(f:Rec)(fn:Zj)(H0:List Y4)(k:List ZA)(a:Env)(L:List Nat)(p:AV)(H:List Y4)(x:Option Out):pnL bM E f fn H0 k a [] L (some (.panic p,H)) x=D5 fn.Z7 (DV bM fn H0 p H) (Im bM E f fn H0 a p H (si k)):=by
 show C0 bM E f .last none fn H0 k a [] L p H=_;unfold C0;simp only [D4 (show apart [] L from fun x _ hx=>by cases hx)];exact MV _ _ _ _ _ _ _ _ _
theorem aS{dec:Dec}{fn:Zj}{H0:List Y4}{T L:List Nat}{r r':Option Out}{x:Option Out}(hr:r=r'):pnR dec fn H0 T L r x=pnR dec fn H0 T L r' x:=by rw [hr]
theorem adC(H:List Y4)(T L:List Nat)(r:Option EZ):Bz none H T L r=r:=rfl
theorem afe(H:List Y4)(T L:List Nat)(v:AV)(L1:List Nat)(r:Option EZ):Bz (some (v,L1)) H T L r=some (v,H,T,L1++L):=rfl
theorem afC(v:AV)(H:List Y4)(T L:List Nat):QD (some (v,H)) (some (T,L))=some (v,H,T,L):=rfl
theorem afY{α:Type}(x y:α):Zv true x y=x:=rfl
theorem afA{α:Type}(x y:α):Zv false x y=y:=rfl
theorem af4{α:Type}(b:Bool)(x:α):Zv b x x=x:=by cases b<;>rfl
theorem agi{α:Type}(b:Bool)(x y:α):Zv b (some x) (some y)=some (Zv b x y):=by cases b<;>rfl
theorem Sq{α β:Type}(b:Bool)(x x':α)(y y':β):Zv b (x,y) (x',y')=(Zv b x x',Zv b y y'):=by cases b<;>rfl
theorem ahq(b:Bool)(v v':AV):Zv b (uY.ret v) (uY.ret v') = .ret (Zv b v v'):=by cases b<;>rfl
theorem agC(b p q:Bool):Zv b (AV.bool p) (AV.bool q) = .bool (Zv b p q):=by cases b<;>rfl
theorem ahn{α:Type}(b:Bool)(x y:α):Zv (!b) x y=Zv b y x:=by cases b<;>rfl
theorem ahZ{α:Type}(b p:Bool)(x y:α):Zv b (Zv p x y) y=Zv (b&&p) x y:=by cases b<;>cases p<;>rfl
theorem akg(b p:Bool):Zv b p false=(b&&p):=by cases b<;>rfl
theorem ajZ(b p:Bool):Zv b true p=(b||p):=by cases b<;>rfl
theorem ajV(b p:Bool):Zv b p true=(!b||p):=by cases b<;>rfl
theorem ajE(b p:Bool):Zv b false p=(!b&&p):=by cases b<;>rfl
theorem wb{α:Type}{b b':Bool}{x x' y y':α}(hb:b=b')(hx:b'=true→x=x')(hy:b'=false→y=y'):Zv b x y=Zv b' x' y':=by
 subst hb;cases b
 ·exact hy rfl
 ·exact hx rfl
theorem aG{α:Type}{v v':AV}{w:Bool}{x u:Option α}(h:v=v'):By v w x u=By v' w x u:=by rw [h]
theorem aX{fn:Zj}{H0:List Y4}{k:List ZA}{a a':Env}{H H':List Y4}(ha:a=a')(hH:H=H'):M.go fn H0 k a H=M.go fn H0 k a' H':=by rw [ha,hH]
theorem aL{f:Rec}{fn:Zj}{H0:List Y4}{os:List RO}{k:List ZA}{a:Env}{d:Option Nat}{r r':Option Out}(hr:r=r'):aft dec E f fn H0 os k a d r=aft dec E f fn H0 os k a d r':=by rw [hr]
theorem aH{f:Rec}{fn:Zj}{H0:List Y4}{s:Bool}{l:List (RO×Cl)}{k:List ZA}{a:Env}{d:Option Nat}{r r':Option EZ}(hr:r=r'):D0 f fn H0 s l k a d r=D0 f fn H0 s l k a d r':=by rw [hr]
theorem az{f:Rec}{fn:Zj}{H0:List Y4}{x y:AC}{k:List ZA}{a:Env}{H:List Y4}{c c':AV}(hc:c=c'):Gf f fn H0 x y k a H c=Gf f fn H0 x y k a H c':=by rw [hc]
theorem aA{f:Rec}{fn:Zj}{H0:List Y4}{h:LH}{x:AC}{k:List ZA}{r r':Option (Env×List Y4)}(hr:r=r'):Gg f fn H0 h x k r=Gg f fn H0 h x k r':=by rw [hr]
theorem aM{f:Rec}{fn:Zj}{H0:List Y4}{h:LH}{x:AC}{k:List ZA}{r r':Env×List Y4}(hr:r=r'):inR f fn H0 h x k r=inR f fn H0 h x k r':=by rw [hr]
theorem afw(n:Nat)(v:AV):kE a (some n) v=qx a n v:=rfl
theorem afB(v:AV):kE a none v=a:=rfl
theorem YY(n:Nat):rx a (.t n)=fh a n:=rfl
theorem rx_c(v:AV):rx a (.c v)=v:=rfl
def rpk(c x y:AV):Option AV:=
 match c with
 |.bool b=>some (Zv b x y)
 |_=>none
theorem ags(b:Bool)(x y:AV):rpk (.bool b) x y=some (Zv b x y):=rfl
theorem akh(c x y:RX):Z1 a H (.pk c x y)=cf H (rpk (rx a c) (rx a x) (rx a y)):=by
 simp only [Z1,rpk];cases rx a c<;>try rfl
 rename_i b;cases b<;>rfl
theorem ajm(x:RX):Z1 a H (.mv x)=some (rx a x,H):=rfl
end
def at2(b:Bool)(x y:AV):AV:=
 match b with
 |true=>x
 |false=>y
theorem agG(x y:AV):at2 true x y=x:=rfl
theorem ae9(x y:AV):at2 false x y=y:=rfl
theorem aN{b b':Bool}{x y:AV}(h:b=b'):at2 b x y=at2 b' x y:=by rw [h]
theorem ZK(a:Env)(n m:Nat)(v:AV):fh (qx a n v) m=at2 (m == n) v (fh a m):=by
 rw [oB]
 by_cases h:m=n
 ·subst h;simp [at2]
 ·have:(m == n)=false:=by simpa using h
  rw [if_neg h,this];rfl
theorem au{dec:Dec}{E:br}(M:cH dec E){f:FuncId}{fn:Zj}{c:AC}(hf:E.fn f=some fn)(hd:fn.Z7=none)(hc:fn.c=c)(args:List AV)(H:List Y4):M.run f args H=M.go fn H [.c c] (env args) H:=by
 rw [WN M hf hd,hc]
def WO(x:Option (AV×List Y4)):Option Out:=
 match x with
 |some (v,H)=>some (.ret v,H)
 |none=>none
def Yb(x:Option (AV×List Y4)):Option Out:=
 match x with
 |some (v,H)=>some (.panic v,H)
 |none=>none
def Sr(dec:Dec)(m:RM)(H0 H:List Y4)(x:Option AV):Option (AV×List Y4):=
 match x with
 |some v=>iZ dec m H0 H v
 |none=>none
theorem ak1(dec:Dec)(fn:Zj)(H0:List Y4)(a:Env)(H:List Y4):fin dec fn H0 a H=WO (Sr dec fn.mode H0 H (HX a H fn.res)):=by
 unfold fin WO Sr;cases HX a H fn.res with
 |none=>rfl
 |some v=>rfl
theorem ajO(dec:Dec)(fn:Zj)(H0:List Y4)(v:AV)(H:List Y4):DV dec fn H0 v H=Yb (iZ dec fn.mode H0 H v):=rfl
theorem afp(v:AV)(H:List Y4):WO (some (v,H))=some (.ret v,H):=rfl
theorem afG(v:AV)(H:List Y4):Yb (some (v,H))=some (.panic v,H):=rfl
theorem On(dec:Dec)(m:RM)(H0 H:List Y4)(v:AV):Sr dec m H0 H (some v)=iZ dec m H0 H v:=rfl
theorem aeh(dec:Dec)(H0 H:List Y4)(v:AV):iZ dec .Zn H0 H v=some (v,H):=rfl
theorem aaa{H0 H:List Y4}{v:AV}(h1:bY H0 H)(h2:Wk H0.length v (AP v)):iZ bM .drop H0 H v=some (AP v,H.take H0.length):=by
 unfold iZ;simp only [QF h1 h2]
theorem agl(a:Env)(H:List Y4)(r:wZ):HX a H [r]=yt a H r:=rfl
theorem aiq(a:Env)(H:List Y4)(n:Nat):yt a H (.t n)=some (fh a n):=rfl
theorem aeL(a:Env)(H:List Y4)(x:Nat)(g:Option Nat):yt a H (.cell x g)=qC g H (fh a x):=rfl
def Ss(x:Option AV)(l:Option (List AV)):Option (List AV):=
 match x,l with
 |some v,some l=>some (v::l)
 |_,_=>none
def Yc(l:Option (List AV)):Option AV:=
 match l with
 |some l=>some (.tuple l)
 |none=>none
theorem aeI(v:AV)(l:List AV):Ss (some v) (some l)=some (v::l):=rfl
theorem afc(l:List AV):Yc (some l)=some (.tuple l):=rfl
theorem afi(a:Env)(H:List Y4):xt a H []=some []:=rfl
theorem aen(a:Env)(H:List Y4)(r:wZ)(l:List wZ):xt a H (r::l)=Ss (yt a H r) (xt a H l):=by
 simp only [xt,Ss];cases yt a H r<;>cases xt a H l<;>rfl
theorem agn(a:Env)(H:List Y4)(r r':wZ)(l:List wZ):HX a H (r::r'::l)=Yc (xt a H (r::r'::l)):=rfl
theorem QJ(a:Env)(H:List Y4):HX a H []=some (.tuple []):=rfl
theorem Zt(H:List Y4):bY H H:=⟨amp _,fun _ _ _ h=>.inl h⟩
theorem Zz(H L:List Y4):bY H (H++L):=⟨by simp,fun i x hi h=>.inl (by rwa [al7 hi] at h)⟩
theorem xv{n:Nat}{v v':AV}(h:∀ (K K':aC) (x:Value),V K v x→V K' v' x):Wk n v v':=fun K x _ hv=>h K _ x hv
theorem aab(n:Nat)(k:IntKind)(i:Int):Wk n (.int k i) (.int k i):=xv fun _ _ _ h=>by cases h;exact .int _ _
theorem acq(n:Nat)(b:Bool):Wk n (.bool b) (.bool b):=xv fun _ _ _ h=>by cases h;exact .bool _
theorem ZH(n:Nat)(s:List UInt8):Wk n (.str s) (.str s):=xv fun _ _ _ h=>by cases h;exact .str _
theorem aks(n:Nat):Wk n .ZW .ZW:=xv fun _ _ _ _=>.ZW _
theorem ahm(n:Nat):Wk n .ZB .ZB:=xv fun _ _ _ h=>by cases h;exact .ZB
theorem agO(n:Nat):Wk n .Zr .Zr:=xv fun _ _ _ h=>by cases h;exact .Zr
theorem afW(n:Nat):Wk n .Zw .Zw:=xv fun _ _ _ h=>by cases h;exact .Zw
theorem QK(n:Nat):Wk n .ZG .ZG:=xv fun _ _ _ h=>by cases h;exact .ZG
section
variable(a:Env)(H:List Y4)
theorem akr(cs:List AV)(e:TypeId):Z1 a H (.nw cs e)=some (.ptr H.length 0,H++[.cells cs e]):=rfl
theorem ajy(z:List AV)(pl:List (Nat×Nat))(ps:List (Nat×RX)):Z1 a H (.bd z pl ps)=cf H ((lC (pl[·]?) z (ps.map fun p=>(p.1,rx a p.2))).map .agg):=rfl
theorem ajl(sz:Nat)(z:List AV)(len:Nat)(ps:List (Nat×RX)):Z1 a H (.bs sz z len ps)=cf H ((lC (fun i=>some (i*sz,sz)) (Bg len z) (ps.map fun p=>(p.1,rx a p.2))).map fun cs=>.slice .full sz (yl sz len (cs.map AV.strip))):=rfl
theorem aji(g:Option Nat)(x:RX):Z1 a H (.ld g x)=cf H (qC g H (rx a x)):=rfl
theorem ajq(sz:Nat)(x v:RX):Z1 a H (.st sz x v)=DM (ES sz H (rx a x) (rx a v)):=rfl
theorem ajd(op:BinOp)(x y:RX):Z1 a H (.ar op x y)=cf H (rar op (rx a x) (rx a y)):=rfl
theorem ajR(op:BinOp)(x y:RX):Z1 a H (.sh op x y)=cf H (rsh op (rx a x) (rx a y)):=rfl
theorem aje(x y:RX):Z1 a H (.an x y)=cf H (ran (rx a x) (rx a y)):=rfl
theorem ai3(neg:Bool)(k:EK)(x y:RX):Z1 a H (.eq neg k x y)=cf H ((req k (rx a x) (rx a y)).map fun b=>.bool (if neg then !b else b)):=rfl
theorem ajM(op:UnOp)(x:RX):Z1 a H (.un op x)=cf H (J2 op (rx a x)):=rfl
theorem air(k:IntKind)(x:RX):Z1 a H (.cvi k x)=cf H (Mv k (rx a x)):=rfl
theorem ahp(x:RX):Z1 a H (.cvs x)=cf H (RP (rx a x)):=rfl
theorem agI(x:RX):Z1 a H (.adh x)=cf H (Mw H (rx a x)):=rfl
theorem afZ(x:RX):Z1 a H (.agv x)=cf H (Ps (rx a x)):=rfl
theorem age(x:RX):Z1 a H (.af0 x)=cf H (Pt (rx a x)):=rfl
theorem ajN(sz:Nat)(z:List AV)(ps:List (Nat×RX)):Z1 a H (.ba sz z ps)=cf H ((lC (fun i=>some (i*sz,sz)) z (ps.map fun p=>(p.1,rx a p.2))).map .agg):=rfl
theorem ajk(e:TypeId)(sz:Nat)(z:List AV)(len:Nat)(ps:List (Nat×RX)):Z1 a H (.bm e sz z len ps)=rbm H e sz len (lC (fun i=>some (i*sz,sz)) (Bg len z) (ps.map fun p=>(p.1,rx a p.2))):=rfl
theorem agN(x:RX):Z1 a H (.aeF x)=cf H (RQ (rx a x)):=rfl
theorem ajT(t:TypeId)(x:RX):Z1 a H (.mi t x)=some (.iface t (rx a x),H):=rfl
theorem ajQ(T:TypeId)(z:Option AV)(ok:Bool)(x:RX):Z1 a H (.ta T z ok x)=cf H (rta T z ok (rx a x)):=rfl
theorem aj6(f:Fn)(xs ys:List RX):Z1 a H (.mf f xs ys)=some (.fn f (xs.map (rx a)) (ys.map (rx a)),H):=rfl
theorem ahU(x:RX)(l h:Option RX):Z1 a H (.sls x l h)=cf H (ET (rx a x) (l.map (rx a)) (h.map (rx a))):=rfl
theorem aib(sz:Nat)(x:RX)(l h m:Option RX):Z1 a H (.sll sz x l h m)=cf H (AN sz (rx a x) (l.map (rx a)) (h.map (rx a)) (m.map (rx a))):=rfl
theorem ahB(n sz:Nat)(x:RX)(l h:Option RX):Z1 a H (.sla n sz x l h)=cf H (Wz n sz (rx a x) (l.map (rx a)) (h.map (rx a))):=rfl
theorem ajF(o:Nat)(x:RX):Z1 a H (.fa o x)=cf H (rfa o (rx a x)):=rfl
theorem WQ(g:Option Nat)(o:Nat)(x:RX):Z1 a H (.fd g o x)=cf H (rfd g o (rx a x)):=rfl
theorem ah6(sz:Nat)(x i:RX):Z1 a H (.ias sz x i)=cf H (qV sz (rx a x) (rx a i)):=rfl
theorem aih(n sz:Nat)(x i:RX):Z1 a H (.iaa n sz x i)=cf H (Wx n sz (rx a x) (rx a i)):=rfl
theorem aho(x i:RX):Z1 a H (.ZX x i)=cf H (Mu (rx a x) (rx a i)):=rfl
theorem ahD(n:Nat)(g:Option Nat)(sz:Nat)(x i:RX):Z1 a H (.ixa n g sz x i)=cf H (Wy n g sz (rx a x) (rx a i)):=rfl
theorem ajG(x:RX)(i:Nat):Z1 a H (.ex x i)=cf H (uw (rx a x) i):=rfl
theorem ajC:Z1 a H (.mm)=some (.map H.length,H++[.map []]):=rfl
theorem aj7(e:TypeId)(bytes:Nat)(cs:List AV)(l c:RX):Z1 a H (.ms e bytes cs l c)=rms H e bytes cs (rx a l) (rx a c):=rfl
theorem ajH(kk:CK)(m k v:RX):Z1 a H (.mu kk m k v)=DM (rmu H kk (rx a m) (rx a k) (rx a v)):=rfl
theorem akq(kk:CK)(z:Option AV)(ok:Bool)(x k:RX):Z1 a H (.lk kk z ok x k)=cf H (rlk H kk z ok (rx a x) (rx a k)):=rfl
theorem ajt(x:RX):Z1 a H (.rg x)=rrg H (rx a x):=rfl
theorem WR(x:RX):Z1 a H (.nx x)=Ms H (rx a x):=rfl
theorem ahO(k:LK)(x:RX):Z1 a H (.len k x)=cf H (CX H k (rx a x)):=rfl
theorem ahW(x:RX):Z1 a H (.cap x)=cf H (RR (rx a x)):=rfl
theorem ajJ(m:Bool)(e:TypeId)(sz bytes:Nat)(str:Bool)(s x:RX):Z1 a H (.ap m e sz bytes str s x)=rap m H e sz bytes str (rx a s) (rx a x):=rfl
theorem ajD(sz:Nat)(str:Bool)(d s:RX):Z1 a H (.cp sz str d s)=rcp H sz str (rx a d) (rx a s):=rfl
theorem ajB(x y:RX):Z1 a H (.mx x y)=cf H (Mm (rx a x) (rx a y)):=rfl
theorem ajL(x y:RX):Z1 a H (.mn x y)=cf H (DA (rx a x) (rx a y)):=rfl
theorem agq(e:TypeId)(sz len:Nat)(cs:List AV):rbm H e sz len (some cs)=some (.Za H.length 0 len sz true,H++[.cells cs e]):=rfl
def rbx(H:List Y4)(e:TypeId)(x:Option (List AV)):Option (AV×List Y4):=
 match x with
 |some cs=>some (.ptr H.length 0,H++[.cells cs e])
 |none=>none
theorem ai7(e:TypeId)(x:RX):Z1 a H (.bx e x)=rbx H e (dM (rx a x)):=by
 simp only [Z1,rbx];cases dM (rx a x)<;>rfl
theorem agy(e:TypeId)(cs:List AV):rbx H e (some cs)=some (.ptr H.length 0,H++[.cells cs e]):=rfl
def rnc(H:List Y4)(x:AV):Option (AV×List Y4):=
 match x with
 |.ptr i o=>some (.ptr i o,H)
 |.Zu e r i o=>some (.Zu e r i o,H)
 |.fn (.func f) x y=>some (.fn (.func f) x y,H)
 |_=>none
theorem ajx(x:RX):Z1 a H (.nc x)=rnc H (rx a x):=rfl
end
theorem ain(op:BinOp)(k:IntKind)(m n:Int):rar op (.int k m) (.int k n)=mj op k m n:=by simp [rar]
theorem UU(op:BinOp)(s t:List UInt8):rar op (.str s) (.str t)=nq op s t:=rfl
end
def WkL(n:Nat):List AV→List AV→Prop
 |[],[]=>True
 |x::xs,y::ys=>Wk n x y∧WkL n xs ys
 |_,_=>False
theorem WkL.len{n:Nat}:∀ {xs ys:List AV},WkL n xs ys→xs.length=ys.length
 |[],[],_=>rfl
 |_::_,_::_,h=>by simp [WkL.len h.2]
 |[],_::_,h=>h.elim
 |_::_,[],h=>h.elim
theorem WkL.get{n:Nat}:∀ {xs ys:List AV},WkL n xs ys→∀ (i:Nat) (y:AV),ys[i]?=some y→∃ x,xs[i]?=some x∧Wk n x y
 |[],[],_,i,y,h=>by simp at h
 |x::xs,z::ys,h,0,y,hy=>by simp at hy;subst hy;exact ⟨x,rfl,h.1⟩
 |x::xs,z::ys,h,i+1,y,hy=>by simpa using WkL.get h.2 i y (by simpa using hy)
 |[],_::_,h,_,_,_=>h.elim
 |_::_,[],h,_,_,_=>h.elim
theorem WkL.vs{n:Nat}{xs ys:List AV}(h:WkL n xs ys){K:aC}(hn:n≤K.loc.length){vs:Array Value}(hv:Vs K xs vs):Vs (K.Zy n) ys vs:=
 ⟨by rw [← h.len];exact hv.size,fun i av hi=>by
  obtain ⟨x,h1,h2⟩:=h.get i av hi;exact h2 K _ hn (hv.at_ i x h1)⟩
theorem aaV{n:Nat}{xs ys:List AV}(h:WkL n xs ys):Wk n (.tuple xs) (.tuple ys):=fun K x hn hv=>by
 obtain ⟨vs,rfl,hvs⟩:=hv.acE;have:=h.vs hn hvs;exact .tuple _ _ this.size this.at_
theorem abv{n:Nat}{xs ys:List AV}(h:WkL n xs ys):Wk n (.agg xs) (.agg ys):=fun K x hn hv=>by
 obtain ⟨vs,rfl,hvs⟩:=hv.aa1;have:=h.vs hn hvs;exact .agg _ _ this.size this.at_
theorem adP{n:Nat}{t:TypeId}{v:AV}(h:Wk n v v):Wk n (.iface t v) (.iface t v):=fun K x hn hv=>by
 cases hv with | iface _ _ y hy=>exact .iface _ _ _ (h K y hn hy)
theorem abg{n:Nat}{f:Fn}{xs ys:List AV}(h1:WkL n xs xs)(h2:WkL n ys ys):Wk n (.fn f xs ys) (.fn f xs ys):=fun K x hn hv=>by
 obtain ⟨vs,us,rfl,h3,h4⟩:=hv.ade;exact Vs.fn (h1.vs hn h3) (h2.vs hn h4)
theorem ZN{n id off:Nat}(h:id<n):Wk n (.ptr id off) (.ptr id off):=fun K x hn hv=>by
 cases hv with | ptr _ _ b hb=>exact .ptr _ _ b (kD hb h)
theorem akf{n id:Nat}(h:id<n):Wk n (.map id) (.map id):=fun K x hn hv=>by
 cases hv with | map _ b hb=>exact .map _ b (kD hb h)
theorem adx{n id off len esz:Nat}{room:Bool}(h:id<n):Wk n (.Za id off len esz room) (.Za id off len esz room):=fun K x hn hv=>by
 cases hv with | Za _ _ _ _ _ b cap hb hc hs=>exact .Za _ _ _ _ _ b cap (kD hb h) hc hs
def mE(n:Nat)(rows:List (List AV)):Prop:=∀ r∈rows,WkL n r r
theorem mE.get{n:Nat}{rows:List (List AV)}(h:mE n rows){K:aC}(hn:n≤K.loc.length){i j:Nat}{r:List AV}{av:AV}(h1:rows[i]?=some r)(h2:r[j]?=some av){v:Value}(hv:V K av v):V (K.Zy n) av v:=by
 obtain ⟨x,h3,h4⟩:=(h r (aml h1)).get j av h2;rw [h2] at h3;cases h3;exact h4 K v hn hv
def Kj(n:Nat):Tag→Prop
 |.own t=>t<n
 |_=>True
theorem abx{n esz:Nat}{tag:Tag}{rows:List (List AV)}(ht:Kj n tag)(h:mE n rows):Wk n (.slice tag esz rows) (.slice tag esz rows):=fun K x hn hv=>by
 cases hv with
 |Zo _ _ a ha=>
  refine .Zo _ _ a ⟨fun t e => ?_,ha.2⟩;subst e;have h1:t<n:=ht;have h2:=ha.1 t rfl;refine ⟨?_,h2.2⟩;show t<(_:List Nat).length;simp only [aC.Zy,an7];omega
 |Zk _ _ a cap hs=>exact .Zk _ _ a cap hs
 |slice _ _ _ b o cap vs hl hi hv hc htag=>
  exact .slice _ _ _ b o cap vs hl hi (fun i j r av h1 h2=>h.get hn h1 h2 (hv i j r av h1 h2)) hc (A8 htag fun t e=>by subst e;exact ht)
theorem acd{n esz:Nat}{tag:Tag}{rows:List (List AV)}(h:mE n rows):Wk n (.slice tag esz rows) (.slice .any esz rows):=fun K x hn hv=>by
 cases hv with
 |Zo _ _ a ha=>exact .Zk .any _ a 0 (.inl rfl)
 |Zk _ _ a cap h=>exact .Zk .any _ a cap (.inl rfl)
 |slice _ _ _ b o cap vs hl hi hv hc htag=>
  exact .slice _ _ _ b o cap vs hl hi (fun i j r av h1 h2=>h.get hn h1 h2 (hv i j r av h1 h2)) hc trivial
theorem ais{n esz i off:Nat}{rows:List (List AV)}(h:mE n rows):Wk n (.Zu esz rows i off) (.Zu esz rows i off):=fun K x hn hv=>by
 cases hv with
 |Zu _ _ _ _ b o vs hl hi hv=>exact .Zu _ _ _ _ b o vs hl hi (fun i j r av h1 h2=>h.get hn h1 h2 (hv i j r av h1 h2))
theorem tX(n:Nat):mE n []:=fun _ h=>by cases h
theorem adV(n:Nat)(r:List AV)(rows:List (List AV)):mE n (r::rows)=(WkL n r r∧mE n rows):=by simp [mE]
theorem adl(n:Nat)(r rows:List (List AV)):mE n (r++rows)=(mE n r∧mE n rows):=by
 simp only [mE,aoc,eq_iff_iff];exact ⟨fun h=>⟨fun x hx=>h x (.inl hx),fun x hx=>h x (.inr hx)⟩,fun h x hx=>hx.elim (h.1 x) (h.2 x)⟩
theorem aaF{α:Type}(n:Nat)(l:List α)(f:α→List AV):mE n (l.map f) = ∀ x∈l,WkL n (f x) (f x):=by simp [mE]
theorem ah0(n:Nat):WkL n [] []:=trivial
theorem agL(n:Nat)(x y:AV)(xs ys:List AV):WkL n (x::xs) (y::ys)=(Wk n x y∧WkL n xs ys):=rfl
theorem afg(b:Bool):AP (.bool b) = .bool b:=rfl
theorem agD(k:IntKind)(n:Int):AP (.int k n) = .int k n:=rfl
theorem agz(s:List UInt8):AP (.str s) = .str s:=rfl
theorem aaW(t:Tag)(n:Nat)(r:List (List AV)):AP (.slice t n r) = .slice .any n r:=rfl
theorem agk(l:List AV):AP (.agg l) = .agg (l.map zC):=rfl
theorem aem(l:List AV):AP (.tuple l) = .tuple (l.map zC):=rfl
theorem aeH(t:TypeId)(v:AV):AP (.iface t v) = .iface t v:=rfl
theorem aee:AP .Zr = .Zr:=rfl
theorem afx:AP .ZB = .ZB:=rfl
theorem St(i o:Nat):AP (.ptr i o) = .ptr i o:=rfl
theorem aht(f:Fn)(x y:List AV):AP (.fn f x y) = .fn f x y:=rfl
theorem aev:AP jY=jY:=rfl
theorem afH(b:Bool):zC (.bool b) = .bool b:=rfl
theorem agr(k:IntKind)(n:Int):zC (.int k n) = .int k n:=rfl
theorem afU(s:List UInt8):zC (.str s) = .str s:=rfl
theorem aer(t:Tag)(n:Nat)(r:List (List AV)):zC (.slice t n r) = .slice .any n r:=rfl
theorem agx(l:List AV):zC (.agg l) = .agg l:=rfl
theorem aes(t:TypeId)(v:AV):zC (.iface t v) = .iface t v:=rfl
theorem aeM:zC .Zr = .Zr:=rfl
theorem QL:zC .ZB = .ZB:=rfl
theorem afX(i o:Nat):zC (.ptr i o) = .ptr i o:=rfl
theorem ahh(f:Fn)(x y:List AV):zC (.fn f x y) = .fn f x y:=rfl
def WkE(n:Nat)(a:Env):List Nat→Prop
 |[]=>True
 |t::l=>Wk n (fh a t) (fh a t)∧WkE n a l
theorem WkE.all{n:Nat}{a:Env}:∀ {l:List Nat},WkE n a l→∀ t∈l,Wk n (fh a t) (fh a t)
 |[],_,t,h=>by cases h
 |x::l,h,t,ht=>by
  rcases ank.1 ht with rfl | ht
  ·exact h.1
  ·exact WkE.all h.2 t ht
theorem aie(n:Nat)(a:Env):WkE n a []:=trivial
theorem agY(n:Nat)(a:Env)(t:Nat)(l:List Nat):WkE n a (t::l)=(Wk n (fh a t) (fh a t)∧WkE n a l):=rfl
theorem afI(a:Env):sP a [] = .leaf:=rfl
theorem aeK(a:Env)(t:Nat)(l:List Nat):sP a (t::l)=qx (sP a l) t (fh a t):=rfl
theorem aid(dec:Dec)(l:List Nat)(t:List (Nat×Nat×TypeId))(He:List Y4)(a:Env)(H:List Y4):sQ dec ⟨some l,t,false⟩ He a H=some (sP a l,H):=rfl
theorem Su(l:List Nat)(t:List (Nat×Nat×TypeId)){He:List Y4}{a:Env}{H:List Y4}(h1:bY He H)(h2:WkE He.length a l):sQ bM ⟨some l,t,true⟩ He a H=some (sP a l,H.take He.length):=by
 unfold sQ;simp only [if_true,QG h1 h2.all]
theorem akN(l:List Nat)(c:Bool)(a:Env)(H:List Y4):sR ⟨some l,[],c⟩ a H=(sP a l,H):=rfl
def Wn(l:List Nat)(r:Env×List Y4):Env×List Y4:=(sP r.1 l,r.2)
theorem ai9(l:List Nat)(t:Nat×Nat×TypeId)(ts:List (Nat×Nat×TypeId))(c:Bool)(a:Env)(H:List Y4):sR ⟨some l,t::ts,c⟩ a H=Wn l (yr (t::ts) a H):=rfl
theorem agX(l:List Nat)(a:Env)(H:List Y4):Wn l (a,H)=(sP a l,H):=rfl
def Sv(l:List (Nat×Nat×TypeId))(a:Env)(H:List Y4)(t sz:Nat)(e:TypeId)(v:AV):Env×List Y4:=
 match v with
 |.slice .nil _ []=>yr l (qx a t (.slice (.own H.length) sz [])) (H++[.tok 0 e])
 |.slice .full n rows=>if Ho rows=false then yr l (qx a t (.slice (.own H.length) n rows)) (H++[.tok (rows.length*n) e]) else yr l a H
 |_=>yr l a H
theorem af9(a:Env)(H:List Y4):yr [] a H=(a,H):=rfl
theorem afN(t sz:Nat)(e:TypeId)(l:List (Nat×Nat×TypeId))(a:Env)(H:List Y4):yr ((t,sz,e)::l) a H=Sv l a H t sz e (fh a t):=rfl
theorem afV(l:List (Nat×Nat×TypeId))(a:Env)(H:List Y4)(t sz:Nat)(e:TypeId)(n:Nat):Sv l a H t sz e (.slice .nil n [])=yr l (qx a t (.slice (.own H.length) sz [])) (H++[.tok 0 e]):=rfl
theorem afk(l:List (Nat×Nat×TypeId))(a:Env)(H:List Y4)(t sz:Nat)(e:TypeId)(n:Nat)(rows:List (List AV)):Sv l a H t sz e (.slice .full n rows)=if Ho rows=false then yr l (qx a t (.slice (.own H.length) n rows)) (H++[.tok (rows.length*n) e]) else yr l a H:=rfl
theorem agH(l:List (Nat×Nat×TypeId))(a:Env)(H:List Y4)(t sz:Nat)(e:TypeId)(n t':Nat)(rows:List (List AV)):Sv l a H t sz e (.slice (.own t') n rows)=yr l a H:=rfl
theorem agb(l:List (Nat×Nat×TypeId))(a:Env)(H:List Y4)(t sz:Nat)(e:TypeId)(n:Nat)(rows:List (List AV)):Sv l a H t sz e (.slice .any n rows)=yr l a H:=rfl
def kv:List (Nat×AV)→Env
 |[]=>.leaf
 |(t,v)::l=>qx (kv l) t v
theorem Y8:kv [] = .leaf:=rfl
theorem Y6(t:Nat)(v:AV)(l:List (Nat×AV)):kv ((t,v)::l)=qx (kv l) t v:=rfl
theorem ah{dec:Dec}{E:br}(M:cH dec E){fn:Zj}{H0:List Y4}{x y:AC}(h:x=y){k:List ZA}{a:Env}{H:List Y4}:M.go fn H0 (.c x::k) a H=M.go fn H0 (.c y::k) a H:=by rw [h]
def UV(b:Bool)(id:Nat)(k:List ZA):Option (List ZA):=
 match b with
 |true=>some k
 |false=>unw id k
theorem ak0(id:Nat)(x:AC)(k:List ZA):unw id (.c x::k)=unw id k:=rfl
theorem akk(id:Nat)(h:LH)(x:AC)(He:List Y4)(k:List ZA):unw id (.lp h x He::k)=unw id k:=rfl
theorem aiC(id j:Nat)(k:List ZA):unw id (.ZU j::k)=UV (j == id) id k:=by
 simp only [unw,UV]
 by_cases h:j=id
 ·subst h;simp
 ·rw [if_neg h,show (j == id)=false by simpa using h]
theorem afu(id:Nat)(k:List ZA):UV true id k=some k:=rfl
theorem Oo(id:Nat)(k:List ZA):UV false id k=unw id k:=rfl
theorem ah8(f:RX→AV):List.map f []=[]:=rfl
theorem ahP(f:RX→AV)(x:RX)(l:List RX):List.map f (x::l)=f x::List.map f l:=rfl
theorem ah2:List.map zC []=[]:=rfl
theorem aiB(x:AV)(l:List AV):List.map zC (x::l)=zC x::List.map zC l:=rfl
theorem ahH:List.map AV.strip []=[]:=rfl
theorem ahJ(x:AV)(l:List AV):List.map AV.strip (x::l)=AV.strip x::List.map AV.strip l:=rfl
theorem ahN(l:List AV):[]++l=l:=rfl
theorem ahC(x:AV)(l l':List AV):(x::l)++l'=x::(l++l'):=rfl
theorem ahS(l:List AV):l++[]=l:=amt l
theorem ahs(l l' l2:List AV):(l++l')++l2=l++(l'++l2):=amr l l' l2
theorem PH(x:Y4)(l l':List Y4):(x::l)++l'=x::(l++l'):=rfl
theorem aeZ(l:List Y4):[]++l=l:=rfl
theorem ahl(l:List Y4):l++[]=l:=amt l
theorem ae5(l l' l2:List Y4):(l++l')++l2=l++(l'++l2):=amr l l' l2
theorem af3(l l':List Y4):(l++l').length=l.length+l'.length:=al8
theorem ae6:([]:List Y4).length=0:=rfl
theorem aeW(x:Y4)(l:List Y4):(x::l).length=l.length+1:=rfl
theorem aiE(x:Y4)(l:List Y4):(x::l)[0]?=some x:=rfl
theorem ah5(x:Y4)(l:List Y4)(n:Nat):(x::l)[n+1]?=l[n]? := rfl
theorem aiz(x y:Y4)(l:List Y4):(x::l).set 0 y=y::l:=rfl
theorem aip(x y:Y4)(l:List Y4)(n:Nat):(x::l).set (n+1) y=x::l.set n y:=rfl
theorem UW(x:AV)(l:List AV):(x::l)[0]?=some x:=rfl
theorem ahw(x:AV)(l:List AV)(n:Nat):(x::l)[n+1]?=l[n]? := rfl
theorem aiu(x y:AV)(l:List AV):(x::l).set 0 y=y::l:=rfl
theorem aiG(x y:AV)(l:List AV)(n:Nat):(x::l).set (n+1) y=x::l.set n y:=rfl
theorem aiw:([]:List AV).length=0:=rfl
theorem ahx(x:AV)(l:List AV):(x::l).length=l.length+1:=rfl
theorem akM(i j:Nat):((i:Int)<(j:Int))=(i<j):=by rw [Int.ofNat_lt]
theorem ak8(i j:Nat):((i:Int)≤(j:Int))=(i≤j):=by rw [Int.ofNat_le]
theorem akT(i j:Nat):((i:Int) == (j:Int))=(i == j):=by
 rw [anw];simp [Int.ofNat_inj]
theorem ahk(cs:List AV)(o:Nat):bq cs o []=cs:=by cases cs<;>rfl
theorem ae0(cs:List AV)(o:Nat)(v:AV)(r:List AV):bq cs o (v::r)=bq (cs.set o v) (o+1) r:=rfl
theorem cY(H L:List Y4):(H++L)[H.length]?=L[0]? := by rw [amm (amp _)];simp
theorem ZV(H L:List Y4)(k:Nat):(H++L)[H.length+k]?=L[k]? := by rw [amm (by omega)];congr 1;omega
theorem bR{H L:List Y4}{i:Nat}{x:Y4}(h:H[i]?=some x):(H++L)[i]?=some x:=by
 rw [al7 (al3.1 h).1];exact h
theorem abQ(H L:List Y4)(x:Y4):(H++L).set H.length x=H++L.set 0 x:=by rw [anE _ _ (amp _)];simp
theorem ahX(H L:List Y4)(k:Nat)(x:Y4):(H++L).set (H.length+k) x=H++L.set k x:=by
 rw [anE _ _ (by omega)];congr 2;omega
theorem aaP(H L:List Y4):(H++L).take H.length=H:=aoe rfl
theorem aav(H:List Y4):H.take H.length=H:=anQ
theorem eY{n:Int}(h1 : -9223372036854775808≤n)(h2:n≤9223372036854775807):IntKind.i64.wrap n=n:=IntWalk.i64_in n ⟨h1,h2⟩
theorem yx{i:Nat}(h1:i<4611686018427387904):IntKind.i64.wrap (((i+1:Nat):Int)-1)=(i:Int):=by
 rw [eY (by omega) (by omega)];omega
def vH(x:Option UInt8):Option AV:=
 match x with
 |some c=>some (.int .u8 c.toNat)
 |none=>none
theorem aeo(c:UInt8):vH (some c)=some (.int .u8 c.toNat):=rfl
theorem adF(s:List UInt8)(k:IntKind)(i:Nat):Mu (.str s) (.int k (i:Int))=vH s[i]? := by
 simp [Mu,vH];cases s[i]? <;> rfl
theorem aim(s:List UInt8)(k:IntKind):Mu (.str s) (.int k 0)=vH s[0]? := adF s k 0
theorem ah1(s:List UInt8)(k:IntKind):Mu (.str s) (.int k 1)=vH s[1]? := adF s k 1
theorem aiF(s:List UInt8)(k:IntKind):Mu (.str s) (.int k 2)=vH s[2]? := adF s k 2
theorem ac9{tag:Tag}{sz esz:Nat}{rows:List (List AV)}{k:IntKind}{i:Nat}(h:i<rows.length):qV sz (.slice tag sz rows) (.int k (i:Int))=some (.Zu sz rows i 0):=by
 simp [qV,h]
theorem Sw(H:List Y4)(s:List UInt8):CX H .str (.str s)=some (.int .i64 s.length):=rfl
theorem ahA(H:List Y4)(t:Tag)(n:Nat)(r:List (List AV)):CX H .sl (.slice t n r)=some (.int .i64 r.length):=rfl
theorem ah7(H:List Y4)(i o l n:Nat)(b:Bool):CX H .sl (.Za i o l n b)=some (.int .i64 l):=rfl
theorem aiH(b:Bool):J2 .not (.bool b)=some (.bool (!b)):=rfl
theorem ajh(k:IntKind)(m n:Int):mj .add k m n=some (.int k (k.wrap (m+n))):=rfl
theorem aj2(k:IntKind)(m n:Int):mj .sub k m n=some (.int k (k.wrap (m-n))):=rfl
theorem ako(k:IntKind)(m n:Int):mj .mul k m n=some (.int k (k.wrap (m*n))):=rfl
theorem ajg(k:IntKind)(m n:Int):mj .eql k m n=some (.bool (m == n)):=rfl
theorem ajo(k:IntKind)(m n:Int):mj .neq k m n=some (.bool (!(m == n))):=rfl
theorem ajI(k:IntKind)(m n:Int):mj .lss k m n=some (.bool (decide (m<n))):=rfl
theorem ajS(k:IntKind)(m n:Int):mj .leq k m n=some (.bool (decide (m≤n))):=rfl
theorem WS(k:IntKind)(m n:Int):mj .gtr k m n=some (.bool (decide (n<m))):=rfl
theorem ake(k:IntKind)(m n:Int):mj .geq k m n=some (.bool (decide (n≤m))):=rfl
theorem ajb(s t:List UInt8):nq .eql s t=some (.bool (s == t)):=rfl
theorem aki(s t:List UInt8):nq .neq s t=some (.bool (!(s == t))):=rfl
theorem ajY(s t:List UInt8):nq .lss s t=some (.bool (Op.bytesLess s t)):=rfl
theorem akt(s t:List UInt8):nq .leq s t=some (.bool (Op.bytesLess s t||s == t)):=rfl
theorem ajP(s t:List UInt8):nq .gtr s t=some (.bool (!(Op.bytesLess s t||s == t))):=rfl
theorem ajw(s t:List UInt8):nq .geq s t=some (.bool (!Op.bytesLess s t)):=rfl
theorem E3{s t:List UInt8}(h:s.length+t.length<9223372036854775808):nq .add s t=some (.str (s++t)):=by simp [nq,h]
def Yd(g:Option Nat)(off:Nat)(r:Option (List AV)):Option AV:=
 match r with
 |some r=>bO g r off
 |none=>none
def akY(g:Option Nat)(off:Nat)(x:Option Y4):Option AV:=
 match x with
 |some (.cells cs _)=>bO g cs off
 |_=>none
theorem ajc(g:Option Nat)(H:List Y4)(i o:Nat):qC g H (.ptr i o)=akY g o H[i]? := rfl
theorem ahu(g:Option Nat)(H:List Y4)(n:Nat)(rows:List (List AV))(i o:Nat):qC g H (.Zu n rows i o)=Yd g o rows[i]? := rfl
theorem afn(g:Option Nat)(o:Nat)(r:List AV):Yd g o (some r)=bO g r o:=rfl
theorem Oq(g:Option Nat)(o:Nat)(cs:List AV)(T:TypeId):akY g o (some (.cells cs T))=bO g cs o:=rfl
def PI(x:AV)(l:Option (List AV)):Option (List AV):=
 match l with
 |some l=>some (x::l)
 |none=>none
def rp:Nat→List AV→Option (List AV)
 |0,_=>some []
 |_+1,[]=>none
 |n+1,x::l=>PI x (rp n l)
def WT(l:Option (List AV)):Option AV:=
 match l with
 |some l=>some (.agg l)
 |none=>none
theorem MW:∀ (n:Nat) (l:List AV),rp n l=if n≤l.length then some (l.take n) else none
 |0,l=>by simp [rp]
 |n+1,[]=>by simp [rp]
 |n+1,x::l=>by
  rw [rp,MW n l]
  by_cases h:n≤l.length<;>simp [PI,h]
theorem ahT(n:Nat)(cs:List AV):bO (some n) cs 0=WT (rp n cs):=by
 rw [MW];simp only [bO,amJ,amf]
 by_cases h:n≤cs.length<;>simp [WT,h]
theorem ahM(n:Nat)(x:AV)(cs:List AV)(o:Nat):bO (some n) (x::cs) (o+1)=bO (some n) cs o:=by
 simp only [bO,amk,aoD]
 by_cases h:o+n≤cs.length
 ·rw [if_pos h,if_pos (by omega)]
 ·rw [if_neg h,if_neg (by omega)]
theorem ahG(x:AV)(cs:List AV):bO none (x::cs) 0=some x:=rfl
theorem ahL(x:AV)(cs:List AV)(o:Nat):bO none (x::cs) (o+1)=bO none cs o:=rfl
theorem aiy(l:List AV):rp 0 l=some []:=by cases l<;>rfl
theorem aif(n:Nat)(x:AV)(l:List AV):rp (n+1) (x::l)=PI x (rp n l):=rfl
theorem aec(x:AV)(l:List AV):PI x (some l)=some (x::l):=rfl
theorem afb(l:List AV):WT (some l)=some (.agg l):=rfl
theorem ai5(o i off:Nat):rfa o (.ptr i off)=some (.ptr i (off+o)):=rfl
theorem aij(o n:Nat)(rows:List (List AV))(i off:Nat):rfa o (.Zu n rows i off)=some (.Zu n rows i (off+o)):=rfl
theorem WU(g:Option Nat)(o:Nat)(cs:List AV):rfd g o (.agg cs)=bO g cs o:=rfl
theorem ex_0(x:AV)(l:List AV):uw (.tuple (x::l)) 0=some x:=rfl
theorem ex_1(x y:AV)(l:List AV):uw (.tuple (x::y::l)) 1=some y:=rfl
theorem ex_2(x y z:AV)(l:List AV):uw (.tuple (x::y::z::l)) 2=some z:=rfl
theorem akl(k:IntKind)(n:Int):dM (.int k n)=some [.int k n]:=rfl
theorem ahf(b:Bool):dM (.bool b)=some [.bool b]:=rfl
theorem ajz(s:List UInt8):dM (.str s)=some [.str s]:=rfl
theorem aka(l:List AV):dM (.agg l)=some l:=rfl
theorem agK(t:Tag)(n:Nat)(r:List (List AV)):dM (.slice t n r)=some [.slice t n r]:=rfl
theorem afj(i o l n:Nat)(b:Bool):dM (.Za i o l n b)=some [.Za i o l n b]:=rfl
theorem ak4(f:Fn)(x y:List AV):dM (.fn f x y)=some [.fn f x y]:=rfl
theorem aj5(i o:Nat):dM (.ptr i o)=some [.ptr i o]:=rfl
theorem ahj:dM .ZB=some [.ZB]:=rfl
theorem agc:dM .Zw=some [.Zw]:=rfl
theorem agB:dM .Zr=some [.Zr]:=rfl
theorem agJ(t:TypeId)(v:AV):dM (.iface t v)=some [.iface t v]:=rfl
def stO(sz:Nat)(H:List Y4)(id off:Nat)(cs:List AV)(x:Option Y4):Option (List Y4):=
 match x with
 |some (.cells old T)=>if cs.length=sz∧off+sz≤old.length∧cs.all AV.cell=true then some (H.set id (.cells (bq old off cs) T)) else none
 |_=>none
def stA(sz:Nat)(H:List Y4)(id off:Nat)(cs:Option (List AV)):Option (List Y4):=
 match cs with
 |some cs=>stO sz H id off cs H[id]?
 |none=>none
theorem akd(sz:Nat)(H:List Y4)(id off:Nat)(v:AV):ES sz H (.ptr id off) v=stA sz H id off (dM v):=by
 unfold ES stA;cases dM v<;>rfl
theorem agF(sz:Nat)(H:List Y4)(id off:Nat)(cs:List AV):stA sz H id off (some cs)=stO sz H id off cs H[id]? := rfl
theorem acA{sz:Nat}{H:List Y4}{id off:Nat}{cs old:List AV}{T:TypeId}(h1:cs.length=sz)(h2:off+sz≤old.length)(h3:cs.all AV.cell=true):stO sz H id off cs (some (.cells old T))=some (H.set id (.cells (bq old off cs) T)):=by
 simp only [stO];rw [if_pos ⟨h1,h2,h3⟩]
section
set_option linter.defProp false
def am1{dec:Dec}{E:br}(M:cH dec E):=al5 (@akS dec E M) (al5 (@af2 dec E M) (al5 (@ajj dec E M) (al5 (@aj9 dec E M) (al5 (@ak7 dec E M) (al5 (@ahI dec E M) (al5 (@aiD dec E M) (al5 (@ajp dec E M) (al5 (@ai8 dec E M) (al5 (@ala dec E M) (al5 (@ahK dec E M) (al5 (@agh dec E M) (al5 (@ahi dec E M) (al5 (@ahR dec E M) (al5 (@akL dec E M) (al5 (@akn dec E M) (al5 (@ahY dec E M) (al5 (@af6 dec E M) (al5 (@agf dec E M) (al5 (@akp dec E M) (al5 (@ail dec E M) (al5 (@agW dec E M) (al5 (@agT dec E M) (al5 (@aeg dec E M) (al5 (@ad0 dec E M) (al5 (@af5 dec E M) (al5 (@aey dec E M) (al5 (@US dec E M) (al5 (@Zq dec E M) (al5 (@afM dec E M) (al5 (@aeJ dec E M) (al5 (@afJ dec E M) (al5 (@aeE dec E M) (al5 (@akm dec E M) (al5 (@UT dec E M) (al5 (@alc dec E M) (al5 (@ajX dec E M) (al5 (@aii dec E M) (al5 (@agd dec E M) (al5 (@aja dec E M) (al5 (@ajW dec E M) (al5 (@afs dec E M) ((@QI dec E M)))))))))))))))))))))))))))))))))))))))))))
def am2:=al5 @aao (al5 @aap (al5 @aaH (al5 @afm (al5 @afv (al5 @afd (al5 @agt (al5 @Zl (al5 @afa (al5 @Om (al5 @aeA (al5 @agU (al5 @adC (al5 @afe (al5 @afC (al5 @afY (al5 @afA (al5 @af4 (al5 @agi (al5 @Sq (al5 @ahq (al5 @agC (al5 @ahn (al5 @ahZ (al5 @akg (al5 @ajZ (al5 @ajV (al5 @ajE (al5 @afw (al5 @afB (al5 @YY (al5 @rx_c (al5 @ags (al5 @akh (al5 @ajm (al5 @agG (al5 @ae9 (al5 @ak1 (al5 @ajO (al5 @afp (al5 @afG (al5 @On (al5 @aeh (al5 @agl (al5 @aiq (al5 @aeL (al5 @aeI (al5 @afc (al5 @afi (al5 @aen (al5 @agn (al5 @QJ (al5 @akr (al5 @ajy (al5 @ajl (al5 @aji (al5 @ajq (al5 @ajd (al5 @ajR (al5 @aje (al5 @ai3 (al5 @ajM (al5 @air (al5 @ahp (al5 @agI (al5 @agN (al5 @ajT (al5 @ajQ (al5 @aj6 (al5 @ahU (al5 @aib (al5 @ahB (al5 @ajF (al5 @WQ (al5 @ah6 (al5 @aih (al5 @aho (al5 @ahD (al5 @ajG (al5 @ajC (al5 @aj7 (al5 @ajH (al5 @akq (al5 @ajt (al5 @WR (al5 @ahO (al5 @ahW (al5 @ajJ (al5 @ajD (al5 @ajB (al5 @ajL (al5 @ai7 (al5 @agy (al5 @ajx (al5 @ain (al5 @UU (al5 @afZ (al5 @age (al5 @ajk (al5 @agq (al5 @ajN (al5 @aff (al5 @agM (al5 @akJ (al5 @aj4 (al5 @ah4 (al5 @WM (al5 @afK (al5 @akj @aew))))))))))))))))))))))))))))))))))))))))))))))))))))))))))))))))))))))))))))))))))))))))))))))))))))))))))))
def am3:=al5 @afg (al5 @agD (al5 @agz (al5 @aaW (al5 @agk (al5 @aem (al5 @aeH (al5 @aee (al5 @afx (al5 @St (al5 @aht (al5 @aev (al5 @afH (al5 @agr (al5 @afU (al5 @aer (al5 @agx (al5 @aes (al5 @aeM (al5 @QL (al5 @afX (al5 @ahh (al5 @afI (al5 @aeK (al5 @aid (al5 @akN (al5 @ai9 (al5 @agX (al5 @af9 (al5 @afN (al5 @afV (al5 @afk (al5 @agH (al5 @agb (al5 @Y8 (al5 @Y6 (al5 @ak0 (al5 @akk (al5 @aiC (al5 @afu (al5 @Oo (al5 @ah8 (al5 @ahP (al5 @ah2 (al5 @aiB (al5 @ahH (al5 @ahJ (al5 @ahN (al5 @ahC (al5 @ahS (al5 @ahs (al5 @PH (al5 @aeZ (al5 @ahl (al5 @ae5 (al5 @af3 (al5 @ae6 (al5 @aeW (al5 @aiE (al5 @ah5 (al5 @aiz (al5 @aip (al5 @UW (al5 @ahw (al5 @aiu (al5 @aiG (al5 @aiw (al5 @ahx (al5 @akM (al5 @ak8 (al5 @akT (al5 @ahk (al5 @ae0 (al5 @cY (al5 @ZV (al5 @abQ (al5 @ahX (al5 @aaP (al5 @aav (al5 @aeo (al5 @adF (al5 @aim (al5 @ah1 (al5 @aiF (al5 @Sw (al5 @ahA (al5 @ah7 (al5 @aiH (al5 @ajh (al5 @aj2 (al5 @ako (al5 @ajg (al5 @ajo (al5 @ajI (al5 @ajS (al5 @WS (al5 @ake (al5 @ajb (al5 @aki (al5 @ajY (al5 @akt (al5 @ajP (al5 @ajw (al5 @ajc (al5 @ahu (al5 @afn (al5 @Oq (al5 @ahT (al5 @ahM (al5 @ahG (al5 @ahL (al5 @aiy (al5 @aif (al5 @aec (al5 @afb (al5 @ai5 (al5 @aij (al5 @WU (al5 @ex_0 (al5 @ex_1 (al5 @ex_2 (al5 @akl (al5 @ahf (al5 @ajz (al5 @aka (al5 @agK (al5 @afj (al5 @ak4 (al5 @aj5 (al5 @ahj (al5 @agc (al5 @agB (al5 @agJ (al5 @akd (@agF))))))))))))))))))))))))))))))))))))))))))))))))))))))))))))))))))))))))))))))))))))))))))))))))))))))))))))))))))))))))))))))))))))))
def am4:=al5 @Zt (al5 @Zz (al5 @aaa (al5 @aab (al5 @acq (al5 @ZH (al5 @aks (al5 @ahm (al5 @agO (al5 @afW (al5 @QK (al5 @aaV (al5 @abv (al5 @adP (al5 @abg (al5 @ZN (al5 @akf (al5 @adx (al5 @abx (al5 @acd (al5 @ais (al5 @tX (al5 @adV (al5 @adl (al5 @aaF (al5 @ah0 (al5 @agL (al5 @aie (al5 @agY (al5 @ac9 (al5 @acA (al5 @Su (@acA))))))))))))))))))))))))))))))))
end
theorem Ot(s:Bool)(a:Env)(op:ROp)(T L:List Nat):qP s .pure a op T L=some (T,L):=rfl
theorem MX(a:Env)(op:ROp)(T L:List Nat):qP false .wide a op T L=some (T,L):=rfl
theorem QM(s:Bool)(a:Env)(op:ROp)(T L:List Nat):qP s .eff a op T L=some (T,L):=rfl
theorem Sx(s:Bool)(a:Env)(cs:List AV)(e:TypeId)(T L:List Nat):qP s .Zn a (.nw cs e) T L=some (T,L):=rfl
theorem Sy(s:Bool)(a:Env)(e:TypeId)(x:RX)(T L:List Nat):qP s .Zn a (.bx e x) T L=some (T,L):=rfl
theorem QN(E:br)(x:AV)(args:List AV)(H:List Y4):kH E .eff x args H=none:=by unfold kH;split<;>rfl
theorem Ou(E:br)(x:AV)(args:List AV)(H:List Y4):kH E .Zn x args H=none:=by unfold kH;split<;>rfl
theorem MY(E:br)(x:AV)(args:List AV)(H:List Y4):kH E .quiet x args H=none:=by unfold kH;split<;>rfl
theorem Sz(dec:Dec)(E:br)(g:FuncId)(first cap args:List AV)(H:List Y4)(T L:List Nat)(v:AV)(H':List Y4):sC dec E .eff (.fn (.func g) first cap) args H T L (some (.ret v,H'))=some (v,H',T,L):=rfl
theorem QO(E:br)(g:FuncId)(first cap args:List AV)(H:List Y4)(T L:List Nat)(v:AV):sC bM E .Zn (.fn (.func g) first cap) args H T L (some (.ret v,H))=some (v,H,T,L):=by
 unfold sC rH;simp only [Ki (anQ (l:=H)),AQ.b,if_true]
theorem Kk{H H':List Y4}(h:H'.take H.length=H):∃ p,bM.turn H H'=some ⟨[],p⟩:=by
 have hl:H.length≤H'.length:=by rw [← h,an7];omega
 have hf:∀ inst:∀ i,Decidable (H'[i]?≠H[i]?),(List.range H.length).filter (fun i => @decide (H'[i]?≠H[i]?) (inst i))=[]:=by
  intro inst;rw [List.filter_eq_nil_iff];intro i hi
  have:H'[i]?=H[i]? := by
   conv=>rhs;rw [← h]
   rw [am9 (anV.1 hi)]
  simp [this]
 have d:bM.turn H H'=some ⟨_,_⟩:=dif_pos hl;rw [d];refine ⟨⟨hl,fun i hi _ => ?_⟩, ?_⟩
 ·conv=>rhs;rw [← h]
  rw [am9 hi]
 ·congr 1
  exact apw (hf _)
theorem QP{E:br}{g:FuncId}{first cap args:List AV}{H H':List Y4}(h:H'.take H.length=H)(T L:List Nat)(v:AV):sC bM E .stop (.fn (.func g) first cap) args H T L (some (.ret v,H'))=some (v,H',T,L):=by
 obtain ⟨p,e⟩:=Kk h;unfold sC rH MR HZ;simp only [e,amQ,if_false,amH]
theorem QQ{E:br}{g:FuncId}{first cap args:List AV}{H H':List Y4}(h:H'.take H.length=H)(T L:List Nat)(v:AV):sC bM E .turn (.fn (.func g) first cap) args H T L (some (.ret v,H'))=some (v,H',T,L):=by
 obtain ⟨p,e⟩:=Kk h;unfold sC rH MR HZ;simp only [e,amQ,if_false,amH]
theorem Ov(E:br)(x:AV)(args:List AV)(H:List Y4):kH E .stop x args H=none:=by unfold kH;split<;>rfl
theorem Ow(E:br)(x:AV)(args:List AV)(H:List Y4):kH E .turn x args H=none:=by unfold kH;split<;>rfl
theorem am6 :
 (∀ (E:br) (x:AV) (args:List AV) (H:List Y4),kH E .stop x args H=none)∧(∀ (E:br) (x:AV) (args:List AV) (H:List Y4),kH E .turn x args H=none) ∧
 (∀ (E:br) (g:FuncId) (first cap args:List AV) (H:List Y4) (T L:List Nat) (v:AV),sC bM E .stop (.fn (.func g) first cap) args H T L (some (.ret v,H))=some (v,H,T,L)) ∧
 (∀ (E:br) (g:FuncId) (first cap args:List AV) (H:List Y4) (T L:List Nat) (v:AV),sC bM E .turn (.fn (.func g) first cap) args H T L (some (.ret v,H))=some (v,H,T,L)) ∧
 (∀ (E:br) (x:AV) (args:List AV) (H:List Y4),kH E .last x args H=none) ∧
 (∀ (dec:Dec) (E:br) (g:FuncId) (first cap args:List AV) (H:List Y4) (T L:List Nat) (v:AV) (H':List Y4),sC dec E .last (.fn (.func g) first cap) args H T L (some (.ret v,H'))=some (v,H',T,L)):=
 ⟨Ov,Ow,fun _ _ _ _ _ _ _ _ _=>QP anQ _ _ _,fun _ _ _ _ _ _ _ _ _=>QQ anQ _ _ _,fun _ _ _ _=>(by unfold kH;split<;>rfl),fun _ _ _ _ _ _ _ _ _ _ _=>rfl⟩
theorem Ox(T:List Nat)(r:Option Out):u4 bM T [] r=r:=by
 unfold u4;rw [D4 (fun x hx=>by cases hx)]
theorem MZ(L:List Nat)(r:Option Out):u4 bM [] L r=r:=by
 unfold u4;rw [D4 (fun x _ hx=>by cases hx)]
theorem am5 :
 (∀ (s:Bool) (a:Env) (op:ROp) (T L:List Nat),qP s .pure a op T L=some (T,L)) ∧
 (∀ (a:Env) (op:ROp) (T L:List Nat),qP false .wide a op T L=some (T,L)) ∧
 (∀ (s:Bool) (a:Env) (op:ROp) (T L:List Nat),qP s .eff a op T L=some (T,L)) ∧
 (∀ (s:Bool) (a:Env) (cs:List AV) (e:TypeId) (T L:List Nat),qP s .Zn a (.nw cs e) T L=some (T,L)) ∧
 (∀ (s:Bool) (a:Env) (e:TypeId) (x:RX) (T L:List Nat),qP s .Zn a (.bx e x) T L=some (T,L)) ∧
 (∀ (E:br) (x:AV) (args:List AV) (H:List Y4),kH E .eff x args H=none) ∧
 (∀ (E:br) (x:AV) (args:List AV) (H:List Y4),kH E .Zn x args H=none) ∧
 (∀ (E:br) (x:AV) (args:List AV) (H:List Y4),kH E .quiet x args H=none) ∧
 (∀ (H:List Y4) (T L:List Nat) (r:Option EZ),Bz none H T L r=r) ∧
 (∀ (dec:Dec) (E:br) (g:FuncId) (first cap args:List AV) (H:List Y4) (T L:List Nat) (v:AV) (H':List Y4),sC dec E .eff (.fn (.func g) first cap) args H T L (some (.ret v,H'))=some (v,H',T,L)) ∧
 (∀ (E:br) (g:FuncId) (first cap args:List AV) (H:List Y4) (T L:List Nat) (v:AV),sC bM E .Zn (.fn (.func g) first cap) args H T L (some (.ret v,H))=some (v,H,T,L)) ∧
 (∀ (T:List Nat) (r:Option Out),u4 bM T [] r=r) ∧
 (∀ (L:List Nat) (r:Option Out),u4 bM [] L r=r) ∧
 (Ho []=true)∧(∀ (s:List UInt8) (r:List (List AV)),Ho ([.str s]::r)=false)∧(∀ (a b:AV) (c:List AV) (r:List (List AV)),Ho ((a::b::c)::r)=false)∧(∀ (k:IntKind) (n:Int) (r:List (List AV)),Ho ([.int k n]::r)=true) ∧
 (∀ (i o:Nat) (r:List (List AV)),Ho ([.ptr i o]::r)=false)∧(∀ (t:Tag) (n:Nat) (x r:List (List AV)),Ho ([.slice t n x]::r)=false) ∧
 (∀ (α:Type) (x y:α),(if true=false then x else y)=y)∧(∀ (α:Type) (x y:α),(if false=false then x else y)=x):=
 ⟨Ot,MX,QM,Sx,Sy,QN,Ou,MY,adC,Sz,QO,Ox,MZ,rfl,fun _ _=>rfl,fun a _ _ _=>(by cases a<;>rfl),fun _ _ _=>rfl,fun _ _ _=>rfl,fun _ _ _ _=>rfl,fun _ _ _=>rfl,fun _ _ _=>rfl⟩
def WV(o:Option Nat)(T L:List Nat):Option (List Nat×List Nat):=
 match o with
 |some id=>some (id::T,L)
 |none=>some (T,L)
theorem amZ :
 (∀ (a:Env) (H:List Y4) (e:TypeId) (sz bytes:Nat) (z:List AV) (s n:RX),Z1 a H (.apz e sz bytes z s n)=RV H e sz bytes z (rx a s) (rx a n)) ∧
 (∀ (a:Env) (H:List Y4) (sz:Nat) (z:List AV) (x:RX),Z1 a H (.cl sz z x)=DM (rcl H sz z (rx a x))) ∧
 (∀ (s:Bool) (a:Env) (m:Bool) (e:TypeId) (sz bytes:Nat) (str:Bool) (x y:RX) (T L:List Nat),qP s .Zn a (.ap m e sz bytes str x y) T L=WV (pU (rx a x)) T L) ∧
 (∀ T L:List Nat,WV none T L=some (T,L))∧(∀ (id:Nat) (T L:List Nat),WV (some id) T L=some (id::T,L)) ∧
 (∀ (n:Nat) (r:List (List AV)),pU (.slice .nil n r)=none)∧(∀ (n:Nat) (r:List (List AV)),pU (.slice .any n r)=none)∧(∀ (n:Nat) (r:List (List AV)),pU (.slice .full n r)=none) ∧
 (∀ (t n:Nat) (r:List (List AV)),pU (.slice (.own t) n r)=some t)∧(∀ (id off len esz:Nat) (room:Bool),pU (.Za id off len esz room)=some id):=
 ⟨fun _ _ _ _ _ _ _ _=>rfl,fun _ _ _ _ _=>rfl,fun _ _ _ _ _ _ _ _ _ _ _=>rfl,fun _ _=>rfl,fun _ _ _=>rfl,fun _ _=>rfl,fun _ _=>rfl,fun _ _=>rfl,fun _ _ _=>rfl,fun _ _ _ _ _=>rfl⟩
theorem abe(cs:List AV)(o:Nat):bq cs o []=cs:=by cases cs<;>rfl
theorem aa5(cs:List AV)(o:Nat)(v:AV)(r:List AV):bq cs o (v::r)=bq (cs.set o v) (o+1) r:=by cases cs<;>rfl
structure WdE {E:br} (M:cH bM E):Prop where
 wo:∀ f a H,E.wo f a H=none
 wide:∀ {g:FuncId}{args:List AV}{v:AV},(∀ H,M.run g args H=some (.ret v,H))→DU E g args v
theorem WdE.of{E:br}(M:cH bM E)(h:E.Ok)(hw:∀ f a H,E.wo f a H=none):WdE M:=⟨hw,fun hr H=>M.sound h (hr H)⟩
theorem SA{E:br}{M:cH bM E}(hW:WdE M)(g:FuncId)(first cap args:List AV)(H:List Y4):kH E .wide (.fn (.func g) first cap) args H=none:=by
 unfold kH HY;exact hW.wo _ _ _
theorem PJ{E:br}{M:cH bM E}(hW:WdE M){g:FuncId}{first cap args:List AV}{v:AV}(h:∀ H,M.run g (first++args++cap) H=some (.ret v,H))(H:List Y4)(T L:List Nat) :
  sC bM E .wide (.fn (.func g) first cap) args H T L (some (.ret v,H))=some (v,H,T,L):=by
 have:rH bM E .wide g (first++args++cap) H v H=true:=by
  unfold rH;simp only [QH rfl (hW.wide h)];rfl
 unfold sC;simp only [this,if_true]
theorem UX{H0:List Y4}{es:List (AV×AV)}(hw:∀ e∈es,Wk H0.length e.1 e.1∧Wk H0.length e.2 e.2):CH H0 (H0++[.map es]) (.map H0.length) (.Z2 es):=by
 intro K K' w w' x hi hi' hk hv;have hx:(H0++[Y4.map es])[H0.length]?=some (.map es):=by simp
 have hcut:bY H0 (H0++[.map es]):=⟨by simp,fun i x hlt h=>.inl (by rwa [al7 hlt] at h)⟩
 obtain ⟨hc1,hc2⟩:=hi.cut hi' hk hcut;have htake:(H0++[Y4.map es]).take H0.length=H0:=by simp
 rw [htake] at hc1 ⊢;cases hv with
 |map _ b hb=>
  obtain ⟨b2,mes,clock,h1,h2,h3,h4,h5,h6⟩:=hi'.obj _ _ hx;rw [hb] at h1;cases h1
  let K2:aC := { K'.Zy H0.length with shape:=fun b'=>if b'=b then some (.ac0 mes) else K'.shape b' }
  have hle:(K'.Zy H0.length).le K2:=⟨fun _ _ _ h=>h,fun _ _ h=>h,fun _ _ h=>h,rfl,rfl,rfl,fun b' s h=>by
   show (if b'=b then _ else _)=_;have h':K'.shape b'=some s:=h;rw [if_neg (fun e=>by subst e;rw [h6] at h';cases h')];exact h',fun b' hb'=>⟨fun _=>rfl,if_neg (fun e=>hb' (by rw [e];exact h2))⟩⟩
  have hn:H0.length≤K'.loc.length:=by rw [hi'.len];simp
  refine ⟨K2,hc2.trans hle, ?_, ?_⟩
  ·refine .Z2 es b mes (if_pos rfl) h4 (fun i k v he => ?_) (fun i k v he => ?_)
   ·obtain ⟨e,g1,g2,g3⟩:=h5 i k v he
    have:=(hw _ (aml he)).1 K' e.key hn g2;rw [show mes.getD i ⟨undef,undef,0⟩=e by simp [amd,g1]];exact this.mono hle
   ·obtain ⟨e,g1,g2,g3⟩:=h5 i k v he
    have:=(hw _ (aml he)).2 K' e.val hn g3;rw [show mes.getD i ⟨undef,undef,0⟩=e by simp [amd,g1]];exact this.mono hle
  ·refine ⟨hc1.below,hc1.base,hc1.ZO,hc1.len,fun i y hy => ?_,hc1.inj,hc1.own,fun g cs hg=>(hc1.ZC g cs hg).mono hle,fun b' s h => ?_⟩
   ·by_cases ly:y.live=true
    ·obtain ⟨by',hy1,_,_⟩:=hc1.ZF hy ly
     have hne2:by'≠b:=fun e=>by
      subst e;have hi0:i<H0.length:=(al3.1 hy).1;have hy':(H0++[Y4.map es])[i]?=some y:=by rw [al7 hi0];exact hy
      have hl:K'.loc[i]?=some by':=by
       have:(K'.loc.take H0.length)[i]?=some by':=hy1
       rwa [am9 hi0] at this
      exact hi'.inj i H0.length y _ hy' hx ly rfl (by omega) (by rw [hl,hb])
     refine (hc1.obj i y hy).mono hle (fun _ _ _ _=>rfl) (fun b'' hb'' _=>⟨fun o h=>h,fun h=>h,fun h => ?_⟩);rw [hy1] at hb'';cases hb'';show (if _=b then _ else _)=_;rw [if_neg hne2];exact h
    ·cases y<;>first | exact absurd rfl ly | trivial
   ·have h':(if b'=b then some (.ac0 mes) else K'.shape b')=some s:=h
    split at h'
    ·rename_i e;cases h';subst e;exact ⟨clock,h3⟩
    ·exact hc1.shape b' s h'
theorem QR{H0 H:List Y4}{v v':AV}(e:UI H0.length H v=v')(h:CH H0 H v v'):iZ bM .frz H0 H v=some (v',H.take H0.length):=by
 subst e;unfold iZ;simp only [Sp h]
theorem JA{H0:List Y4}{es:List (AV×AV)}(hw:∀ e∈es,Wk H0.length e.1 e.1∧Wk H0.length e.2 e.2):iZ bM .frz H0 (H0++[.map es]) (.map H0.length)=some (.Z2 es,H0):=by
 rw [QR (by simp [UI,WE]) (UX hw)];simp
theorem UY{H:List Y4}{es:List (AV×AV)}{kk:CK}{k v:AV}(h1:F5 kk k=true)(h2:pS k es 0=some none):rmu (H++[.map es]) kk (.map H.length) k v=some (H++[.map (es++[(k,v)])]):=by
 unfold rmu HM;simp [h1,h2]
end Go.Am
