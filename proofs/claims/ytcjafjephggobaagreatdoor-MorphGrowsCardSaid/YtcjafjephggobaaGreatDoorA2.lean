import Derived.Test.YtcjafjephggobaaGreatDoorA1
import Derived.Lib.UnsafeStr
import Derived.Lib.Builder
import Derived.Laws.AppendOwn
import Derived.Recover
/-
  Part 2 of the tool: an abstract machine over the model, proved sound, and what it says of the functions that the law reaches. Condition: none but those that each theorem names.
-/
set_option linter.unusedVariables false
set_option linter.unusedSimpArgs false
set_option maxRecDepth 100000
set_option maxHeartbeats 4000000
namespace Go.Am
open Go.RowKit
def SX(P:Program):Op→Bool
 |.move _ | .assign _ | .pick .. | .nilCheck _ | .binOp .. | .unOp .. | .makeInterface .. | .makeFunc .. | .slice .. | .fieldAddr .. | .field .. | .indexAddr .. | .index .. | .extract .. | .typeAssert .. => true
 |.build .. | .buildSlice .. => true
 |.convert s _ _=>match P.underlying s with
  |some (.slice _)=>false
  |_=>true
 |.call c=>match c.callee with
  |.builtin .cap | .builtin .min | .builtin .max=>true
  |_=>false
 |_=>false
def Gs(P:Program)(G:Nat→Option (List AV))(a:Env)(H:List ab)(o:Oper)(v:AV)(H':List ab):Prop:=
 match o.op with
 |.call c=>match c.callee with
  |.value f=>match en G a f with
   |.fn (.func g) first cap=>eS P G g (first++c.args.toList.map (en G a)++cap) H fun r H2=>r = .ret v∧H2=H'
   |_=>False
  |.builtin b => ∃ m,jm m P H b c.argTypes (c.args.toList.map (en G a))=some (v,H')
  |.invoke _ _=>False
 |.panic _=>False
 |op=>aop P G a H op=some (v,H')
inductive Cl where
 |pure
 |quiet
 |wide
 |keep
 |eff
 deriving DecidableEq,Inhabited
def Cl.still:Cl→Bool
 |.quiet | .wide=>true
 |_=>false
def Cl.mixes:Cl→Cl→Bool
 |.pure,_=>true
 |_,.pure=>true
 |.wide,.keep=>true
 |x,y=>x.still&&y.still
section
variable{P:Program}{G:Nat→Option (List AV)}{K:aJ}{N:Fr}{a:Env}{H:List ab}{act:Act}{w:World}{ops:Array Oper}{cls:Nat→Cl}{Kp:List ab→List ab→Prop}{Q:ky→Env→List ab→Prop}
theorem Gs.step{o:Oper}{v:AV}{H':List ab}(h:Gs P G a H o v H'){Kv Kp:AV→List ab→Prop}(hk:Kv v H'):VO P G a H o Kv Kp:=by
 unfold Gs at h
 unfold VO
 split at h
 ·rename_i c hop
  simp only [hop]
  split at h
  ·rename_i f hc
   simp only [hc]
   split at h
   ·rename_i g first cap he
    simp only [he]
    exact h.mono fun r H2 ⟨e1,e2⟩=>by subst e1;subst e2;exact hk
   ·exact h.elim
  ·rename_i b hc
   obtain ⟨m,h⟩:=h
   simp only [hc];exact ⟨m,by rw [h];exact hk⟩
  ·exact h.elim
 ·exact h.elim
 ·rename_i hop1 hop2
  split
  ·rename_i c hop;exact absurd hop (hop1 c)
  ·rename_i x hop;exact absurd hop (hop2 x)
  ·rw [h];exact hk
structure Xk (P:Program) (G:Nat→Option (List AV)) (N:Fr) (ops:Array Oper) (Kp:List ab→List ab→Prop) (c:Cl) (a:Env) (H:List ab) (o:Oper) (v:AV) (H':List ab):Prop where
 dst:∀ d,o.dst=some d→d<N.n
 pure:c = .pure→SX P o.op=true
 still:c.still=true→H'=H
 keep:c = .keep→Kp H H'
 step:(po ops a o=some true∧Gs P G a H o v H'∧(c = .wide→∀ H2,Kp H H2→Gs P G a H2 o v H2))∨(po ops a o=some false∧v=iY∧H'=H)
theorem Mc:∀ (f g:Nat) (a:Env) (n m:Nat) (v u:AV),n<f→m<g→n≠m→zD g (zD f a n v) m u=zD f (zD g a m u) n v
 |0,_,_,_,_,_,_,h,_,_=>absurd h (Nat.not_lt_zero _)
 |_+1,0,_,_,_,_,_,_,h,_=>absurd h (Nat.not_lt_zero _)
 |f+1,g+1,a,n,m,v,u,hn,hm,hne=>by
  have half:∀ k:Nat,(Nat.beq (k % 2) 0)=decide (k % 2=0):=fun k=>by rw [Bool.eq_iff_iff];simp
  cases n with
  |zero=>
   cases m with
   |zero=>exact absurd rfl hne
   |succ m=>cases a<;>simp only [zD,half]<;>by_cases h:m % 2=0<;>simp [zD,half,h]
  |succ n=>
   cases m with
   |zero=>cases a<;>simp only [zD,half]<;>by_cases h:n % 2=0<;>simp [zD,half,h]
   |succ m=>
    have ih:=fun (b:Env) (h:n / 2≠m / 2)=>Mc f g b (n / 2) (m / 2) v u (by omega) (by omega) h
    cases a<;>simp only [zD,half]<;>by_cases h1:n % 2=0<;>by_cases h2:m % 2=0<;>simp [zD,half,h1,h2]
    all_goals exact ih _ (by omega)
theorem RD(n m:Nat)(a:Env)(v u:AV)(h:n≠m):uB (uB a n v) m u=uB (uB a m u) n v:=Mc (n+1) (m+1) a n m v u (by omega) (by omega) h
theorem RE(a:Env){x y:Option Tmp}(v u:AV)(h:∀ d,x=some d→y≠some d):kT (kT a x v) y u=kT (kT a y u) x v:=by
 cases x with
 |none=>rfl
 |some d=>
  cases y with
  |none=>rfl
  |some e=>exact RD d e a v u (fun he=>h d rfl (by rw [he]))
theorem Iv{o:Oper}{dst:Option Tmp}{u:AV}(h:∀ d,dst=some d→d ∉ o.looksAt ops):po ops (kT a dst u) o=po ops a o:=by
 cases dst with
 |none=>rfl
 |some d=>
  unfold po
  cases hg:o.guard with
  |none=>rfl
  |some gw=>
   obtain ⟨j,want⟩:=gw
   simp only
   cases ht:(ops[j]?).bind (·.dst) with
   |none=>rfl
   |some t=>
    have hne:t≠d:=fun e=>h d rfl (by subst e;simp [Oper.looksAt,hg,ht])
    simp only [kT,rh,if_neg hne]
inductive Dep (ops:Array Oper) (i:Nat):Nat→Prop where
 |one (j:Nat) (oj:Oper) (e:Edge):ops[j]?=some oj→e∈oj.after→Region.binds .any e=true→e.on=i→Dep ops i j
 |more (j:Nat) (oj:Oper) (e:Edge):ops[j]?=some oj→e∈oj.after→Region.binds .any e=true→Dep ops i e.on→Dep ops i j
def C7(ops:Array Oper)(listed:Array Bool):Prop:=∀ (j:Nat) (oj:Oper),ops[j]?=some oj→listed.getD j true=true→∀ e∈oj.after,Region.binds .any e=true→listed.getD e.on true=true
theorem C7.dep{listed:Array Bool}(hc:C7 ops listed){i j:Nat}(hd:Dep ops i j):listed.getD j true=true→listed.getD i true=true:=by
 induction hd with
 |one j oj e h1 h2 h3 h4=>intro h;subst h4;exact hc j oj h1 h e h2 h3
 |more j oj e h1 h2 h3 _ ih=>intro h;exact ih (hc j oj h1 h e h2 h3)
theorem A7{listed:Array Bool}{k:Nat}(h:listed.getD k false=true):listed.getD k true=true:=by
 rcases Nat.lt_or_ge k listed.size with h' | h'
 ·simpa [h',Array.getD_eq_getD_getElem?] using h
 ·simp [Array.getD_eq_getD_getElem?,Array.getElem?_eq_none h'] at h
def V2(i:Nat):List Oper→List Bool→List Bool
 |[],acc=>acc
 |o::os,acc=>V2 i os (acc++[o.after.any fun e=>Region.binds .any e&&(e.on == i||acc.getD e.on false)])
theorem JP{i:Nat}:∀ (l:List Oper) (acc:List Bool),(∀ j,l[j]?=ops[acc.length+j]?)→(∀ j,acc.getD j false=true→Dep ops i j)→∀ j,(V2 i l acc).getD j false=true→Dep ops i j
 |[],acc,_,h,j,hj=>h j hj
 |o::l,acc,hl,h,j,hj=>by
  refine JP l _ (fun k => ?_) (fun k hk => ?_) j hj
  ·have:=hl (k+1)
   simp only [List.getElem?_cons_succ] at this
   rw [this,List.length_append];congr 1;simp;omega
  ·rcases Nat.lt_trichotomy k acc.length with hlt | heq | hgt
   ·refine h k ?_
    simpa [List.getD,List.getElem?_append_left hlt] using hk
   ·subst heq
    simp only [List.getD,List.getElem?_append_right (Nat.le_refl _),Nat.sub_self,List.getElem?_cons_zero,Option.getD_some,Array.any_eq_true',Bool.and_eq_true,Bool.or_eq_true,beq_iff_eq] at hk
    obtain ⟨e,he,hb,hor⟩:=hk
    have ho:ops[acc.length]?=some o:=by simpa using (hl 0).symm
    rcases hor with hor | hor
    ·exact .one _ o e ho he hb hor
    ·exact .more _ o e ho he hb (h _ hor)
   ·simp [List.getD,List.getElem?_append_right (Nat.le_of_lt hgt),List.getElem?_cons,show ¬ (k-acc.length=0) by omega] at hk
def SY(ops:Array Oper)(cls:Nat→Cl)(listed:Array Bool)(i:Nat):Bool:=
 match ops[i]? with
 |none=>false
 |some oi=>
  let dp:=V2 i ops.toList []
  (List.range ops.size).all fun j=>j == i||listed.getD j true||dp.getD j false||match ops[j]? with
   |some oj=>(cls i).mixes (cls j)&&oi.apart ops oj
   |none=>true
def Nc(ops:Array Oper)(cls:Nat→Cl):List Nat→Array Bool→Bool
 |[],listed=>(Region.ready .any ops listed).isEmpty
 |k::ord,listed=>(Region.ready .any ops listed).contains k&&SY ops cls listed k&&Nc ops cls ord (listed.setIfInBounds k true)
theorem PP{i:Nat}{oi:Oper}{listed:Array Bool}(hi:ops[i]?=some oi)(h:SY ops cls listed i=true)(j:Nat)(oj:Oper)
  (hj:ops[j]?=some oj) (hne:j≠i) (hun:listed.getD j true=false) (hno:¬ Dep ops i j):oi.apart ops oj=true∧(cls i).mixes (cls j)=true:=by
 simp only [SY,hi,List.all_eq_true,List.mem_range] at h
 have h1:=h j (Array.getElem?_eq_some_iff.1 hj).1
 simp only [hj,Bool.or_eq_true,beq_iff_eq,hne,false_or,hun,Bool.false_eq_true,Bool.and_eq_true] at h1
 rcases h1 with h1 | h1
 ·exact absurd (JP ops.toList [] (fun j=>by simp) (fun j hj=>by simp at hj) j h1) hno
 ·exact ⟨h1.2,h1.1⟩
theorem Nd{listed:Array Bool}(hc:C7 ops listed){i:Nat}(hr:i∈Region.ready .any ops listed):C7 ops (listed.setIfInBounds i true):=by
 obtain ⟨_,oj,hoj,hall⟩:=mem_ready.1 hr
 intro k ok hk hkl e he hb
 have up:∀ m,listed.getD m true=true→(listed.setIfInBounds i true).getD m true=true:=fun m hm=>by
  by_cases hjm:i=m
  ·subst hjm
   rcases Nat.lt_or_ge i listed.size with h' | h'
   ·simp [Array.getD_eq_getD_getElem?,h']
   ·simp [Array.getD_eq_getD_getElem?,Array.getElem?_eq_none h']
  ·rw [getD_set_ne true hjm];exact hm
 by_cases hjk:i=k
 ·subst hjk
  rw [hoj] at hk;cases hk
  exact up _ (A7 (hall e he hb))
 ·rw [getD_set_ne true hjk] at hkl
  exact up _ (hc k ok hk hkl e he hb)
theorem Nf:C7 ops (Array.replicate ops.size false):=fun j oj hj hl=>by
 have:=(Array.getElem?_eq_some_iff.1 hj).1
 simp [Array.getD_eq_getD_getElem?,this] at hl
end
def Wk(n:Nat)(v v':AV):Prop:=∀ (K:aJ) (x:Value),n≤K.loc.length→V K v x→V (K.trunc n) v' x
section
variable{P:Program}{G:Nat→Option (List AV)}{K:aJ}{N:Fr}{a:Env}{H:List ab}{act:Act}{w:World}
def JQ(tmps:Array Value):ResultVar→Sem Value
 |.tmp t=>pure (tmps.getD t undef)
 |.cell a t=>do loadVar t (← asAddr (tmps.getD a undef))
def qI(P:Program)(a:Env)(H:List ab):ResultVar→Option AV
 |.tmp t=>some (iu a t)
 |.cell x t=>yg P H t (iu a x)
theorem Gt(hr:Rel N K a H act w){r:ResultVar}{v:AV}(h:qI P a H r=some v):∃ cv,(JQ act.tmps r).run P w = .ok cv w∧V K v cv:=by
 cases r with
 |tmp t=>cases h;exact ⟨_,rfl,hr.tmps t⟩
 |cell x t=>
  simp only [qI,JQ] at h ⊢
  have hx:=hr.tmps x
  generalize act.tmps.getD x undef=cx at hx
  obtain ⟨cv,h1,h2⟩:=Gj (P:=P) hr.inv hx h
  refine ⟨cv, ?_,h2⟩
  have hp:∃ ad,cx = .pointer (some ad):=by
   unfold yg at h
   generalize iu a x=y at hx h
   split at h
   ·cases hx with | ptr _ _ b hb=>exact ⟨_,rfl⟩
   ·cases hx with | vptr _ _ _ _ b o vs _ _ _=>exact ⟨_,rfl⟩
   ·cases h
  obtain ⟨ad,rfl⟩:=hp
  simpa [Instr.loadAt,Instr.sureAddr,asAddr] using h1
theorem Gu(hr:Rel N K a H act w):∀ (rs:List ResultVar) (vs:List AV),rs.mapM (qI P a H)=some vs →
  ∃ cvs:List Value,(rs.mapM (JQ act.tmps)).run P w = .ok cvs w∧Vs K vs cvs.toArray∧cvs.length=rs.length
 |[],vs,h=>by cases h;exact ⟨[],rfl,⟨rfl,by simp⟩,rfl⟩
 |r::rs,vs,h=>by
  rw [List.mapM_cons] at h
  simp only [Option.bind_eq_bind,Option.bind_eq_some_iff,Option.pure_def,Option.some.injEq] at h
  obtain ⟨v,h1,vs',h2,rfl⟩:=h
  obtain ⟨cv,h3,h4⟩:=Gt (P:=P) hr h1
  obtain ⟨cvs,h5,h6,h7⟩:=Gu hr rs vs' h2
  refine ⟨cv::cvs, ?_, ?_,by simp [h7]⟩
  ·rw [List.mapM_cons]
   simp only [Sem.run_bind,h3,h5,Result.andThen_ok,Sem.run_pure]
  ·have:Vs K [v] #[cv]:=⟨rfl,fun i av hi=>by
    cases i with
    |zero=>simp at hi;subst hi;exact h4
    |succ i=>simp at hi⟩
   have:=this.append h6
   simpa using this
theorem PQ(fn:Func)(tmps:Array Value):results fn tmps=(do let vs ← fn.results.toList.mapM (JQ tmps);pure (if h:vs.toArray.size=1 then vs.toArray[0] else .tuple vs.toArray):Sem Value):=by
 unfold results
 rw [Array.mapM_eq_mapM_toList]
 have:(fun x=>match x with | .tmp t=>pure (tmps.getD t undef) | .cell a t=>do let __do_lift ← asAddr (tmps.getD a undef);loadVar t __do_lift:ResultVar→Sem Value)=JQ tmps:=by
  funext r;cases r<;>rfl
 simp only [bind_map_left]
 congr 1
theorem PR(hr:Rel N K a H act w){fn:Func}{v:AV}(h:UK P fn a H=some v):∃ cv,(results fn act.tmps).run P w = .ok cv w∧V K v cv:=by
 unfold UK at h
 simp only at h
 rw [PQ]
 split at h
 ·rename_i r hrs
  have h':qI P a H r=some v:=by rw [← h];cases r<;>rfl
  obtain ⟨cv,h1,h2⟩:=Gt (P:=P) hr h'
  refine ⟨cv, ?_,h2⟩
  rw [hrs]
  simp only [List.mapM_cons,List.mapM_nil,Sem.run_bind,h1,Result.andThen_ok,Sem.run_pure]
  rfl
 ·rename_i hrs
  rw [Option.map_eq_some_iff] at h
  obtain ⟨vs,h1,rfl⟩:=h
  have h1':fn.results.toList.mapM (qI P a H)=some vs:=by
   rw [← h1];congr 1
  obtain ⟨cvs,h2,h3,h4⟩:=Gu (P:=P) hr _ vs h1'
  refine ⟨.tuple cvs.toArray, ?_,.tuple _ _ h3.size h3.at_⟩
  simp only [Sem.run_bind,h2,Result.andThen_ok,Sem.run_pure]
  have hne:¬ cvs.toArray.size=1:=by
   intro e
   simp at e
   have e2:fn.results.toList.length=1:=by omega
   match hl:fn.results.toList,e2 with
   |[r],_=>exact hrs r hl
  rw [dif_neg hne]
theorem HA{args:List AV}{cargs:Array Value}(hv:Vs K args cargs)(n:Nat)(t:Nat):V K (iu (env args) t) ((cargs++Array.replicate n undef).getD t undef):=by
 rw [SO]
 cases h:args[t]? with
 |none=>exact .unk _
 |some v=>
  obtain ⟨c,h1,h2⟩:=hv.get h
  rw [oO (v:=c) (by rw [Array.getElem?_append_left (Array.getElem?_eq_some_iff.1 h1).1];exact h1)]
  exact h2
end
mutual
def tX:AV→Bool
 |.unk | .bool _ | .int .. | .str _ | .nilp | .nilmap | .nilfn | .nilif=>true
 |.ptr .. | .rslice .. | .map _ | .sdp .. => false
 |.vmap es=>pureM es
 |.vptr _ rows _ _=>pureLL rows
 |.slice tag _ rows=>(match tag with | .own _=>false | _=>true)&&pureLL rows
 |.fn _ x y=>pureL x&&pureL y
 |.iface _ v=>tX v
 |.agg cs=>pureL cs
 |.tuple cs=>pureL cs
def pureM:List (AV×AV)→Bool
 |[]=>true
 |e::l=>tX e.1&&tX e.2&&pureM l
def pureL:List AV→Bool
 |[]=>true
 |v::l=>tX v&&pureL l
def pureLL:List (List AV)→Bool
 |[]=>true
 |v::l=>pureL v&&pureLL l
end
theorem vJ{l:List AV}(h:pureL l=true){i:Nat}{v:AV}(hi:l[i]?=some v):tX v=true:=by
 induction l generalizing i with
 |nil=>simp at hi
 |cons x l ih=>
  simp only [pureL,Bool.and_eq_true] at h
  cases i with
  |zero=>simp at hi;subst hi;exact h.1
  |succ i=>exact ih h.2 (by simpa using hi)
theorem JR{l:List (List AV)}(h:pureLL l=true){i:Nat}{v:List AV}(hi:l[i]?=some v):pureL v=true:=by
 induction l generalizing i with
 |nil=>simp at hi
 |cons x l ih=>
  simp only [pureLL,Bool.and_eq_true] at h
  cases i with
  |zero=>simp at hi;subst hi;exact h.1
  |succ i=>exact ih h.2 (by simpa using hi)
theorem Md{l:List (AV×AV)}(h:pureM l=true){i:Nat}{k v:AV}(hi:l[i]?=some (k,v)):tX k=true∧tX v=true:=by
 induction l generalizing i with
 |nil=>simp at hi
 |cons x l ih=>
  simp only [pureM,Bool.and_eq_true] at h
  cases i with
  |zero=>simp at hi;subst hi;exact h.1
  |succ i=>exact ih h.2 (by simpa using hi)
theorem V.pure{K K':aJ}(hs:∀ b s,K.shape b=some s→K'.shape b=some s)(hk:∀ b o v,K.imm b o=some v→K'.imm b o=some v){v:AV}{x:Value}(h:V K v x)(hp:tX v=true):V K' v x:=by
 induction h with
 |unk v=>exact .unk v
 |bool b=>exact .bool b
 |int k n=>exact .int k n
 |str s=>exact .str s
 |nilp=>exact .nilp
 |ptr=>cases hp
 |vptr esz rows i off b o vs hl hi hv ih=>exact .vptr esz rows i off b o vs hl (fun i j r av h1 h2=>hk _ _ _ (hi i j r av h1 h2)) (fun i j r av h1 h2=>ih i j r av h1 h2 (vJ (JR (by simpa [tX] using hp) h1) h2))
 |slice0 tag esz a ht=>exact .slice0 tag esz a ⟨fun t e=>(by subst e;simp [tX] at hp),ht.2⟩
 |sliceAny esz a cap=>exact .sliceAny esz a cap
 |slice tag esz rows b o cap vs hl hi hv hc ht ih=>
  simp only [tX,Bool.and_eq_true] at hp
  refine .slice tag esz rows b o cap vs hl (fun i j r av h1 h2=>hk _ _ _ (hi i j r av h1 h2)) (fun i j r av h1 h2=>ih i j r av h1 h2 (vJ (JR hp.2 h1) h2)) hc ?_
  cases tag with
  |any=>trivial
  |nil=>exact ht
  |full=>exact ht
  |own t=>cases hp.1
 |rslice=>cases hp
 |nilmap=>exact .nilmap
 |vmap es b mes hb hl hk hv ih1 ih2=>
  exact .vmap es b mes (hs _ _ hb) hl (fun i k v hi=>ih1 i k v hi (Md (by simpa [tX] using hp) hi).1) (fun i k v hi=>ih2 i k v hi (Md (by simpa [tX] using hp) hi).2)
 |map=>cases hp
 |sdp0=>cases hp
 |sdp=>cases hp
 |fn f first captured vs us h1 h2 hv hu ih1 ih2=>
  simp only [tX,Bool.and_eq_true] at hp
  exact .fn f first captured vs us h1 h2 (fun i av hi=>ih1 i av hi (vJ hp.1 hi)) (fun i av hi=>ih2 i av hi (vJ hp.2 hi))
 |nilfn=>exact .nilfn
 |iface t v x hx ih=>exact .iface t v x (ih (by simpa [tX] using hp))
 |nilif=>exact .nilif
 |agg cs vs h1 hv ih=>exact .agg cs vs h1 (fun i av hi=>ih i av hi (vJ (by simpa [tX] using hp) hi))
 |tuple cs vs h1 hv ih=>exact .tuple cs vs h1 (fun i av hi=>ih i av hi (vJ (by simpa [tX] using hp) hi))
section
variable{P:Program}{K:aJ}{H:List ab}{w:World}
theorem Inv.junk(hi:Inv K H w)(o:Obj):Inv K H (w.alloc o):=by
 have hheap:∀ b,b<w.heap.size→(w.alloc o).heap[b]?=w.heap[b]? := fun b hb=>by rw [heap_alloc,if_neg (by omega)]
 refine ⟨hi.below.alloc hi.base _,fun b h=>hi.base b (by simp at h;omega),fun b off v h => ?_,hi.len,fun id y hy => ?_,hi.inj,fun b t n h => ?_,hi.glob,fun b s h=>(tU.alloc w _).shp (hi.shape b s h)⟩
 ·rw [oZ (hheap b (hi.imm_lt h))];exact hi.imm _ _ _ h
 ·exact (hi.obj id y hy).mono (.refl K) (fun b _ _ hb=>hheap b hb) (fun _ _ _=>⟨fun _ h=>h,fun h=>h,fun h=>h⟩)
 ·obtain ⟨hb,fr,us,T',lo,hh,h1,h2,h3,h4,h5⟩:=hi.own b t n h
  exact ⟨hb,fr,us,T',lo,hh,h1,by rw [hheap b (Array.getElem?_eq_some_iff.1 h2).1];exact h2,h3,h4,h5⟩
theorem Inv.freeze(hi:Inv K H w){b t cap fr n:Nat}{T:TypeId}(ho:K.own b=some (t,cap))(ht:H[t]?=some (.tok fr T))(hn:n≤fr):Inv K H (w.freeze ⟨b,0,none⟩ n):=by
 obtain ⟨hb,fr',us,T',lo,hh,g1,g2,g3,g4,g5⟩:=hi.own b t cap ho
 rw [ht] at g1;cases g1
 by_cases h0:n=0
 ·subst h0;simpa [World.freeze] using hi
 have hbl:=(Array.getElem?_eq_some_iff.1 g2).1
 obtain ⟨lo2,hh2,hle2,heq⟩:∃ lo2 hh2,hh2≤fr∧(w.freeze ⟨b,0,none⟩ n).heap[b]?=some (.cells us T (lo2,hh2)):=by
  by_cases e:lo=hh
  ·refine ⟨0,0+n,by omega, ?_⟩
   simp only [World.freeze,if_neg h0,Array.getElem?_modify,g2]
   simp [e]
  ·refine ⟨min lo 0,max hh (0+n),by omega, ?_⟩
   simp only [World.freeze,if_neg h0,Array.getElem?_modify,g2]
   simp [e]
 have hother:∀ b',b'≠b→(w.freeze ⟨b,0,none⟩ n).heap[b']?=w.heap[b']? := fun b' hne=>by
  simp only [World.freeze,if_neg h0,Array.getElem?_modify]
  rw [if_neg (fun e=>hne e.symm)]
 have hnobj:∀ (id:Nat) (y:ab) (b':Nat),H[id]?=some y→y.live=true→K.loc[id]?=some b'→b'≠b:=fun id y b' hy hl hb' e=>by
  subst e
  have:=hi.obj id y hy
  cases y with
  |dead=>cases hl
  |tok=>cases hl
  |cells cs T0=>
   obtain ⟨b2,vs,T2,h1,h2,h3,h4,h5,h6,h7,h8,h9⟩:=this
   rw [hb'] at h1;cases h1;rw [ho] at h7;cases h7
  |siter s p=>obtain ⟨b2,h1,h2,h3⟩:=this;rw [hb'] at h1;cases h1;rw [g2] at h3;cases h3
  |map es=>obtain ⟨b2,me,cl,h1,h2,h3,_⟩:=this;rw [hb'] at h1;cases h1;rw [g2] at h3;cases h3
 refine ⟨hi.below.trans ⟨by simp [World.freeze,if_neg h0],by simp [World.freeze,if_neg h0],by simp [World.freeze,if_neg h0],by simp [World.freeze,if_neg h0],fun k hk=>hother k (fun e=>hk (by rw [e];exact hb))⟩,fun b h=>hi.base b (by simpa [World.freeze,if_neg h0] using h),fun b' o v h => ?_,hi.len,fun id y hy => ?_,hi.inj,fun b' t' n' h => ?_,hi.glob,fun b' s h => ?_⟩
 ·have hc:=hi.imm _ _ _ h
  by_cases e:b'=b
  ·subst e
   rw [cell_of_heap heq]
   rw [cell_of_heap g2] at hc;exact hc
  ·rw [oZ (w:=w) (hother b' e)];exact hc
 ·by_cases hl:y.live=true
  ·exact (hi.obj id y hy).mono (.refl K) (fun b' hb' _ _=>hother b' (hnobj id y b' hy hl hb')) (fun _ _ _=>⟨fun _ h=>h,fun h=>h,fun h=>h⟩)
  ·cases y<;>first | exact absurd rfl hl | trivial
 ·obtain ⟨hb',fr',us',T',lo',hh',k1,k2,k3,k4,k5⟩:=hi.own b' t' n' h
  by_cases e:b'=b
  ·subst e
   rw [ho] at h;cases h
   rw [ht] at k1;cases k1
   rw [g2] at k2;cases k2
   exact ⟨hb',fr,us,T,lo2,hh2,ht,heq,k3,hle2,k5⟩
  ·exact ⟨hb',fr',us',T',lo',hh',k1,by rw [hother b' e];exact k2,k3,k4,k5⟩
 ·refine tU.shp (w:=w) ⟨fun b2 vs T2 f h => ?_,fun b2 es c h => ?_⟩ (hi.shape b' s h)
  ·by_cases e:b2=b
   ·subst e
    rw [g2] at h;cases h
    exact ⟨us,(lo2,hh2),heq,rfl⟩
   ·exact ⟨vs,f,by rw [hother b2 e];exact h,rfl⟩
  ·by_cases e:b2=b
   ·subst e;rw [g2] at h;cases h
   ·rw [hother b2 e];exact h
def D9:List (List AV)→Bool
 |[]=>true
 |[.int .u8 n]::l=>decide (0≤n)&&decide (n<256)&&D9 l
 |_=>false
theorem Iw:∀ {rows:List (List AV)},D9 rows=true→∀ (i:Nat) (n:Int),rows[i]?=some [.int .u8 n]→0≤n∧n<256
 |[],_,i,n,h=>by simp at h
 |r::rows,hb,i,n,h=>by
  unfold D9 at hb
  split at hb<;>rename_i he<;>first | (cases he;done) | (cases hb;done) | skip
  rename_i m l
  cases he
  simp only [Bool.and_eq_true,decide_eq_true_eq] at hb
  cases i with
  |zero=>simp at h;subst h;exact hb.1
  |succ i=>exact Iw hb.2 i n (by simpa using h)
theorem N8{u:TypeId}{count:Nat}(hc:P.cellsOf u≠0)(h:1≤count):liesAt P P.depth u count 0 u 1=true:=by
 have hd:P.depth=(2*(P.types.size+Made.depth)+1)+1:=rfl
 rw [hd]
 simp only [liesAt,Bool.or_eq_true]
 left
 rw [hd]
 simp [rowAt,hc,h,sameLayout]
end
inductive RX where
 |t (n:Nat)
 |c (v:AV)
 deriving Inhabited
def rx(a:Env):RX→AV
 |.t n=>iu a n
 |.c v=>v
inductive CK where
 |bool
 |int (k:IntKind)
 |str
 |bad
 deriving Inhabited
inductive EK where
 |bool
 |ptr
 |fn
 |ifc (c:Bool)
 |st (fs:List (Nat×CK))
 |sl
 |bad
 deriving Inhabited
inductive LK where
 |str
 |sl
 |mp
 deriving Inhabited
inductive ROp where
 |mv (x:RX)
 |pk (c x y:RX)
 |nw (cs:List AV) (e:TypeId)
 |bx (e:TypeId) (x:RX)
 |bd (z:List AV) (pl:List (Nat×Nat)) (ps:List (Nat×RX))
 |bs (sz:Nat) (z:List AV) (len:Nat) (ps:List (Nat×RX))
 |ld (g:Option Nat) (x:RX)
 |st (sz:Nat) (x v:RX)
 |nc (x:RX)
 |ar (op:BinOp) (x y:RX)
 |sh (op:BinOp) (x y:RX)
 |an (x y:RX)
 |eq (neg:Bool) (k:EK) (x y:RX)
 |un (op:UnOp) (x:RX)
 |cvi (k:IntKind) (x:RX)
 |cvs (x:RX)
 |cvbs (x:RX)
 |cvsb (x:RX)
 |mi (t:TypeId) (x:RX)
 |ta (T:TypeId) (z:Option AV) (ok:Bool) (x:RX)
 |mf (f:Fn) (xs ys:List RX)
 |sls (x:RX) (l h:Option RX)
 |sll (sz:Nat) (x:RX) (l h m:Option RX)
 |sla (n sz:Nat) (x:RX) (l h:Option RX)
 |fa (o:Nat) (x:RX)
 |fd (g:Option Nat) (o:Nat) (x:RX)
 |ias (sz:Nat) (x i:RX)
 |iaa (n sz:Nat) (x i:RX)
 |ixs (x i:RX)
 |ixa (n:Nat) (g:Option Nat) (sz:Nat) (x i:RX)
 |ex (x:RX) (i:Nat)
 |mm
 |ms (e:TypeId) (bytes:Nat) (cs:List AV) (l c:RX)
 |mu (k:CK) (m k v:RX)
 |lk (k:CK) (z:Option AV) (ok:Bool) (x k:RX)
 |rg (x:RX)
 |nx (x:RX)
 |len (k:LK) (x:RX)
 |cap (x:RX)
 |ap (m:Bool) (e:TypeId) (sz bytes:Nat) (str:Bool) (s x:RX)
 |cp (sz:Nat) (str:Bool) (d s:RX)
 |mx (x y:RX)
 |mn (x y:RX)
 |nwb (cs:List AV) (e:TypeId) (j:Nat) (T:TypeId)
 |usl (x:RX)
 |ust (e:TypeId) (x n:RX)
 |cvu (x:RX)
 |cvf (u:TypeId) (sz:Nat) (x:RX)
 |apz (e:TypeId) (sz bytes:Nat) (z:List AV) (s n:RX)
 |cl (sz:Nat) (z:List AV) (x:RX)
 deriving Inhabited
def cD(g:Option Nat)(cs:List AV)(off:Nat):Option AV:=
 match g with
 |some n=>if off+n≤cs.length then some (.agg ((cs.drop off).take n)) else none
 |none=>cs[off]?
def pw(g:Option Nat)(H:List ab):AV→Option AV
 |.ptr id off=>match H[id]? with
  |some (.cells cs _)=>cD g cs off
  |_=>none
 |.vptr _ rows i off=>match rows[i]? with
  |some r=>cD g r off
  |none=>none
 |_=>none
def HB(sz:Nat)(H:List ab)(x v:AV):Option (List ab):=
 match x,gq v with
 |.ptr id off,some cs=>match H[id]? with
  |some (.cells old T)=>if cs.length=sz∧off+sz≤old.length∧cs.all AV.cell=true then some (H.set id (.cells (aO old off cs) T)) else none
  |_=>none
 |_,_=>none
def rar(op:BinOp)(x y:AV):Option AV:=
 match x,y with
 |.int k m,.int k' n=>if k=k' then rO op k m n else none
 |.str s,.str u=>rP op s u
 |_,_=>none
def rsh(op:BinOp)(x y:AV):Option AV:=
 match x,y with
 |.int k m,.int _ n=>JK op k m n
 |_,_=>none
def ran(x y:AV):Option AV:=
 match x,y with
 |.int k m,.int k' n=>if k=k' then some (.int k (k.wrap (BitVec.ofInt k.bits m &&& ~~~ BitVec.ofInt k.bits n).toNat)) else none
 |_,_=>none
def Ea(k:CK)(x y:AV):Option Bool:=
 match k,x,y with
 |.bool,.bool a,.bool b=>some (a == b)
 |.int _,.int k a,.int k' b=>if k=k' then some (a == b) else none
 |.str,.str a,.str b=>some (a == b)
 |_,_,_=>none
def vK(xs ys:List AV):List (Nat×CK)→Option Bool
 |[]=>some true
 |(o,k)::fs=>
  match xs[o]?,ys[o]? with
  |some x,some y=>match Ea k x y with
   |some true=>vK xs ys fs
   |some false=>some false
   |none=>none
  |_,_=>none
def req(k:EK)(x y:AV):Option Bool:=
 match k,x,y with
 |.bool,.bool a,.bool b=>some (a == b)
 |.ptr,.nilp,.nilp=>some true
 |.ptr,.nilp,.ptr _ _=>some false
 |.ptr,.ptr _ _,.nilp=>some false
 |.ptr,.nilp,.vptr .. => some false
 |.ptr,.vptr ..,.nilp=>some false
 |.ptr,.ptr i o,.ptr j p=>if i=j then some (o == p) else none
 |.fn,.nilfn,.nilfn=>some true
 |.fn,.nilfn,.fn .. => some false
 |.fn,.fn ..,.nilfn=>some false
 |.ifc c,.nilif,.nilif=>if c then some true else none
 |.ifc _,.nilif,.iface _ _=>some false
 |.ifc _,.iface _ _,.nilif=>some false
 |.st fs,.agg xs,.agg ys=>vK xs ys fs
 |.sl,x,y=>Is x y
 |_,_,_=>none
def rfa(o:Nat)(x:AV):Option AV:=
 match x with
 |.ptr id off=>some (.ptr id (off+o))
 |.vptr esz rows i off=>some (.vptr esz rows i (off+o))
 |_=>none
def rfd(g:Option Nat)(o:Nat)(x:AV):Option AV:=
 match x with
 |.agg cs=>cD g cs o
 |_=>none
def A8(sz:Nat)(x ix:AV):Option AV:=
 match x,ix with
 |.slice _ esz rows,.int _ n=>if sz=esz∧0≤n∧n<rows.length then some (.vptr esz rows n.toNat 0) else none
 |.rslice id off len esz _,.int _ n=>if sz=esz∧0≤n∧n<len then some (.ptr id (off+n.toNat*esz)) else none
 |_,_=>none
def V3(len sz:Nat)(x ix:AV):Option AV:=
 match x,ix with
 |.ptr id off,.int _ n=>if 0≤n∧n<len then some (.ptr id (off+n.toNat*sz)) else none
 |.vptr esz rows i off,.int _ n=>if 0≤n∧n<len then some (.vptr esz rows i (off+n.toNat*sz)) else none
 |_,_=>none
def N9(x ix:AV):Option AV:=
 match x,ix with
 |.str s,.int _ n=>if 0≤n then (match s[n.toNat]? with | some b=>some (.int .u8 b.toNat) | none=>none) else none
 |_,_=>none
def V4(len:Nat)(g:Option Nat)(sz:Nat)(x ix:AV):Option AV:=
 match x,ix with
 |.agg cs,.int _ n=>if 0≤n∧n<len then cD g cs (n.toNat*sz) else none
 |_,_=>none
def Ng(x:AV)(lo hi:Option AV):Option AV:=
 match x with
 |.str s=>match fm lo 0,fm hi s.length with
  |some l,some h=>if l≤h∧h≤s.length then some (.str ((s.drop l).take (h-l))) else none
  |_,_=>none
 |_=>none
def Cf(sz:Nat)(x:AV)(lo hi mx:Option AV):Option AV:=
 match x with
 |.slice tag esz rows=>match fm lo 0,fm hi rows.length,fm mx rows.length with
  |some l,some h,some m=>
   if sz=esz∧l≤h∧h≤m∧m≤rows.length then some (.slice (if rows.isEmpty=true∧tag = .nil∧mx.isNone=true then .nil else if mx.isSome=true∧m=h then .full else .any) esz ((rows.drop l).take (h-l))) else none
  |_,_,_=>none
 |.rslice id off len esz room=>match fm lo 0,fm hi len,mx with
  |some l,some h,none=>if sz=esz∧(l<h∨(l=0∧h=0))∧h≤len then some (.rslice id (off+l*esz) (h-l) esz room) else if sz=esz∧l=h∧h≤len then some (.slice .any esz []) else none
  |_,_,_=>none
 |_=>none
def V5(n sz:Nat)(x:AV)(lo hi:Option AV):Option AV:=
 match x with
 |.ptr id off=>match fm lo 0,fm hi n with
  |some l,some h=>if l<h∧h≤n then some (.rslice id (off+l*sz) (h-l) sz false) else none
  |_,_=>none
 |_=>none
def V6(k:IntKind)(x:AV):Option AV:=
 match x with
 |.int _ n=>some (.int k (k.wrap n))
 |_=>none
def V7(x:AV):Option AV:=
 match x with
 |.int _ n=>some (.str (Utf8.encode n).data.toList)
 |.str s=>some (.str s)
 |_=>none
def Oa(H:List ab)(x:AV):Option AV:=
 match x with
 |.slice _ _ rows=>(qH rows).map .str
 |.rslice id off len 1 _=>match H[id]? with
  |some (.cells cs _)=>if off+len≤cs.length then (Ft ((cs.drop off).take len)).map .str else none
  |_=>none
 |_=>none
def SZ(x:AV):Option AV:=
 match x with
 |.str s=>some (.slice .any 1 (s.map fun b=>[.int .u8 b.toNat]))
 |_=>none
def rta(T:TypeId)(z:Option AV)(ok:Bool)(x:AV):Option AV:=
 match x with
 |.iface t v=>if t=T then some (if ok then .tuple [v,.bool true] else v) else if ok then z.map fun z=>.tuple [z,.bool false] else none
 |.nilif=>if ok then z.map fun z=>.tuple [z,.bool false] else none
 |_=>none
def rms(H:List ab)(e:TypeId)(bytes:Nat)(cs:List AV)(l c:AV):Option (AV×List ab):=
 match l,c with
 |.int _ l,.int _ c=>if 0≤l∧l≤c∧c.toNat*bytes≤140737488355328∧c≤4611686018427387904 then
   some (.rslice H.length 0 l.toNat cs.length true,H++[.cells (List.replicate c.toNat cs).flatten e])
  else none
 |_,_=>none
def Q0(k:CK)(v:AV):Bool:=
 match k,v with
 |.int k,.int k' _=>k'=k
 |.str,.str _=>true
 |.bool,.bool _=>true
 |_,_=>false
def rlk(H:List ab)(k:CK)(z:Option AV)(ok:Bool)(x kv:AV):Option AV:=
 if Q0 k kv=true then
  match Hy H x with
  |some es=>match vR kv es 0 with
   |some (some (_,v))=>some (if ok then .tuple [v,.bool true] else v)
   |some none=>z.map fun z=>if ok then .tuple [z,.bool false] else z
   |none=>none
  |none=>none
 else none
def rmu(H:List ab)(kk:CK)(m k v:AV):Option (List ab):=
 match m with
 |.map id=>
  if Q0 kk k=true then
   match H[id]? with
   |some (.map es)=>match vR k es 0 with
    |some (some (i,_))=>some (H.set id (.map (es.set i (k,v))))
    |some none=>some (H.set id (.map (es++[(k,v)])))
    |none=>none
   |_=>none
  else none
 |_=>none
def rrg(H:List ab)(x:AV):Option (AV×List ab):=
 match x with
 |.str s=>some (.ptr H.length 0,H++[.siter s 0])
 |_=>none
def A9(H:List ab)(k:LK)(x:AV):Option AV:=
 match k,x with
 |.str,.str s=>some (.int .i64 s.length)
 |.sl,.slice _ _ rows=>some (.int .i64 rows.length)
 |.sl,.rslice _ _ len _ _=>some (.int .i64 len)
 |.mp,.nilmap=>some (.int .i64 0)
 |.mp,.map id=>match H[id]? with
  |some (.map es)=>some (.int .i64 es.length)
  |_=>none
 |_,_=>none
def Ob(x:AV):Option AV:=
 match x with
 |.slice .full _ rows=>some (.int .i64 rows.length)
 |.slice .nil _ rows=>some (.int .i64 rows.length)
 |_=>none
def Cg(H:List ab)(sz:Nat)(str:Bool)(x:AV):Option (List (List AV)):=
 match str,x with
 |false,.slice _ esz rows=>if rows=[]∨esz=sz then some rows else none
 |true,.str s=>if sz=1 then some (s.map fun b=>[.int .u8 b.toNat]) else none
 |false,.rslice id off len esz _=>match H[id]? with
  |some (.cells cs _)=>if esz=sz∧off+len*esz≤cs.length then some (kS esz len (cs.drop off)) else none
  |_=>none
 |_,_=>none
def nV(sz:Nat)(new:List (List AV)):Bool:=new.all (fun r=>r.length == sz&&r.all AV.cell)
def C8(H:List ab)(e:TypeId)(sz bytes:Nat)(str:Bool)(s x:AV):Option (AV×List ab):=
 match Cg H sz str x with
 |some new=>match s with
  |.slice tag esz rows=>
   if (rows=[]∨esz=sz)∧(rows.length+new.length)*bytes≤140737488355328∧rows.length+new.length≤4611686018427387904∧nV sz new=true then
    match new with
    |[]=>some (s,H)
    |_::_=>match tag with
     |.any=>none
     |.full=>some (.slice (.own H.length) sz (rows++new.map (·.map AV.strip)),H++[.tok ((rows.length+new.length)*sz) e])
     |.nil=>some (.slice (.own H.length) sz (rows++new.map (·.map AV.strip)),H++[.tok ((rows.length+new.length)*sz) e])
     |.own t=>match H[t]? with
      |some (.tok fr T)=>if fr=rows.length*sz∧esz=sz∧T=e then some (.slice (.own t) sz (rows++new.map (·.map AV.strip)),H.set t (.tok (fr+new.length*sz) T)) else none
      |_=>none
   else none
  |_=>none
 |none=>none
def Gv(H:List ab)(e:TypeId)(sz bytes:Nat)(str:Bool)(s x:AV):Option (AV×List ab):=
 match Cg H sz str x with
 |some new=>
  if nV sz new=true then
   match s with
   |.slice .full esz rows=>
    if (rows=[]∨esz=sz)∧(rows.length+new.length)*bytes≤140737488355328∧rows.length+new.length≤4611686018427387904∧new≠[] then
     some (.rslice H.length 0 (rows.length+new.length) sz true,H++[.cells (rows++new).flatten e])
    else if new=[] then some (s,H) else none
   |.rslice id 0 len esz true=>match H[id]? with
    |some (.cells cs T)=>
     if esz=sz∧T=e∧len*esz≤cs.length∧(len+new.length)*bytes≤140737488355328∧len+new.length≤4611686018427387904 then
      some (.rslice H.length 0 (len+new.length) esz true,H.set id .dead++[.cells (cs.take (len*esz)++new.flatten) e])
     else none
    |_=>none
   |_=>none
  else none
 |none=>none
def rcp(H:List ab)(sz:Nat)(str:Bool)(d s:AV):Option (AV×List ab):=
 match d,Cg H sz str s with
 |.rslice id off len esz _,some rows=>match H[id]? with
  |some (.cells cs T)=>
   if esz=sz∧off+len*esz≤cs.length∧rows.length≤len∧nV sz rows=true then
    some (.int .i64 rows.length,H.set id (.cells (aO cs off rows.flatten) T))
   else none
  |_=>none
 |_,_=>none
def rap(m:Bool)(H:List ab)(e:TypeId)(sz bytes:Nat)(str:Bool)(s x:AV):Option (AV×List ab):=
 match m,s with
 |false,.rslice id 0 0 esz true=>match H[id]? with
  |some (.cells _ T)=>C8 (H.set id (.tok 0 T)) e sz bytes str (.slice (.own id) esz []) x
  |_=>none
 |_,.rslice .. => Gv H e sz bytes str s x
 |true,.slice .full _ _=>Gv H e sz bytes str s x
 |true,.slice .nil esz rows=>Gv H e sz bytes str (.slice .full esz rows) x
 |_,_=>C8 H e sz bytes str s x
def cB(H:List ab)(x:Option AV):Option (AV×List ab):=
 match x with
 |some v=>some (v,H)
 |none=>none
def E6(x:Option (List ab)):Option (AV×List ab):=
 match x with
 |some H=>some (iY,H)
 |none=>none
def RF(x:AV):Option AV:=
 match x with
 |.slice (.own t) 1 rows=>if Jz rows=true then some (.sdp t rows) else none
 |.slice .nil _ []=>some (.sdp 0 [])
 |_=>none
def Nh(H:List ab)(e:TypeId)(x n:AV):Option AV:=
 match x,n with
 |.sdp _ [],.int .i64 n=>if n=0 then some (.str []) else none
 |.sdp t (r::rows),.int .i64 n=>match H[t]?,qH (r::rows) with
  |some (.tok fr T),some bs=>if T=e∧n=bs.length∧bs.length≤fr∧bs.length≤9223372036854775807∧D9 (r::rows)=true then some (.str bs) else none
  |_,_=>none
 |_,_=>none
def PS(H:List ab)(x:AV):Option AV:=
 match x with
 |.ptr id off=>match H[id]? with
  |some (.cells cs _)=>if off<cs.length then some (.ptr id off) else none
  |_=>none
 |_=>none
def PT(H:List ab)(u:TypeId)(sz:Nat)(x:AV):Option AV:=
 match x with
 |.ptr id 0=>match H[id]? with
  |some (.cells cs T)=>if T=u∧sz≤cs.length then some (.ptr id 0) else none
  |_=>none
 |_=>none
def PU(H:List ab)(e:TypeId)(sz bytes:Nat)(z:List AV)(s n:AV):Option (AV×List ab):=
 match s,n with
 |.slice .nil esz [],.int .i64 n=>
  if n=0 then some (.slice .nil esz [],H)
  else if 0<n∧n.toNat*bytes≤140737488355328∧n≤4611686018427387904 then some (.rslice H.length 0 n.toNat sz true,H++[.cells (List.replicate n.toNat z).flatten e])
  else none
 |_,_=>none
def rcl(H:List ab)(sz:Nat)(z:List AV)(x:AV):Option (List ab):=
 match x with
 |.slice _ _ []=>some H
 |.rslice id off len esz _=>match H[id]? with
  |some (.cells cs T)=>if esz=sz∧off+len*esz≤cs.length then some (H.set id (.cells (aO cs off (List.replicate len z).flatten) T)) else none
  |_=>none
 |_=>none
def rop(a:Env)(H:List ab):ROp→Option (AV×List ab)
 |.mv x=>some (rx a x,H)
 |.pk c x y=>match rx a c with
  |.bool b=>some (if b then rx a x else rx a y,H)
  |_=>none
 |.nw cs e=>some (.ptr H.length 0,H++[.cells cs e])
 |.bx e x=>match gq (rx a x) with
  |some cs=>some (.ptr H.length 0,H++[.cells cs e])
  |none=>none
 |.bd z pl ps=>cB H ((pG (pl[·]?) z (ps.map fun p=>(p.1,rx a p.2))).map .agg)
 |.bs sz z len ps=>cB H ((pG (fun i=>some (i*sz,sz)) (Gk len z) (ps.map fun p=>(p.1,rx a p.2))).map fun cs=>.slice .full sz (yh sz len (cs.map AV.strip)))
 |.ld g x=>cB H (pw g H (rx a x))
 |.st sz x v=>E6 (HB sz H (rx a x) (rx a v))
 |.nc x=>match rx a x with
  |.ptr i o=>some (.ptr i o,H)
  |.vptr e r i o=>some (.vptr e r i o,H)
  |.fn (.func f) x y=>some (.fn (.func f) x y,H)
  |_=>none
 |.ar op x y=>cB H (rar op (rx a x) (rx a y))
 |.sh op x y=>cB H (rsh op (rx a x) (rx a y))
 |.an x y=>cB H (ran (rx a x) (rx a y))
 |.eq neg k x y=>cB H ((req k (rx a x) (rx a y)).map fun b=>.bool (if neg then !b else b))
 |.un op x=>cB H (L9 op (rx a x))
 |.cvi k x=>cB H (V6 k (rx a x))
 |.cvs x=>cB H (V7 (rx a x))
 |.cvbs x=>cB H (Oa H (rx a x))
 |.cvsb x=>cB H (SZ (rx a x))
 |.mi t x=>some (.iface t (rx a x),H)
 |.ta T z ok x=>cB H (rta T z ok (rx a x))
 |.mf f xs ys=>some (.fn f (xs.map (rx a)) (ys.map (rx a)),H)
 |.sls x l h=>cB H (Ng (rx a x) (l.map (rx a)) (h.map (rx a)))
 |.sll sz x l h m=>cB H (Cf sz (rx a x) (l.map (rx a)) (h.map (rx a)) (m.map (rx a)))
 |.sla n sz x l h=>cB H (V5 n sz (rx a x) (l.map (rx a)) (h.map (rx a)))
 |.fa o x=>cB H (rfa o (rx a x))
 |.fd g o x=>cB H (rfd g o (rx a x))
 |.ias sz x i=>cB H (A8 sz (rx a x) (rx a i))
 |.iaa n sz x i=>cB H (V3 n sz (rx a x) (rx a i))
 |.ixs x i=>cB H (N9 (rx a x) (rx a i))
 |.ixa n g sz x i=>cB H (V4 n g sz (rx a x) (rx a i))
 |.ex x i=>cB H (tV (rx a x) i)
 |.mm=>some (.map H.length,H++[.map []])
 |.ms e bytes cs l c=>rms H e bytes cs (rx a l) (rx a c)
 |.mu kk m k v=>E6 (rmu H kk (rx a m) (rx a k) (rx a v))
 |.lk kk z ok x k=>cB H (rlk H kk z ok (rx a x) (rx a k))
 |.rg x=>rrg H (rx a x)
 |.nx x=>N6 H (rx a x)
 |.len k x=>cB H (A9 H k (rx a x))
 |.cap x=>cB H (Ob (rx a x))
 |.ap m e sz bytes str s x=>rap m H e sz bytes str (rx a s) (rx a x)
 |.cp sz str d s=>rcp H sz str (rx a d) (rx a s)
 |.mx x y=>cB H (N0 (rx a x) (rx a y))
 |.mn x y=>cB H (N1 (rx a x) (rx a y))
 |.nwb cs e j T=>some (.ptr (H.length+1) 0,H++[.tok 0 T,.cells (cs.set j (.slice (.own H.length) 1 [])) e])
 |.usl x=>cB H (RF (rx a x))
 |.ust e x n=>cB H (Nh H e (rx a x) (rx a n))
 |.cvu x=>cB H (PS H (rx a x))
 |.cvf u sz x=>cB H (PT H u sz (rx a x))
 |.apz e sz bytes z s n=>PU H e sz bytes z (rx a s) (rx a n)
 |.cl sz z x=>E6 (rcl H sz z (rx a x))
section
variable{P:Program}{K:aJ}{H:List ab}{w:World}
theorem JS{z:Value}{cs:List AV}{size:Nat}(hcs:gq (kn z)=some cs)(h5:cs.length=size)(n:Nat):p9 K size (List.replicate n cs) (Builtin.zeroCells z.cells n).toList:=by
 have hvs:Vs K cs z.cells:=(p6 K z).cells hcs
 have hzs:z.cells.size=size:=by rw [← hvs.size];exact h5
 refine ⟨fun r hr=>by rw [(List.mem_replicate.1 hr).2];exact h5,by simp [size_zeroCells,hzs],fun i j r av h1 h2 => ?_⟩
 obtain rfl:r=cs:=(List.mem_replicate.1 (List.mem_of_getElem? h1)).2
 have hj:j<size:=by rw [← h5];exact (List.getElem?_eq_some_iff.1 h2).1
 have hi:i<n:=by have:=(List.getElem?_eq_some_iff.1 h1).1;simpa using this
 obtain ⟨x,x1,x2⟩:=hvs.get h2
 have hlt:i*size+j<n*size:=by
  have:(i+1)*size≤n*size:=Nat.mul_le_mul_right _ hi
  rw [Nat.add_mul] at this;omega
 refine ⟨x, ?_,x2⟩
 simp only [Builtin.zeroCells,hzs,Array.toList_map,List.getElem?_map,Array.getElem?_toList,Array.getElem?_range,hlt,if_true,Option.map_some]
 rw [Nat.mul_comm,Nat.mul_add_mod,Nat.mod_eq_of_lt hj,getElem!_def,x1]
theorem PV(hi:Inv K H w){t u e:TypeId}{k:IntKind}{i:TypeInfo}{zv:Value}{z:List AV}(ht:P.underlying t=some (.slice e))(hu:P.underlying u=some (.int k))(hinfo:P.info? e=some i)
  (hz:i.zero=some zv) (hcs:gq (kn zv)=some z) (h5:z.length=i.size) {s x v:AV}{cs cx:Value}{H':List ab} (hs:V K s cs) (hx:V K x cx) (h:PU H e i.size i.bytes z s x=some (v,H')) (ty:TypeId) :
  ∃ K' cv w',K.le K'∧(Builtin.append_ #[t,u] ty #[cs,cx]).run P w = .ok cv w'∧V K' v cv∧Inv K' H' w':=by
 unfold PU at h
 split at h<;>try (cases h;done)
 rename_i esz n
 obtain rfl:cs = .slice none 0 0:=by
  cases hs with
  |slice0 _ _ a ha=>rw [ha.2 rfl]
  |slice _ _ _ b o cap vs hl him hv hcap ht=>exact (ht:False).elim
 cases hx
 split at h
 ·rename_i h0
  subst h0
  cases h
  refine ⟨K,.slice none 0 0,w,.refl K, ?_,.slice0 _ _ _ ⟨fun _ e=>(by cases e),fun _=>rfl⟩,hi⟩
  have w0:IntKind.i64.wrap 0=0:=by decide
  simp [Builtin.append_,run_underlying' ht,run_underlying' hu,sizeOf,typeInfo,hinfo,asInt,asIntOf,w0]
 ·split at h
  ·rename_i hc
   obtain ⟨h1,h2,h3⟩:=hc
   cases h
   obtain ⟨m,rfl⟩:∃ m:Nat,n=(m:Int):=⟨n.toNat,by omega⟩
   simp only [Int.toNat_natCast] at h2
   have w0:IntKind.i64.wrap (m:Int)=m:=IntWalk.i64_in _ ⟨by omega,by omega⟩
   have hm:0<m:=by omega
   have hf:=JS (K:=K) hcs h5 m
   obtain ⟨hfl,hfc⟩:=hf.cells
   have hvs:Vs K z zv.cells:=(p6 K zv).cells hcs
   have hzs:zv.cells.size=i.size:=by rw [← hvs.size];exact h5
   have hns:Builtin.nextslicecap m 0=m:=by unfold Builtin.nextslicecap;simp;omega
   have hg:(Builtin.append_ #[t,u] ty #[.slice none 0 0,.int .i64 m]).run P w = .ok (.slice (some ⟨w.heap.size,0,none⟩) m (grownCap w m 0 e)) (w.drew.alloc (.cells (Builtin.zeroCells zv.cells m++Builtin.zeroCells zv.cells (grownCap w m 0 e-m)) e)):=by
    have e1:¬ (281474976710656<m*i.bytes):=by omega
    have e2:¬ (281474976710656<(m:Int)*(i.bytes:Int)):=by omega
    have e3:¬ (9223372036854775807<(m:Int)):=by omega
    have e4:¬ ((m:Int)<0):=by omega
    by_cases hsz:i.size=0
    ·have:Builtin.zeroCells zv.cells m = #[]:=by apply Array.eq_empty_of_size_eq_zero;simp [size_zeroCells,hzs,hsz]
     simp [Builtin.append_,run_underlying' ht,run_underlying' hu,sizeOf,typeInfo,zeroValue,hinfo,hz,asInt,asIntOf,w0,e1,e2,e3,e4,hns,Question.forced,newRow,grownCap,Builtin.firstCells,hsz,this,Nat.ne_of_gt hm]
    ·simp [Builtin.append_,run_underlying' ht,run_underlying' hu,sizeOf,typeInfo,zeroValue,hinfo,hz,asInt,asIntOf,w0,e1,e2,e3,e4,hns,Question.forced,newRow,grownCap,Builtin.firstCells,hsz,Nat.ne_of_gt hm]
     intro h;rcases Nat.mul_eq_zero.1 h with h | h<;>omega
   generalize hC:grownCap w m 0 e=C at hg
   have hC2:m≤C:=by rw [← hC];have:=ve w m 0 e;exact this
   have hsz2:(Builtin.zeroCells zv.cells m++Builtin.zeroCells zv.cells (C-m)).size=C*i.size:=by
    rw [Array.size_append,size_zeroCells,size_zeroCells,hzs,← Nat.add_mul];congr 1;omega
   have hgetm:∀ k,k<m*i.size→(Builtin.zeroCells zv.cells m++Builtin.zeroCells zv.cells (C-m))[k]?=(Builtin.zeroCells zv.cells m)[k]? := fun k hk=>by
    rw [Array.getElem?_append_left (by rw [size_zeroCells,hzs];exact hk)]
   generalize hvs2:Builtin.zeroCells zv.cells m++Builtin.zeroCells zv.cells (C-m)=vs at hg hsz2 hgetm
   have hi2:=hi.drew
   have hflat:(List.replicate m z).flatten.length=m*i.size:=by rw [hfl];simp [size_zeroCells,hzs]
   have hal:=hi2.allocObj (.cells (List.replicate m z).flatten e) (.cells vs e) rfl (some (.rows vs.size)) (fun s h=>by cases h;exact ⟨vs,e,(0,0),by rw [heap_alloc,if_pos rfl],rfl⟩) fun w' hw' g1 g2=>
    ⟨w.drew.heap.size,vs,e,by simp [aJ.pushS],hi2.new,hw',by rw [hflat,hsz2];exact Nat.mul_le_mul_right _ hC2,fun k av hk=>by
     obtain ⟨v,e1,e2⟩:=hfc k av hk
     have hkl:k<m*i.size:=by rw [← hflat];exact (List.getElem?_eq_some_iff.1 hk).1
     have:vs[k]?=some v:=by rw [hgetm k hkl];simpa using e1
     rw [oO this];exact e2.mono (K.le_pushS _ _ hi2.shape_base),g1,g2,by simp [aJ.pushS],rfl⟩
   refine ⟨K.pushS w.drew.heap.size (some (.rows vs.size)),_,_,K.le_pushS _ _ hi2.shape_base,hg, ?_,by simpa using hal⟩
   refine .rslice _ _ _ _ _ _ _ (by simp [aJ.pushS,← hi.len]) (by omega) (fun _=>⟨vs.size,by simp [aJ.pushS],by rw [hsz2];omega⟩)
  ·cases h
theorem RG(hi:Inv K H w){t e:TypeId}{i:TypeInfo}{zv:Value}{z:List AV}(ht:P.underlying t=some (.slice e))(hinfo:P.info? e=some i)
  (hz:i.zero=some zv) (hcs:gq (kn zv)=some z) (h5:z.length=i.size) (hzc:z.all AV.cell=true) {x:AV}{cx:Value}{H':List ab} (hx:V K x cx) (h:rcl H i.size z x=some H') (ty:TypeId) :
  ∃ w',(Builtin.clear_ #[t] ty #[cx]).run P w = .ok (.tuple #[]) w'∧Inv K H' w':=by
 unfold rcl at h
 split at h
 ·cases h
  refine ⟨w, ?_,hi⟩
  cases hx with
  |slice0=>cases ‹Option Addr› <;> simp [Builtin.clear_,run_underlying' ht]
  |sliceAny _ a cap=>cases a<;>simp [Builtin.clear_,run_underlying' ht]
  |slice=>simp [Builtin.clear_,run_underlying' ht]
 ·rename_i id off len esz room
  split at h<;>try (cases h;done)
  rename_i old T hold
  split at h<;>try (cases h;done)
  rename_i hc
  obtain ⟨rfl,h1⟩:=hc
  cases h
  cases hx with
  |rslice _ _ _ _ _ b cap hb hcap hro=>
  have hf:=JS (K:=K) hcs h5 len
  obtain ⟨hfl,hfc⟩:=hf.cells
  obtain ⟨b',vs,T',g1,g2,g3,g4,g5,g6,g7,g8⟩:=hi.obj id _ hold
  rw [hb] at g1;cases g1
  have hflat:(List.replicate len z).flatten.length=len*i.size:=by rw [List.length_flatten];simp [h5]
  cases len with
  |zero=>
   refine ⟨w, ?_, ?_⟩
   ·simp [Builtin.clear_,run_underlying' ht]
   ·simp only [List.replicate_zero,List.flatten_nil,aO]
    rw [zE hold];exact hi
  |succ len=>
   have hst:=run_storeCells_cells (P:=P) b off (Builtin.zeroCells zv.cells (len+1)).toList 0 w (fun j hj=>by
    rw [Nat.add_zero,cell_of_heap g3]
    have:j<(len+1)*i.size:=by rw [← hflat,hfl];exact hj
    have h2:off+j<vs.size:=by omega
    simp [h2]) (fun j hj=>by simp [World.frozen?,g3]) (hf.one fun r hr=>by rw [(List.mem_replicate.1 hr).2];exact hzc)
   refine ⟨w.setCells b off (Builtin.zeroCells zv.cells (len+1)).toList, ?_, ?_⟩
   ·simp only [Nat.add_zero] at hst
    simp [Builtin.clear_,run_underlying' ht,zeroValue,typeInfo,hinfo,hz,hst]
   ·refine Inv.stores hb _ _ off H w old T hi hold hfl (by rw [hflat];exact h1) hfc
 ·cases h
end
section
variable(P:Program)(G:Nat→Option (List AV))
def Q1(t:TypeId)(v:AV):AV:=
 match v with
 |.slice .nil 0 []=>match P.underlying t with
  |some (.slice e)=>.slice .nil ((iN P e).getD 0) []
  |_=>v
 |_=>v
def rS:List TypeId→List AV→List AV
 |_,[]=>[]
 |[],v::l=>v::rS [] l
 |t::ts,v::l=>Q1 P t v::rS ts l
def Gw:Nat→TypeId→List TypeId
 |0,t=>[t]
 |n+1,t=>match P.underlying t with
  |some (.struct fields)=>(fields.toList.map fun f=>Gw n f.type).flatten
  |some (.array k e)=>(List.replicate k (Gw n e)).flatten
  |_=>[t]
def Ni(t:TypeId):Option (List AV):=(E2 P t).map (rS P (Gw P 20 t))
def cx0:Operand→RX
 |.tmp n=>.t n
 |.const v=>.c (kn v)
 |.global g=>.c (match G g with
  |some cs=>.vptr cs.length [cs] 0 0
  |none=>.unk)
 |.func f=>.c (.fn (.func f) [] [])
def cx(t:TypeId)(x:Operand):RX:=
 match cx0 G x with
 |.c v=>.c (Q1 P t v)
 |r=>r
def PW(t:TypeId):Option (Option Nat):=
 match NU P t,iN P t with
 |some true,some n=>some (some n)
 |some false,some _=>some none
 |_,_=>none
def cck(t:TypeId):CK:=
 match P.underlying t with
 |some .bool=>.bool
 |some (.int k)=>.int k
 |some .string=>.str
 |_=>.bad
def cek(t:TypeId)(c:Bool):EK:=
 match P.underlying t with
 |some .bool=>.bool
 |some (.pointer e)=>match iN P e with
  |some (_+1)=>.ptr
  |_=>.bad
 |some (.func ..)=>.fn
 |some (.interface _)=>.ifc c
 |some (.struct fields)=>if P.eqGuardType P.depth t=false∧P.stoodInHeld t=false then .st (fields.toList.map fun f=>(f.offset,if f.name = "_" then .bad else cck P f.type)) else .bad
 |some (.slice _)=>.sl
 |_=>.bad
def WX(e:TypeId):Option (Nat×TypeId):=
 match P.info? e with
 |some i=>if i.str == "strings.Builder" then (match (Gw P 20 e)[1]? with
   |some t=>match P.underlying t with
    |some (.slice b)=>some (1,b)
    |_=>none
   |none=>none)
  else match P.underlying e with
   |some (.struct fields)=>(fields.toList.findSome? fun f=>match P.info? f.type with
    |some j=>if j.str == "strings.Builder" then (match (Gw P 20 f.type)[1]? with
      |some t=>match P.underlying t with
       |some (.slice b)=>some (f.offset+1,b)
       |_=>none
      |none=>none) else none
    |none=>none)
   |_=>none
 |none=>none
def cOp(m:Bool)(ty:TypeId)(op:Op):Option ROp:=
 match op with
 |.move x=>some (.mv (cx P G ty x))
 |.assign x=>some (.mv (cx P G ty x))
 |.pick c x y=>some (.pk (cx0 G c) (cx P G ty x) (cx P G ty y))
 |.alloc e=>match Ni P e with
  |some cs=>match WX P e with
   |some (j,T)=>if m=true then some (.nw cs e) else if cs[j]? matches some (.slice .nil _ []) then some (.nwb cs e j T) else some (.nw cs e)
   |none=>some (.nw cs e)
  |none=>none
 |.box e x=>some (.bx e (cx P G e x))
 |.build t ps=>match Ni P t,M6 P t,P.underlying t with
  |some z,some pl,some (.struct fields)=>some (.bd z pl.toList (ps.toList.map fun p=>(p.1,match fields[p.1]? with | some f=>cx P G f.type p.2 | none=>cx0 G p.2)))
  |_,_,_=>none
 |.buildSlice t l ps=>match P.underlying t with
  |some (.slice e)=>match iN P e,E2 P e with
   |some sz,some z=>if l*sz≤16777216∧z.length=sz then some (.bs sz z l (ps.toList.map fun p=>(p.1,cx P G e p.2))) else none
   |_,_=>none
  |_=>none
 |.load t x=>match PW P t with
  |some g=>some (.ld g (cx0 G x))
  |none=>none
 |.store t x v=>match iN P t with
  |some n=>some (.st n (cx0 G x) (cx P G t v))
  |none=>none
 |.nilCheck x=>some (.nc (cx0 G x))
 |.binOp op t x y _=>match op with
  |.shl | .shr=>some (.sh op (cx0 G x) (cx0 G y))
  |.andNot=>some (.an (cx0 G x) (cx0 G y))
  |_=>match P.underlying t with
   |some (.int _) | some .string=>some (.ar op (cx0 G x) (cx0 G y))
   |_=>match op with
    |.eql=>some (.eq false (cek P t (lB x||lB y)) (cx0 G x) (cx0 G y))
    |.neq=>some (.eq true (cek P t (lB x||lB y)) (cx0 G x) (cx0 G y))
    |_=>none
 |.unOp op _ x=>some (.un op (cx0 G x))
 |.convert s d x=>match P.underlying s,P.underlying d with
  |some (.slice e),some .string=>match P.underlying e with
   |some (.int .u8)=>some (.cvbs (cx0 G x))
   |_=>none
  |some .string,some (.slice e)=>match P.underlying e with
   |some (.int .u8)=>some (.cvsb (cx0 G x))
   |_=>none
  |some (.slice _),_=>none
  |some _,some (.int k)=>some (.cvi k (cx0 G x))
  |some _,some .string=>some (.cvs (cx0 G x))
  |some (.pointer t),some .unsafePointer=>match P.info? t with
   |some j=>if j.size=0 then none else some (.cvu (cx0 G x))
   |none=>none
  |some .unsafePointer,some (.pointer u)=>match P.info? u with
   |some j=>if j.size=0∨P.cellsOf u=0 then none else some (.cvf u (P.cellsOf u) (cx0 G x))
   |none=>none
  |_,_=>none
 |.makeInterface t x=>match P.underlying t with
  |some (.interface _)=>none
  |some _=>some (.mi t (cx P G t x))
  |none=>none
 |.makeFunc f x y=>some (.mf f (x.toList.map (cx0 G)) (y.toList.map (cx0 G)))
 |.slice t x l h m=>if m.isNone=true∨h.isSome=true then
   match P.underlying t with
   |some .string=>if m.isNone=true then some (.sls (cx0 G x) (l.map (cx0 G)) (h.map (cx0 G))) else none
   |some (.slice e)=>match iN P e with
    |some sz=>some (.sll sz (cx P G t x) (l.map (cx0 G)) (h.map (cx0 G)) (m.map (cx0 G)))
    |none=>none
   |some (.array n e)=>if m.isNone=true then (match iN P e with
    |some sz=>some (.sla n sz (cx0 G x) (l.map (cx0 G)) (h.map (cx0 G)))
    |none=>none) else none
   |_=>none
  else none
 |.fieldAddr s x f=>match Hw P s f with
  |some (t,o)=>match iN P t with
   |some (_+1)=>some (.fa o (cx0 G x))
   |_=>none
  |none=>none
 |.field s x f=>match Hw P s f with
  |some (t,o)=>match PW P t with
   |some g=>some (.fd g o (cx0 G x))
   |none=>none
  |none=>none
 |.indexAddr t x i=>match P.underlying t with
  |some (.slice e)=>match iN P e with
   |some sz=>some (.ias sz (cx0 G x) (cx0 G i))
   |none=>none
  |some (.array n e)=>match iN P e with
   |some sz=>some (.iaa n sz (cx0 G x) (cx0 G i))
   |none=>none
  |_=>none
 |.index t x i=>match P.underlying t with
  |some .string=>some (.ixs (cx0 G x) (cx0 G i))
  |some (.array n e)=>match iN P e,PW P e with
   |some sz,some g=>some (.ixa n g sz (cx0 G x) (cx0 G i))
   |_,_=>none
  |_=>none
 |.extract x i=>some (.ex (cx0 G x) i)
 |.typeAssert x _ T ok=>match P.underlying T with
  |some (.interface _)=>none
  |some _=>some (.ta T (match P.info? T with | some i=>i.zero.map kn | none=>none) ok (cx0 G x))
  |none=>none
 |.makeMap _ none=>some .mm
 |.makeSlice t l c=>match P.underlying t with
  |some (.slice e)=>match P.info? e,E2 P e with
   |some i,some cs=>if cs.length=i.size then some (.ms e i.bytes cs (cx0 G l) (cx0 G c)) else none
   |_,_=>none
  |_=>none
 |.insert t m k v=>match P.underlying t with
  |some (.map kt et)=>some (.mu (cck P kt) (cx0 G m) (cx0 G k) (cx P G et v))
  |_=>none
 |.mapUpdate t m k v=>match P.underlying t with
  |some (.map kt et)=>some (.mu (cck P kt) (cx0 G m) (cx0 G k) (cx P G et v))
  |_=>none
 |.lookup t x k ok=>match P.underlying t with
  |some (.map kt et)=>some (.lk (cck P kt) (match P.info? et with | some i=>i.zero.map kn | none=>none) ok (cx0 G x) (cx0 G k))
  |_=>none
 |.range t x=>match P.underlying t with
  |some .string=>some (.rg (cx0 G x))
  |_=>none
 |.next x true=>some (.nx (cx0 G x))
 |.call c=>match c.callee with
  |.builtin b=>match b,c.argTypes.toList,c.args.toList with
   |.len,[t],[x]=>match P.underlying t with
    |some .string=>some (.len .str (cx0 G x))
    |some (.slice _)=>some (.len .sl (cx P G t x))
    |some (.array n _)=>some (.mv (.c (.int .i64 n)))
    |some (.map _ _)=>some (.len .mp (cx0 G x))
    |_=>none
   |.cap,[t],[x]=>match P.underlying t with
    |some (.slice _)=>some (.cap (cx P G t x))
    |some (.array n _)=>some (.mv (.c (.int .i64 n)))
    |_=>none
   |.append,[t,u],[s,x]=>match P.underlying t with
    |some (.slice e)=>match P.info? e with
     |some i=>match i.zero,P.underlying u with
      |some z,some (.slice _)=>if z.cells.size=i.size then some (.ap m e i.size i.bytes false (cx P G t s) (cx P G u x)) else none
      |some z,some .string=>if z.cells.size=i.size then some (.ap m e i.size i.bytes true (cx P G t s) (cx P G u x)) else none
      |some z,some (.int _)=>match gq (kn z) with
       |some cs=>if cs.length=i.size∧cs.all AV.cell=true then some (.apz e i.size i.bytes cs (cx P G t s) (cx0 G x)) else none
       |none=>none
      |_,_=>none
     |none=>none
    |_=>none
   |.clear,[t],[x]=>match P.underlying t with
    |some (.slice e)=>match P.info? e with
     |some i=>match i.zero with
      |some z=>match gq (kn z) with
       |some cs=>if cs.length=i.size∧cs.all AV.cell=true then some (.cl i.size cs (cx P G t x)) else none
       |none=>none
      |none=>none
     |none=>none
    |_=>none
   |.copy,[t,u],[d,s]=>match P.underlying t with
    |some (.slice e)=>match iN P e,P.underlying u with
     |some sz,some (.slice _)=>some (.cp sz false (cx P G t d) (cx P G u s))
     |some sz,some .string=>some (.cp sz true (cx P G t d) (cx P G u s))
     |_,_=>none
    |_=>none
   |.unsafeSliceData,[t],[x]=>match P.underlying t,P.underlying ty with
    |some (.slice _),some (.pointer _)=>some (.usl (cx0 G x))
    |_,_=>none
   |.unsafeString,[t,_],[x,n]=>match P.underlying t with
    |some (.pointer e)=>if P.cellsOf e=1 then some (.ust e (cx0 G x) (cx0 G n)) else none
    |_=>none
   |.max,_,[x,y]=>some (.mx (cx0 G x) (cx0 G y))
   |.min,_,[x,y]=>some (.mn (cx0 G x) (cx0 G y))
   |_,_,_=>none
  |_=>none
 |_=>none
end
section
variable{P:Program}{G:Nat→Option (List AV)}{K:aJ}{N:Fr}{a:Env}{H:List ab}{act:Act}{w:World}
def Le(v v':AV):Prop:=∀ (K:aJ) (x:Value),V K v x→V K v' x
theorem Oc(t:TypeId)(v:AV):Le v (Q1 P t v):=by
 intro K x h
 unfold Q1
 split
 ·split
  ·cases h with
   |slice0 _ _ a ht=>exact .slice0 _ _ a ht
   |slice _ _ _ b o cap vs hl hi hv hc ht=>exact (ht:False).elim
  ·exact h
 ·exact h
theorem yx:∀ (ts:List TypeId) (cs:List AV),(rS P ts cs).length=cs.length
 |[],[]=>rfl
 |_::_,[]=>rfl
 |[],v::l=>by simp [rS,yx [] l]
 |t::ts,v::l=>by simp [rS,yx ts l]
theorem Fu:∀ (ts:List TypeId) (cs:List AV) (i:Nat) (v:AV),(rS P ts cs)[i]?=some v→∃ u,cs[i]?=some u∧Le u v
 |[],[],_,_,h=>by simp [rS] at h
 |_::_,[],_,_,h=>by simp [rS] at h
 |[],u::l,0,v,h=>by simp [rS] at h;subst h;exact ⟨u,rfl,fun _ _ h=>h⟩
 |t::ts,u::l,0,v,h=>by simp [rS] at h;subst h;exact ⟨u,rfl,Oc t u⟩
 |[],u::l,i+1,v,h=>by
  simp only [rS,List.getElem?_cons_succ] at h ⊢
  exact Fu [] l i v h
 |t::ts,u::l,i+1,v,h=>by
  simp only [rS,List.getElem?_cons_succ] at h ⊢
  exact Fu ts l i v h
structure LeL (xs ys:List AV):Prop where
 len:xs.length=ys.length
 at_:∀ (i:Nat) (y:AV),ys[i]?=some y→∃ x,xs[i]?=some x∧Le x y
theorem LeL.vs{xs ys:List AV}(h:LeL xs ys){vs:Array Value}(hv:Vs K xs vs):Vs K ys vs:=
 ⟨by rw [← h.len];exact hv.size,fun i av hi=>by
  obtain ⟨x,h1,h2⟩:=h.at_ i av hi
  exact h2 _ _ (hv.at_ i x h1)⟩
theorem RH(ts:List TypeId)(cs:List AV):LeL cs (rS P ts cs):=⟨(yx ts cs).symm,fun i v h=>Fu ts cs i v h⟩
theorem Gx{t:TypeId}{cs:List AV}(h:Ni P t=some cs):∃ cs0,E2 P t=some cs0∧LeL cs0 cs:=by
 unfold Ni at h
 rw [Option.map_eq_some_iff] at h
 obtain ⟨cs0,h1,rfl⟩:=h
 exact ⟨cs0,h1,RH _ _⟩
theorem Od(x:Operand):rx a (cx0 G x)=en G a x:=by
 cases x<;>rfl
theorem ri(hg:K.glob=G)(hr:Rel N K a H act w)(x:Operand):V K (rx a (cx0 G x)) (act.eval x):=by
 rw [Od];exact hr.eval hg x
theorem Oe(hg:K.glob=G)(hr:Rel N K a H act w)(t:TypeId)(x:Operand):V K (rx a (cx P G t x)) (act.eval x):=by
 have h:=ri hg hr x
 unfold cx
 split
 ·rename_i v hv
  rw [hv] at h
  exact Oc t v K _ h
 ·exact h
theorem Nj(hg:K.glob=G)(hr:Rel N K a H act w)(x:Option Operand):OV K ((x.map (cx0 G)).map (rx a)) (x.map act.eval):=by
 cases x with
 |none=>exact .none
 |some x=>exact .some _ _ (ri hg hr x)
theorem S0(hg:K.glob=G)(hr:Rel N K a H act w)(xs:Array Operand):Vs K ((xs.toList.map (cx0 G)).map (rx a)) (xs.map act.eval):=
 ⟨by simp,fun i av hi=>by
  rw [List.map_map,List.getElem?_map,Option.map_eq_some_iff] at hi
  obtain ⟨x,h1,rfl⟩:=hi
  have h2:xs[i]?=some x:=by simpa using h1
  rw [oO (v:=act.eval x) (by simp [h2])]
  exact ri hg hr x⟩
theorem cagg_load{t:TypeId}{g:Option Nat}(h:PW P t=some g)(cs:List AV)(o:Nat):CU P t cs o=cD g cs o:=by
 unfold PW at h
 unfold CU cD
 split at h
 ·rename_i n h1 h2;cases h;rw [h1,h2]
 ·rename_i n h1 h2;cases h;rw [h1,h2]
 ·cases h
theorem C9{t:TypeId}{g:Option Nat}(h:PW P t=some g)(x:AV):yg P H t x=pw g H x:=by
 have e:(fun cs o=>CU P t cs o)=cD g:=by funext cs o;exact cagg_load h cs o
 unfold yg pw
 rw [← e]
 rfl
theorem E7{t:TypeId}{x y:AV}{b:Bool}(h:Ea (cck P t) x y=some b):D5 P t x y=some b:=by
 unfold Ea cck at h
 unfold D5
 split at h<;>rename_i hc<;>(try (cases h;done))<;>split at hc<;>(try (cases hc;done))<;>rename_i hu<;>rw [hu]<;>exact h
theorem BZ {xs ys:List AV}:∀ (fs:List Field) (b:Bool),vK xs ys (fs.map fun f=>(f.offset,if f.name = "_" then .bad else cck P f.type))=some b→vI P xs ys fs=some b
 |[],_,h=>h
 |f::fs,b,h=>by
  simp only [List.map_cons,vK] at h
  unfold vI
  by_cases hn:f.name = "_"
  ·rw [if_pos hn] at h
   split at h
   ·simp [Ea] at h
   ·cases h
  ·rw [if_neg hn] at h ⊢
   split at h
   ·rename_i x y hx hy
    rw [hx,hy]
    split at h
    ·rename_i he
     simp only [E7 he]
     exact BZ fs b h
    ·rename_i he
     simp only [E7 he];exact h
    ·cases h
   ·cases h
theorem RI{t:TypeId}{c:Bool}{x y:AV}{b:Bool}(h:req (cek P t c) x y=some b):C4 P t c x y=some b∨((∀ b',C4 P t c x y≠some b')∧aeq P t x y=some b∧(∀ k m k' n,¬ (x = .int k m∧y = .int k' n))∧∀ s u,¬ (x = .str s∧y = .str u)):=by
 unfold cek at h
 split at h
 ·rename_i hu
  simp only [C4,hu]
  unfold req at h
  split at h<;>rename_i hc<;>(try (cases hc;done))<;>(try (cases h;done))
  refine .inr ⟨by simp,by simp only [aeq,hu];exact h,by simp,by simp⟩
 ·rename_i e hu
  simp only [C4,hu]
  split at h
  ·rename_i n hsz
   unfold req at h
   split at h<;>rename_i hc<;>(try (cases hc;done))<;>(try (cases h;done))<;>refine .inr ⟨by simp,by simp only [aeq,hu,hsz];exact h,by simp,by simp⟩
  ·unfold req at h
   split at h<;>rename_i hc<;>(try (cases hc;done))<;>cases h
 ·rename_i hu
  simp only [C4,hu]
  unfold req at h
  split at h<;>rename_i hc<;>(try (cases hc;done))<;>(try (cases h;done))<;>refine .inr ⟨by simp,by simp only [aeq,hu];exact h,by simp,by simp⟩
 ·rename_i hu
  simp only [C4,hu]
  unfold req at h
  split at h<;>rename_i hc<;>(try (cases hc;done))<;>(try (cases h;done))<;>first | exact .inl h | (cases hc;exact .inl h)
 ·rename_i fields hu
  simp only [C4,hu]
  split at h
  ·rename_i hg
   unfold req at h
   split at h<;>rename_i hc<;>(try (cases hc;done))<;>(try (cases h;done))
   cases hc
   refine .inr ⟨by simp, ?_,by simp,by simp⟩
   simp only [aeq,hu]
   rw [if_pos hg];exact BZ _ _ h
  ·unfold req at h
   split at h<;>rename_i hc<;>(try (cases hc;done))<;>cases h
 ·rename_i hu
  simp only [C4,hu]
  have h:Is x y=some b:=h
  obtain ⟨z1,z2⟩:=RB h
  exact .inr ⟨by simp,by simp only [aeq,hu];exact h,z1,z2⟩
 ·unfold req at h
  split at h<;>rename_i hc<;>(try (cases hc;done))<;>cases h
end
section
variable{P:Program}{G:Nat→Option (List AV)}{K:aJ}{N:Fr}{a:Env}{H:List ab}{act:Act}{w:World}
theorem bo{x:Option AV}{v:AV}{H':List ab}(h:cB H x=some (v,H')):x=some v∧H'=H:=by
 unfold cB at h
 split at h
 ·cases h;exact ⟨rfl,rfl⟩
 ·cases h
theorem vU{x:Option (List ab)}{v:AV}{H':List ab}(h:E6 x=some (v,H')):x=some H'∧v=iY:=by
 unfold E6 at h
 split at h
 ·cases h;exact ⟨rfl,rfl⟩
 ·cases h
theorem Of(ps:Array (Nat×Operand))(f:Nat×Operand→RX)(hf:∀ p,V K (rx a (f p)) (act.eval p.2))(j i:Nat)(av:AV)
  (h:((ps.toList.map fun p=>(p.1,f p)).map fun p=>(p.1,rx a p.2))[j]?=some (i,av)):∃ v,(ps.map fun (i,x)=>(i,act.eval x))[j]?=some (i,v)∧V K av v:=by
 rw [List.map_map,List.getElem?_map,Option.map_eq_some_iff] at h
 obtain ⟨p,h1,h2⟩:=h
 cases h2
 have h3:ps[j]?=some p:=by simpa using h1
 exact ⟨act.eval p.2,by simp [h3],hf p⟩
theorem UL{xs ys:List AV}(h:LeL xs ys)(o:Nat)(v:AV):LeL (xs.set o v) (ys.set o v):=by
 refine ⟨by simp [h.len],fun i y hy => ?_⟩
 rw [List.getElem?_set] at hy
 rw [List.getElem?_set]
 split at hy
 ·rename_i e
  rw [if_pos e]
  split at hy
  ·rename_i hl
   rw [if_pos (by rw [h.len];exact hl)]
   exact ⟨_,rfl,by cases hy;exact fun _ _ h=>h⟩
  ·cases hy
 ·rename_i e
  rw [if_neg e]
  exact h.at_ i y hy
theorem JT:∀ (l:List AV) {xs ys:List AV} (_:LeL xs ys) (o:Nat),LeL (aO xs o l) (aO ys o l)
 |[],_,_,h,_=>h
 |v::l,_,_,h,o=>by rw [aO,aO];exact JT l (UL h o v) (o+1)
theorem Og{pl:Nat→Option (Nat×Nat)}:∀ (ps:List (Nat×AV)) {xs ys zs:List AV} (_:LeL xs ys) (_:pG pl ys ps=some zs),∃ us,pG pl xs ps=some us∧LeL us zs
 |[],_,_,_,h,hz=>by cases hz;exact ⟨_,rfl,h⟩
 |(i,v)::ps,xs,ys,zs,h,hz=>by
  rw [pG] at hz ⊢
  split at hz
  ·rename_i off size cs h1 h2
   split at hz
   ·rename_i hc
    rw [if_pos (by rw [h.len];exact hc)]
    exact Og ps (JT cs h off) hz
   ·cases hz
  ·cases hz
theorem V8{xs ys:List AV}(h:LeL xs ys):Le (.agg xs) (.agg ys):=fun K x hx=>by
 obtain ⟨vs,rfl,hvs⟩:=hx.agg_inv
 have:=h.vs hvs
 exact .agg _ _ this.size this.at_
theorem V9{op:BinOp}{t:TypeId}{x y v:AV}(h1:op≠.shl)(h2:op≠.shr)(h3:op≠.andNot)(h:CX P op t x y=some v):Gp P op t x y=some v:=by
 unfold Gp
 cases op<;>first | exact absurd rfl h1 | exact absurd rfl h2 | exact absurd rfl h3 | exact h
theorem Me{op:BinOp}{t:TypeId}{ox oy:Operand}{x y v:AV}(h1:op≠.shl)(h2:op≠.shr)(h3:op≠.andNot)(ht:∀ ms,P.underlying t≠some (.interface ms))(h:rar op x y=some v):rR P op t ox oy x y=some v:=by
 have hn:∀ c,C4 P t c x y=none:=fun c=>by
  unfold C4
  split<;>first | rfl | (rename_i hu;exact absurd hu (ht _))
 unfold rR
 rw [hn]
 have h4:CX P op t x y=some v:=by
  unfold rar at h
  unfold CX
  split at h
  ·rename_i k m k' n
   simp only
   rw [if_neg (by rintro (e | e)<;>contradiction)];exact h
  ·exact h
  ·cases h
 split
 ·rename_i b he;cases he
 ·rename_i b he;cases he
 ·exact V9 h1 h2 h3 h4
theorem Q2{op:BinOp}{neg:Bool}(hop:op=if neg then .neq else .eql){t:TypeId}{ox oy:Operand}{x y v:AV}
  (h:(req (cek P t (lB ox||lB oy)) x y).map (fun b=>AV.bool (if neg then !b else b))=some v):rR P op t ox oy x y=some v:=by
 rw [Option.map_eq_some_iff] at h
 obtain ⟨b,h1,rfl⟩:=h
 unfold rR
 rcases RI h1 with h2 | ⟨h2,h3,h4,h5⟩
 ·rw [h2];subst hop;cases neg<;>rfl
 ·have hn:C4 P t (lB ox||lB oy) x y=none:=by
   cases he:C4 P t (lB ox||lB oy) x y with
   |none=>rfl
   |some b'=>exact absurd he (h2 b')
  rw [hn]
  have hab:CX P op t x y=some (.bool (if neg then !b else b)):=by
   unfold CX
   split
   ·rename_i k m k' n;exact absurd ⟨rfl,rfl⟩ (h4 k m k' n)
   ·rename_i s u;exact absurd ⟨rfl,rfl⟩ (h5 s u)
   ·subst hop;cases neg<;>simp [h3]
  subst hop
  cases neg<;>exact hab
theorem Fv{sz:Nat}{xT:TypeId}{x:AV}{str:Bool}{new:List (List AV)}(hu:∃ d,P.underlying xT=some d∧(str=false→∃ e,d = .slice e)∧(str=true→d = .string))(h:Cg H sz str x=some new):PK P H sz xT x=some new:=by
 obtain ⟨d,hu,h1,h2⟩:=hu
 unfold Cg at h
 unfold PK
 cases str
 ·obtain ⟨e,rfl⟩:=h1 rfl
  rw [hu]
  split at h<;>rename_i hh<;>first | exact h | (cases h;done) | (cases hh)
 ·obtain rfl:=h2 rfl
  rw [hu]
  split at h<;>rename_i hh<;>first | exact h | (cases h;done) | (cases hh)
theorem rapp_sound{e sT xT:TypeId}{i:TypeInfo}{z:Value}{str:Bool}{s x v:AV}{H':List ab}(hs:P.underlying sT=some (.slice e))(hi:P.info? e=some i)(hz:i.zero=some z)(hzs:z.cells.size=i.size)
  (hu:∃ d,P.underlying xT=some d∧(str=false→∃ e,d = .slice e)∧(str=true→d = .string)) (h:C8 H e i.size i.bytes str s x=some (v,H')):D6 P H sT xT s x=some (v,H'):=by
 unfold C8 at h
 unfold D6
 simp only [hs,hi,hz]
 split at h
 ·rename_i new hn
  rw [Fv hu hn]
  simp only
  split at h
  ·simp only
   split at h
   ·rename_i hc
    rw [if_pos ⟨hc.1,hzs,hc.2.1,hc.2.2.1,hc.2.2.2⟩];exact h
   ·cases h
  ·cases h
 ·cases h
theorem Da{e sT xT:TypeId}{i:TypeInfo}{z:Value}{str:Bool}{s x v:AV}{H':List ab}(hs:P.underlying sT=some (.slice e))(hi:P.info? e=some i)(hz:i.zero=some z)(hzs:z.cells.size=i.size)
  (hu:∃ d,P.underlying xT=some d∧(str=false→∃ e,d = .slice e)∧(str=true→d = .string)) (h:Gv H e i.size i.bytes str s x=some (v,H')):vP P H sT xT s x=some (v,H'):=by
 unfold Gv at h
 unfold vP
 simp only [hs,hi,hz]
 split at h
 ·rename_i new hn
  rw [Fv hu hn]
  simp only
  split at h
  ·rename_i hc
   rw [if_pos ⟨hzs,hc⟩];exact h
  ·cases h
 ·cases h
theorem Mf{m:Bool}{e sT xT:TypeId}{i:TypeInfo}{z:Value}{str:Bool}{s x v:AV}{H':List ab}(hs:P.underlying sT=some (.slice e))(hi:P.info? e=some i)(hz:i.zero=some z)(hzs:z.cells.size=i.size)
  (hu:∃ d,P.underlying xT=some d∧(str=false→∃ e,d = .slice e)∧(str=true→d = .string)) (h:rap m H e i.size i.bytes str s x=some (v,H')):C6 m P H sT xT s x=some (v,H'):=by
 unfold rap at h
 unfold C6
 split at h
 ·split at h
  ·rename_i hH;simp only [hH];exact rapp_sound hs hi hz hzs hu h
  ·cases h
 ·split<;>first | exact Da hs hi hz hzs hu h | (rename_i n1;exact (n1 _ _ _ _ _ rfl).elim) | (rename_i n1 _;exact (n1 _ _ _ _ _ rfl).elim) | (rename_i n1 _ _;exact (n1 _ _ _ _ _ rfl).elim) | (rename_i n1 _ _ _;exact (n1 _ _ _ _ _ rfl).elim) | (rename_i n1 _ _ _ _;exact (n1 _ _ _ _ _ rfl).elim) | (rename_i n1 _ _ _ _ _;exact (n1 _ _ _ _ _ rfl).elim) | (rename_i n1 _ _ _ _ _ _;exact (n1 _ _ _ _ _ rfl).elim) | (exfalso;simp_all;done)
 ·exact Da hs hi hz hzs hu h
 ·exact Da hs hi hz hzs hu h
 ·split<;>first | exact rapp_sound hs hi hz hzs hu h | (rename_i n1;exact (n1 _ _ _ _ _ rfl).elim) | (rename_i n1 _;exact (n1 _ _ _ _ _ rfl).elim) | (rename_i n1 _ _;exact (n1 _ _ _ _ _ rfl).elim) | (rename_i n1 _ _ _;exact (n1 _ _ _ _ _ rfl).elim) | (rename_i n1 _ _ _ _;exact (n1 _ _ _ _ _ rfl).elim) | (rename_i n1 _ _ _ _ _;exact (n1 _ _ _ _ _ rfl).elim) | (rename_i n1 _ _ _ _ _ _;exact (n1 _ _ _ _ _ rfl).elim) | (exfalso;simp_all;done)
theorem Oh{t:TypeId}{c:Bool}{k k':IntKind}{m n:Int}:C4 P t c (.int k m) (.int k' n)=none:=by
 unfold C4
 split<;>first | rfl | (rename_i e;cases e) | (rename_i e _;cases e)
theorem UM{r:Result Next}{v v':AV}{H':List ab}(h:JN P K r v H')(hl:Le v v'):JN P K r v' H':=by
 obtain ⟨K',cv,w',h1,h2,h3,h4⟩:=h
 exact ⟨K',cv,w',h1,h2,hl _ _ h3,h4⟩
theorem Ix{kt:TypeId}{k:AV}(h:Q0 (cck P kt) k=true):Mb P kt k=true:=by
 unfold Q0 cck at h
 unfold Mb
 split at h<;>rename_i hc<;>(try (cases h;done))<;>split at hc<;>(try (cases hc;done))<;>rename_i hu<;>rw [hu]<;>(try cases hc)<;>first | exact h | rfl
theorem Mg{t kt et:TypeId}(hu:P.underlying t=some (.map kt et)){m k v:AV}{H':List ab}(h:rmu H (cck P kt) m k v=some H'):tt P H t m k v=some H':=by
 unfold rmu at h
 unfold tt
 rw [hu]
 split at h
 ·simp only
  split at h
  ·rename_i hf
   rw [if_pos (Ix hf)];exact h
  ·cases h
 ·cases h
theorem Inv.tok(hi:Inv K H w)(n:Nat)(T:TypeId):Inv (K.push 0) (H++[.tok n T]) w:=by
 have:=(hi.tokNew T).tokUp (t:=H.length) (T:=T) (fr:=0) (fr':=n) (by simp) (Nat.zero_le _)
 have e1:(H++[ab.tok 0 T]).set H.length (.tok n T)=H++[.tok n T]:=by simp
 rwa [e1] at this
theorem PX(hi:Inv K H w){ts:Array TypeId}{ty e:TypeId}(hp:P.underlying ty=some (.pointer e)){x v:AV}{cx:Value}(hx:V K x cx)(h:RF x=some v) :
  ∃ K' cv w',K.le K'∧(Builtin.unsafeSliceData_ ts ty #[cx]).run P w = .ok cv w'∧V K' v cv∧Inv K' H w':=by
 unfold RF at h
 split at h
 ·rename_i t rows
  split at h
  case isFalse=>cases h
  rename_i hint
  cases h
  cases hx with
  |slice0 _ _ a ha=>
   have:=(ha.1 t rfl).2
   subst this
   exact ⟨K,_,w,.refl K,Lib.run_unsafeSliceData_nil w ts ty 0 0,.sdp0 t none,hi⟩
  |slice _ _ _ b o cap vs hl him hv hc ht=>
   obtain ⟨htl,⟨_,hni⟩ | ⟨rfl,hown⟩⟩:=ht
   ·rw [hni] at hint;cases hint
   rw [Nat.mul_one] at hown
   by_cases hcap:cap=0
   ·subst hcap
    have h0:rows=[]:=List.length_eq_zero_iff.1 (by omega)
    subst h0
    obtain ⟨hb,fr,us,T,lo,hh,g1,g2,g3,g4,g5⟩:=hi.own b t _ hown
    refine ⟨K,_,_,.refl K,Lib.run_unsafeSliceData_zero w ts ty e hp ⟨b,0,none⟩ _ (T,us.size) (by simp [World.shape?,g2]),.sdp0 t _,hi.junk _⟩
   ·exact ⟨K,_,w,.refl K,Lib.run_unsafeSliceData_row w ts ty ⟨b,0,none⟩ rows.length cap hcap,.sdp t rows b cap vs htl hown hl him hv hc,hi⟩
 ·cases h
  cases hx with
  |slice0 _ _ a ha=>
   have:=ha.2 rfl
   subst this
   exact ⟨K,_,w,.refl K,Lib.run_unsafeSliceData_nil w ts ty 0 0,.sdp0 0 none,hi⟩
  |slice _ _ _ b o cap vs hl him hv hc ht=>exact (ht:False).elim
 ·cases h
theorem PY(hi:Inv K H w){pt it ty e:TypeId}(hp:P.underlying pt=some (.pointer e))(hc1:P.cellsOf e=1){x n v:AV}{cx cn:Value}(hx:V K x cx)(hn:V K n cn)(h:Nh H e x n=some v) :
  ∃ K' cv w',K.le K'∧(Builtin.unsafeString_ #[pt,it] ty #[cx,cn]).run P w = .ok cv w'∧V K' v cv∧Inv K' H w':=by
 unfold Nh at h
 split at h
 ·rename_i t n
  split at h
  ·rename_i h0
   subst h0
   cases h
   cases hn
   have key:∃ p,cx = .pointer p:=by
    cases hx with
    |sdp0 _ p=>exact ⟨p,rfl⟩
    |sdp _ _ b cap vs=>exact ⟨_,rfl⟩
   obtain ⟨p,rfl⟩:=key
   exact ⟨K,_,w,.refl K,Lib.run_unsafeString_none w pt it ty p,.str [],hi⟩
  ·cases h
 ·rename_i t r rows n
  split at h
  ·rename_i fr T bs ht hbs
   split at h
   ·rename_i hc
    obtain ⟨rfl,rfl,hfr,h63,hby⟩:=hc
    cases h
    cases hn
    cases hx with
    |sdp _ _ b cap vs htl hown hl him hv hcap=>
     obtain ⟨h2,h3⟩:=C5 hbs
     obtain ⟨hb,fr',us,T',lo,hh,g1,g2,g3,g4,g5⟩:=hi.own b t cap hown
     rw [ht] at g1;cases g1
     have hne:bs≠[]:=by intro e;rw [e] at h2;simp at h2
     have hrun:=Lib.run_unsafeString_row (P:=P) w pt it ty T hp hc1 b us.size (by simp [World.shape?,g2]) bs hne (by omega) (by omega) (fun j c hj=>by
      have hjl:j<(r::rows).length:=by rw [← h2];exact (List.getElem?_eq_some_iff.1 hj).1
      obtain ⟨m,e1,e2⟩:=h3 j hjl
      have hb2:=Iw hby j m e1
      have g6:=hi.imm _ _ _ (him j 0 _ _ e1 rfl)
      have g7:=hv j 0 _ _ e1 rfl
      rw [Nat.zero_add,Nat.mul_one,Nat.add_zero] at g6
      generalize vs j 0=y at g6 g7
      cases g7
      rw [hj] at e2
      cases e2
      have:(⟨b,0,none⟩:Addr).add j=⟨b,j,none⟩:=by rw [iw];simp
      rw [this,g6]
      congr 2
      have:(UInt8.ofNat m.toNat).toNat=m.toNat:=by
       simp;omega
      rw [this];omega)
     exact ⟨K,_,_,.refl K,hrun,.str bs,hi.freeze hown ht hfr⟩
   ·cases h
  ·cases h
 ·cases h
theorem Mh(hg:K.glob=G)(hr:Rel N K a H act w){m:Bool}{o:Oper}{r:ROp}(hc:cOp P G m o.type o.op=some r){v:AV}{H':List ab}(h:rop a H r=some (v,H')) :
  JN P K ((execOp act.eval o).run P w) v H':=by
 have hi:=hr.inv
 have h0:=fun x=>ri (a:=a) hg hr x
 have h1:=fun t x=>Oe (P:=P) (a:=a) hg hr t x
 obtain ⟨dst,op,type,pos,after,guard⟩:=o
 simp only at hc
 cases op<;>simp only [cOp] at hc<;>try (cases hc;done)
 case move x=>cases hc;cases h;exact ⟨K,_,w,.refl K,.inl rfl,h1 _ x,hi⟩
 case assign x=>cases hc;cases h;exact ⟨K,_,w,.refl K,.inl rfl,h1 _ x,hi⟩
 case pick c x y=>
  cases hc
  simp only [rop] at h
  split at h
  ·rename_i b hb
   cases h
   have hcv:=h0 c
   rw [hb] at hcv
   refine ⟨K,_,w,.refl K,.inl (by simp [execOp,hcv.bool_inv,asBool];rfl), ?_,hi⟩
   cases b
   ·exact h1 _ y
   ·exact h1 _ x
  ·cases h
 case alloc e=>
  split at hc
  ·rename_i cs hcs
   obtain ⟨cs0,e1,e2⟩:=Gx hcs
   obtain ⟨z,g1,g2,_⟩:=CY (w:=w) e1 K
   have plain:r = .nw cs e→JN P K ((execOp act.eval ⟨dst,.alloc e,type,pos,after,guard⟩).run P w) v H':=fun hr=>by
    subst hr
    cases h
    obtain ⟨K',ad,w',h3,h4,h5,h6⟩:=Hx (P:=P) hi e (e2.vs g2)
    exact gx ⟨K',_,w',h3,by simp [Instr.alloc,g1,h4],h5,h6⟩
   split at hc
   ·rename_i j T hj
    split at hc
    ·cases hc;exact plain rfl
    ·split at hc
     ·rename_i hm
      cases hc;cases h
      have hv:=e2.vs g2
      have hi1:=hi.tok 0 T
      have hle:=K.le_push 0
      have hlen:H.length<(K.push 0).loc.length:=by simp [aJ.push,aJ.pushS,hi.len]
      have hv':Vs (K.push 0) (cs.set j (.slice (.own H.length) 1 [])) z.cells:=by
       refine ⟨by simp [hv.size],fun i av hiv => ?_⟩
       rcases jq hiv with ⟨rfl,rfl⟩ | ⟨_,hiv⟩
       ·have:=hv.at_ i _ hm
        generalize z.cells.getD i undef=x at this
        cases this with
        |slice0 _ _ a ha=>
         have:=ha.2 rfl
         subst this
         exact .slice0 _ _ _ ⟨fun t e=>(by cases e;exact ⟨hlen,rfl⟩),fun e=>(by cases e)⟩
        |slice _ _ _ b o cap vs hl hi hv hc ht=>exact (ht:False).elim
       ·exact (hv.at_ i av hiv).mono hle
      obtain ⟨K',ad,w',h3,h4,h5,h6⟩:=Hx (P:=P) hi1 e hv'
      have e1:(H++[ab.tok 0 T]).length=H.length+1:=by simp
      have e2:(H++[ab.tok 0 T])++[ab.cells (cs.set j (.slice (.own H.length) 1 [])) e]=H++[.tok 0 T,.cells (cs.set j (.slice (.own H.length) 1 [])) e]:=by simp
      rw [e1] at h5
      rw [e2] at h6
      exact gx ⟨K',_,w',hle.trans h3,by simp [Instr.alloc,g1,h4],h5,h6⟩
     ·cases hc;exact plain rfl
   ·cases hc;exact plain rfl
  ·cases hc
 case box e x=>
  cases hc
  simp only [rop] at h
  split at h
  ·rename_i cs hcs
   cases h
   obtain ⟨K',ad,w',h3,h4,h5,h6⟩:=Hx (P:=P) hi e ((h1 _ x).cells hcs)
   exact gx ⟨K',_,w',h3,by simp [Instr.box,h4],h5,h6⟩
  ·cases h
 case build t ps=>
  split at hc
  ·rename_i z pl fields hz hpl hu
   cases hc
   simp only [rop] at h
   have h9:=bo h;clear h;obtain ⟨h,rfl⟩:=h9
   rw [Option.map_eq_some_iff] at h
   obtain ⟨cs,hcs,rfl⟩:=h
   obtain ⟨z0,e1,e2⟩:=Gx hz
   obtain ⟨cs0,e3,e4⟩:=Og _ e2 hcs
   have hb:JH P t ((ps.toList.map fun p=>(p.1,match fields[p.1]? with | some f=>cx P G f.type p.2 | none=>cx0 G p.2)).map fun p=>(p.1,rx a p.2))=some (.agg cs0):=by
    unfold JH
    rw [e1,hpl]
    simp only
    have:(fun i:Nat=>pl[i]?)=(fun i=>pl.toList[i]?):=by funext i;simp
    rw [this]
    exact congrArg (Option.map AV.agg) e3
   refine UM (gv hi (M7 (by simp) (Of ps _ fun p => ?_) hb)) (V8 e4)
   split
   ·exact h1 _ _
   ·exact h0 _
  ·cases hc
 case buildSlice t l ps=>
  split at hc
  ·rename_i e hu
   split at hc
   ·rename_i sz z hsz hz
    split at hc
    ·rename_i hcond
     cases hc
     simp only [rop] at h
     have h9:=bo h;clear h;obtain ⟨h,rfl⟩:=h9
     refine gx (Gm hi (parts:=(ps.toList.map fun p=>(p.1,cx P G e p.2)).map fun p=>(p.1,rx a p.2)) (by simp) (Of ps _ fun p=>h1 _ _) ?_)
     unfold yi
     simp only [hu,hsz,hz]
     rw [if_pos hcond];exact h
    ·cases hc
   ·cases hc
  ·cases hc
 case load t x=>
  split at hc
  ·rename_i g hgt
   cases hc
   have h9:=bo h;clear h;obtain ⟨h,rfl⟩:=h9
   rw [← C9 hgt] at h
   exact gv hi (Gj hi (h0 x) h)
  ·cases hc
 case store t x y=>
  split at hc
  ·rename_i n hn
   cases hc
   have h9:=vU h;clear h;obtain ⟨h,rfl⟩:=h9
   have h2:CV P H t (rx a (cx0 G x)) (rx a (cx P G t y))=some H':=by
    unfold HB at h
    unfold CV
    rw [hn]
    split at h
    ·rename_i e5 e6;rw [e5,e6];exact h
    ·cases h
   obtain ⟨w',h3,h4⟩:=Ls (P:=P) hi (h0 x) (h1 _ y) h2
   exact ⟨K,undef,w',.refl K,.inr ⟨by simp [execOp,h3],rfl⟩,D8,h4⟩
  ·cases hc
 case nilCheck x=>
  cases hc
  have hx:=h0 x
  have key:∀ cv,act.eval x=cv→(cv.nilOk=true)→(execOp act.eval ⟨dst,.nilCheck x,type,pos,after,guard⟩).run P w = .ok (.value cv) w:=by
   intro cv he hn
   unfold execOp
   simp only [he]
   cases cv<;>try (cases hn;done)
   case pointer ad=>cases ad<;>first | (cases hn;done) | rfl
   case func f u v=>cases f<;>first | (cases hn;done) | rfl
  simp only [rop] at h
  split at h
  ·rename_i i o he
   cases h
   rw [he] at hx
   generalize hcv:act.eval x=c at hx
   cases hx with
   |ptr _ _ b hb=>exact ⟨K,_,w,.refl K,.inl (key _ hcv rfl),.ptr _ _ _ hb,hi⟩
  ·rename_i i1 i2 i3 i4 he
   cases h
   rw [he] at hx
   generalize hcv:act.eval x=c at hx
   cases hx with
   |vptr _ _ _ _ b o vs h1 h2 h3=>exact ⟨K,_,w,.refl K,.inl (key _ hcv rfl),.vptr _ _ _ _ _ _ _ h1 h2 h3,hi⟩
  ·rename_i f u v he
   cases h
   rw [he] at hx
   generalize hcv:act.eval x=c at hx
   obtain ⟨vs,us,rfl,h1,h2⟩:=hx.fn_inv
   exact ⟨K,_,w,.refl K,.inl (key _ hcv rfl),Vs.fn h1 h2,hi⟩
  ·cases h
 case binOp op t x y u=>
  have fin:∀ v,rR P op t x y (rx a (cx0 G x)) (rx a (cx0 G y))=some v→JN P K ((execOp act.eval ⟨dst,.binOp op t x y u,type,pos,after,guard⟩).run P w) v H:=fun v h=>gv hi (Lw (h0 x) (h0 y) h)
  have sh:∀ v,op = .shl∨op = .shr→rsh op (rx a (cx0 G x)) (rx a (cx0 G y))=some v→rR P op t x y (rx a (cx0 G x)) (rx a (cx0 G y))=some v:=fun v ho h=>by
   unfold rsh at h
   split at h
   ·rename_i k m k' n e1 e2
    unfold rR
    rw [e1,e2,Oh]
    rcases ho with rfl | rfl<;>exact h
   ·cases h
  split at hc
  ·cases hc;have h9:=bo h;clear h;obtain ⟨h,rfl⟩:=h9;exact fin v (sh v (.inl rfl) h)
  ·cases hc;have h9:=bo h;clear h;obtain ⟨h,rfl⟩:=h9;exact fin v (sh v (.inr rfl) h)
  ·cases hc;have h9:=bo h;clear h;obtain ⟨h,rfl⟩:=h9
   refine fin v ?_
   unfold ran at h
   split at h
   ·rename_i k m k' n e1 e2
    unfold rR
    rw [e1,e2,Oh]
    exact h
   ·cases h
  ·rename_i n1 n2 n3
   split at hc
   ·rename_i k hu
    cases hc;have h9:=bo h;clear h;obtain ⟨h,rfl⟩:=h9
    exact fin v (Me n1 n2 n3 (fun ms e=>by rw [hu] at e;cases e) h)
   ·rename_i hu
    cases hc;have h9:=bo h;clear h;obtain ⟨h,rfl⟩:=h9
    exact fin v (Me n1 n2 n3 (fun ms e=>by rw [hu] at e;cases e) h)
   ·split at hc
    ·cases hc;have h9:=bo h;clear h;obtain ⟨h,rfl⟩:=h9
     exact fin v (Q2 (neg:=false) rfl h)
    ·cases hc;have h9:=bo h;clear h;obtain ⟨h,rfl⟩:=h9
     exact fin v (Q2 (neg:=true) rfl h)
    ·cases hc
 case unOp op t x=>
  cases hc;have h9:=bo h;clear h;obtain ⟨h,rfl⟩:=h9
  exact gv hi (NY (h0 x) h)
 case convert s d x=>
  have fin:∀ v,pr P H s d (rx a (cx0 G x))=some v→JN P K ((execOp act.eval ⟨dst,.convert s d x,type,pos,after,guard⟩).run P w) v H:=fun v h=>gx (IT hi (h0 x) h)
  split at hc
  ·rename_i e hs hd
   split at hc
   ·rename_i he
    cases hc;have h9:=bo h;clear h;obtain ⟨h,rfl⟩:=h9
    refine fin v ?_
    unfold pr
    rw [hs,hd]
    simp only [JL]
    rw [he]
    unfold Oa at h
    split at h<;>rename_i hx<;>first | (cases h;done) | (rw [hx];exact h) | exact h
   ·cases hc
  ·rename_i e hs hd
   split at hc
   ·rename_i he
    cases hc;have h9:=bo h;clear h;obtain ⟨h,rfl⟩:=h9
    refine fin v ?_
    unfold SZ at h
    split at h
    ·rename_i s' hx
     unfold pr
     rw [hs,hd,hx]
     simp only
     rw [he];exact h
    ·cases h
   ·cases hc
  ·cases hc
  ·rename_i ds k n1 hs hd
   have hns:∀ e,ds≠.slice e:=fun e he=>n1 e (by rw [he])
   cases hc;have h9:=bo h;clear h;obtain ⟨h,rfl⟩:=h9
   refine fin v ?_
   unfold V6 at h
   split at h
   ·rename_i k' n hx
    unfold pr zG
    rw [hx,hs,hd]
    cases ds<;>first | exact h | exact absurd rfl (hns _)
   ·cases h
  ·rename_i ds n1 hs hd
   have hns:∀ e,ds≠.slice e:=fun e he=>n1 e he
   cases hc;have h9:=bo h;clear h;obtain ⟨h,rfl⟩:=h9
   refine fin v ?_
   unfold V7 at h
   split at h
   ·rename_i k' n hx
    unfold pr zG
    rw [hx,hs,hd]
    cases ds<;>first | exact h | exact absurd rfl (hns _)
   ·rename_i k' hx
    unfold pr zG
    rw [hx,hs,hd]
    cases ds<;>first | exact h | exact absurd rfl (hns _)
   ·cases h
  ·rename_i t hs hd
   split at hc
   ·rename_i j hj
    split at hc
    ·cases hc
    ·rename_i hsz
     cases hc;have h9:=bo h;clear h;obtain ⟨h,rfl⟩:=h9
     unfold PS at h
     split at h
     ·rename_i id off he
      split at h
      ·rename_i cs T hob
       split at h
       ·rename_i hlt
        cases h
        have hx:=h0 x
        rw [he] at hx
        obtain ⟨b,vs,T2,g1,g2,g3,g4,g5⟩:=hi.obj id _ hob
        generalize hcx:act.eval x=cx at hx
        cases hx with
        |ptr _ _ b' hb=>
         rw [g1] at hb;cases hb
         refine gx ⟨K,_,w,.refl K, ?_,.ptr _ _ _ g1,hi⟩
         rw [hcx]
         exact Lib.run_to_unsafe (P:=P) w ⟨b,off,none⟩ hs hd hj hsz (by simp [World.shape?,g3];exact ⟨rfl,rfl⟩) (by simp;omega)
       ·cases h
      ·cases h
     ·cases h
   ·cases hc
  ·rename_i u hs hd
   split at hc
   ·rename_i j hj
    split at hc
    ·cases hc
    ·rename_i hsz
     cases hc;have h9:=bo h;clear h;obtain ⟨h,rfl⟩:=h9
     unfold PT at h
     split at h
     ·rename_i id he
      split at h
      ·rename_i cs T hob
       split at h
       ·rename_i hlt
        obtain ⟨rfl,hle⟩:=hlt
        cases h
        have hx:=h0 x
        rw [he] at hx
        obtain ⟨b,vs,T2,g1,g2,g3,g4,g5,g6,g7,g8,rfl⟩:=hi.obj id _ hob
        generalize hcx:act.eval x=cx at hx
        cases hx with
        |ptr _ _ b' hb=>
         rw [g1] at hb;cases hb
         have hc0:P.cellsOf T2≠0:=fun e=>hsz (.inr e)
         refine gx ⟨K,_,w,.refl K, ?_,.ptr _ _ _ g1,hi⟩
         rw [hcx]
         exact Lib.run_from_unsafe (P:=P) (e:=T2) (cells:=vs.size) w ⟨b,0,none⟩ hs hd hj (by simp [World.shape?,g3]) (N8 hc0 (Nat.div_pos (by omega) (Nat.pos_of_ne_zero hc0)))
       ·cases h
      ·cases h
     ·cases h
   ·cases hc
  ·cases hc
 case makeInterface t x=>
  have hx:=h1 t x
  split at hc
  ·cases hc
  ·rename_i d hnd hu
   cases hc;cases h
   exact gv hi (C3 hx (by
    unfold rQ
    rw [hu]
    cases d<;>first | rfl | exact absurd rfl (hnd _)))
  ·cases hc
 case makeFunc f x y=>
  cases hc;cases h
  exact gv hi ⟨_,rfl,Vs.fn (S0 hg hr x) (S0 hg hr y)⟩
 case slice t x l hh mx=>
  split at hc
  ·rename_i hcond
   have hms:((mx.map (cx0 G)).map (rx a)).isSome=true→((hh.map (cx0 G)).map (rx a)).isSome=true:=by
    intro hm
    rcases hcond with hc | hc
    ·cases mx<;>simp at hc hm
    ·cases hh<;>simp at hc ⊢
   have fin:∀ (y v:AV),V K y (act.eval x)→Fp P t y ((l.map (cx0 G)).map (rx a)) ((hh.map (cx0 G)).map (rx a)) ((mx.map (cx0 G)).map (rx a))=some v→JN P K ((execOp act.eval ⟨dst,.slice t x l hh mx,type,pos,after,guard⟩).run P w) v H:=
    fun y v hy h=>gv hi (M8 hy (Nj hg hr l) (Nj hg hr hh) (Nj hg hr mx) hms h)
   split at hc
   ·rename_i hu
    split at hc
    ·rename_i hm
     cases hc;have h9:=bo h;clear h;obtain ⟨h,rfl⟩:=h9
     refine fin _ v (h0 x) ?_
     unfold Ng at h
     split at h
     ·rename_i s he
      unfold Fp
      rw [hu,he]
      have hm0:mx=none:=by cases mx<;>simp at hm ⊢
      subst hm0
      simp only [Option.map_none]
      split at h<;>rename_i e1 e2<;>first | (cases h;done) | (rw [e1,e2];exact h)
     ·cases h
    ·cases hc
   ·rename_i e hu
    split at hc
    ·rename_i sz hsz
     cases hc;have h9:=bo h;clear h;obtain ⟨h,rfl⟩:=h9
     refine fin _ v (h1 t x) ?_
     unfold Cf at h
     unfold Fp
     rw [hu]
     split at h
     ·rename_i tag esz rows he
      rw [he]
      simp only
      split at h<;>rename_i e1 e2 e3<;>first | (cases h;done) | (rw [e1,e2,e3,hsz];exact h)
     ·rename_i id off len esz room he
      rw [he]
      simp only
      split at h<;>rename_i e1 e2 e3<;>first | (cases h;done) | (rw [e1,e2,e3,hsz];exact h)
     ·cases h
    ·cases hc
   ·rename_i n e hu
    split at hc
    ·rename_i hm
     split at hc
     ·rename_i sz hsz
      cases hc;have h9:=bo h;clear h;obtain ⟨h,rfl⟩:=h9
      refine fin _ v (h0 x) ?_
      unfold V5 at h
      split at h
      ·rename_i id off he
       unfold Fp
       rw [hu,he]
       have hm0:mx=none:=by cases mx<;>simp at hm ⊢
       subst hm0
       simp only [Option.map_none]
       split at h<;>rename_i e1 e2<;>first | (cases h;done) | (rw [e1,e2,hsz];exact h)
      ·cases h
     ·cases hc
    ·cases hc
   ·cases hc
  ·cases hc
 case fieldAddr s x f=>
  split at hc
  ·rename_i t o hf
   split at hc
   ·rename_i n hsz
    cases hc;have h9:=bo h;clear h;obtain ⟨h,rfl⟩:=h9
    refine gv hi (Lt (h0 x) (f:=f) ?_)
    unfold Gi
    simp only [hf,hsz];exact h
   ·cases hc
  ·cases hc
 case field s x f=>
  split at hc
  ·rename_i t o hf
   split at hc
   ·rename_i g hgt
    cases hc;have h9:=bo h;clear h;obtain ⟨h,rfl⟩:=h9
    refine gv hi (NW (h0 x) (f:=f) ?_)
    unfold rfd at h
    unfold M1
    rw [hf]
    split at h
    ·rename_i cs he
     rw [he]
     simp only [cagg_load hgt];exact h
    ·cases h
   ·cases hc
  ·cases hc
 case indexAddr t x i=>
  split at hc
  ·rename_i e hu
   split at hc
   ·rename_i sz hsz
    cases hc;have h9:=bo h;clear h;obtain ⟨h,rfl⟩:=h9
    refine gv hi (E4 (h0 x) (h0 i) ?_)
    unfold A8 at h
    unfold CW
    rw [hu]
    split at h<;>rename_i e1 e2<;>first | (cases h;done) | (rw [e1,e2];simp only [hsz];exact h)
   ·cases hc
  ·rename_i n e hu
   split at hc
   ·rename_i sz hsz
    cases hc;have h9:=bo h;clear h;obtain ⟨h,rfl⟩:=h9
    refine gv hi (E4 (h0 x) (h0 i) ?_)
    unfold V3 at h
    unfold CW
    rw [hu]
    split at h<;>rename_i e1 e2<;>first | (cases h;done) | (rw [e1,e2];simp only [hsz];exact h)
   ·cases hc
  ·cases hc
 case index t x i=>
  split at hc
  ·rename_i hu
   cases hc;have h9:=bo h;clear h;obtain ⟨h,rfl⟩:=h9
   refine gv hi (It (h0 x) (h0 i) ?_)
   unfold N9 at h
   unfold JC
   rw [hu]
   split at h<;>rename_i e1 e2<;>first | (cases h;done) | (rw [e1,e2];exact h)
  ·rename_i n e hu
   split at hc
   ·rename_i sz g hsz hgt
    cases hc;have h9:=bo h;clear h;obtain ⟨h,rfl⟩:=h9
    refine gv hi (It (h0 x) (h0 i) ?_)
    unfold V4 at h
    unfold JC
    rw [hu]
    split at h<;>rename_i e1 e2<;>first | (cases h;done) | (rw [e1,e2];simp only [hsz,cagg_load hgt];exact h)
   ·cases hc
  ·cases hc
 case extract x i=>
  cases hc;have h9:=bo h;clear h;obtain ⟨h,rfl⟩:=h9
  exact gv hi (JI (h0 x) h)
 case typeAssert x X T ok=>
  have hx:=h0 x
  split at hc
  ·cases hc
  ·rename_i d hnd hu
   cases hc;have h9:=bo h;clear h;obtain ⟨h,rfl⟩:=h9
   refine gv hi (Gn hx (T:=T) ?_)
   have key:∀ v,((match P.info? T with | some i=>i.zero.map kn | none=>none:Option AV).map fun z=>AV.tuple [z,.bool false])=some v →
     (match P.info? T with | some i=>(match i.zero with | some z=>some (AV.tuple [kn z,.bool false]) | none=>none) | none=>none)=some v:=fun v hv=>by
    split
    ·rename_i i he
     simp only [he] at hv
     split
     ·rename_i z hz;simp only [hz,Option.map_some] at hv;exact hv
     ·rename_i hz;simp [hz] at hv
    ·rename_i he;simp [he] at hv
   unfold rta at h
   unfold yj
   rw [hu]
   split at h
   ·rename_i t v' he
    rw [he]
    have:(if t=T then some (if ok then AV.tuple [v',.bool true] else v') else if ok then (match P.info? T with | some i=>(match i.zero with | some z=>some (AV.tuple [kn z,.bool false]) | none=>none) | none=>none) else none)=some v:=by
     split at h
     ·rename_i e;rw [if_pos e];exact h
     ·rename_i e
      rw [if_neg e]
      split at h
      ·rename_i e2;rw [if_pos e2];exact key v h
      ·cases h
    cases d<;>first | exact this | exact absurd rfl (hnd _)
   ·rename_i he
    rw [he]
    have:(if ok then (match P.info? T with | some i=>(match i.zero with | some z=>some (AV.tuple [kn z,.bool false]) | none=>none) | none=>none) else none)=some v:=by
     split at h
     ·rename_i e2;rw [if_pos e2];exact key v h
     ·cases h
    cases d<;>first | exact this | exact absurd rfl (hnd _)
   ·cases h
  ·cases hc
 case makeMap t r=>
  cases r with
  |some r=>cases hc
  |none=>
   cases hc;cases h
   refine gx ⟨K.push w.heap.size,_,w.alloc (.map #[] 0),K.le_push _,by simp [Instr.makeMap];rfl,.map _ _ (by simp [aJ.push,aJ.pushS,hi.len]), ?_⟩
   exact hi.allocObj (.map []) _ rfl none (fun s h=>by cases h) fun w' hw' _ _=>⟨w.heap.size,#[],0,by simp [aJ.pushS],hi.new,hw',rfl,fun i k v h=>by simp at h,hi.shape_new⟩
 case makeSlice t l c=>
  split at hc
  ·rename_i e hu
   split at hc
   ·rename_i i cs hinfo hz
    split at hc
    ·rename_i hsz
     cases hc
     refine gx (Hz hi (h0 l) (h0 c) (t:=t) ?_)
     unfold E2 at hz
     rw [hinfo] at hz
     simp only at hz
     split at hz
     ·rename_i z hz2
      simp only [rop,rms] at h
      split at h
      ·rename_i k1 l1 k2 c1 e1 e2
       unfold A6
       rw [hu,e1,e2]
       simp only [hinfo,hz2,hz]
       split at h
       ·rename_i hcond
        rw [if_pos ⟨hcond.1,hcond.2.1,hcond.2.2.1,hcond.2.2.2,hsz⟩,← hsz];exact h
       ·cases h
      ·cases h
     ·cases hz
    ·cases hc
   ·cases hc
  ·cases hc
 case insert t m k v'=>
  split at hc
  ·rename_i kt et hu
   cases hc;have h9:=vU h;clear h;obtain ⟨h,rfl⟩:=h9
   obtain ⟨w',h3,h4⟩:=zI (P:=P) (t:=t) hi (h0 m) (h0 k) (h1 et v') (Mg hu h)
   exact ⟨K,undef,w',.refl K,.inr ⟨by simp [execOp,h3],rfl⟩,D8,h4⟩
  ·cases hc
 case mapUpdate t m k v'=>
  split at hc
  ·rename_i kt et hu
   cases hc;have h9:=vU h;clear h;obtain ⟨h,rfl⟩:=h9
   obtain ⟨w',h3,h4⟩:=zI (P:=P) (t:=t) hi (h0 m) (h0 k) (h1 et v') (Mg hu h)
   exact ⟨K,undef,w',.refl K,.inr ⟨by simp [execOp,h3],rfl⟩,D8,h4⟩
  ·cases hc
 case lookup t x k ok=>
  split at hc
  ·rename_i kt et hu
   cases hc;have h9:=bo h;clear h;obtain ⟨h,rfl⟩:=h9
   refine gv hi (Lx (t:=t) (ok:=ok) hi (h0 x) (h0 k) ?_)
   unfold rlk at h
   unfold Jo
   rw [hu]
   simp only
   split at h
   ·rename_i hf
    rw [if_pos (Ix hf)]
    split at h
    ·rename_i es he
     rw [he]
     simp only
     split at h
     ·rename_i i v' hk;rw [hk];exact h
     ·rename_i hk
      rw [hk]
      simp only
      cases hinfo:P.info? et with
      |none=>rw [hinfo] at h;simp at h
      |some i=>
       rw [hinfo] at h
       simp only at h ⊢
       cases hz:i.zero with
       |none=>rw [hz] at h;simp at h
       |some z=>rw [hz] at h;simpa using h
     ·cases h
    ·cases h
   ·cases h
  ·cases hc
 case range t x=>
  split at hc
  ·rename_i hu
   cases hc
   refine gx (Nb hi (h0 x) (t:=t) ?_)
   simp only [rop,rrg] at h
   unfold Na
   rw [hu]
   split at h<;>rename_i he<;>first | (cases h;done) | (rw [he];exact h)
  ·cases hc
 case next x b=>
  cases b
  ·cases hc
  ·cases hc;exact gx (N7 hi (h0 x) h)
 case call c=>
  have hex:∀ b,c.callee = .builtin b→(execOp act.eval ⟨dst,.call c,type,pos,after,guard⟩).run P w=(builtin b c.argTypes type (c.args.map fun | .const _=>true | _=>false) (c.args.map act.eval)).run P w:=by
   intro b hcal
   unfold execOp
   simp only [resolve,hcal,pure_bind,invoke]
   rfl
  split at hc
  ·rename_i b hcal
   rw [hex b hcal]
   have one:∀ x,c.args.toList=[x]→∀ v,V K v (act.eval x)→Vs K [v] (c.args.map act.eval):=fun x hx v hv=>by
    rw [zJ hx];exact ⟨by simp,fun i av hi=>by cases i with | zero=>simp at hi;subst hi;simpa using hv | succ i=>simp at hi⟩
   have two:∀ x y,c.args.toList=[x,y]→∀ v u,V K v (act.eval x)→V K u (act.eval y)→Vs K [v,u] (c.args.map act.eval):=fun x y hx v u hv hu=>by
    rw [zJ hx];exact ⟨by simp,fun i av hi=>by
     match i,hi with
     |0,hi=>simp at hi;subst hi;simpa using hv
     |1,hi=>simp at hi;subst hi;simpa using hu
     |i+2,hi=>simp at hi⟩
   split at hc
   ·rename_i t x ht hx
    split at hc
    ·rename_i hu
     cases hc;have h9:=bo h;clear h;obtain ⟨h,rfl⟩:=h9
     refine eF (m:=true) hi (one x hx _ (h0 x)) ?_ type _
     simp only [jm,ht,PM,hu]
     unfold A9 at h
     split at h<;>rename_i e1 e2<;>first | (cases h;done) | (cases e1;done) | (rw [e2];simp only [Option.map_some];cases h;rfl)
    ·rename_i e hu
     cases hc;have h9:=bo h;clear h;obtain ⟨h,rfl⟩:=h9
     refine eF (m:=true) hi (one x hx _ (h1 t x)) ?_ type _
     simp only [jm,ht,PM,hu]
     unfold A9 at h
     split at h<;>rename_i e1 e2<;>first | (cases h;done) | (cases e1;done) | (rw [e2];simp only [Option.map_some];cases h;rfl)
    ·rename_i n e hu
     cases hc;cases h
     refine eF (m:=true) hi (one x hx _ (h0 x)) ?_ type _
     simp only [jm,ht,PM,hu,rx];rfl
    ·rename_i k e hu
     cases hc;have h9:=bo h;clear h;obtain ⟨h,rfl⟩:=h9
     refine eF (m:=true) hi (one x hx _ (h0 x)) ?_ type _
     simp only [jm,ht,PM,hu]
     unfold A9 at h
     split at h<;>rename_i e1 e2<;>first | (cases h;done) | (cases e1;done) | (rw [e2];cases h;rfl) | (rw [e2];split at h<;>first | (cases h;done) | (rename_i e3;dsimp only;rw [e3];cases h;rfl))
    ·cases hc
   ·rename_i t x ht hx
    split at hc
    ·rename_i e hu
     cases hc;have h9:=bo h;clear h;obtain ⟨h,rfl⟩:=h9
     refine eF (m:=true) hi (one x hx _ (h1 t x)) ?_ type _
     simp only [jm,ht,SV,hu]
     unfold Ob at h
     split at h<;>rename_i e1<;>first | (cases h;done) | (rw [e1];cases h;rfl)
    ·rename_i n e hu
     cases hc;cases h
     refine eF (m:=true) hi (one x hx _ (h0 x)) ?_ type _
     simp only [jm,ht,SV,hu,rx];rfl
    ·cases hc
   ·rename_i t u s x ht hx
    split at hc
    ·rename_i e hu
     split at hc
     ·rename_i i hinfo
      split at hc
      ·rename_i z e2 hz hu2
       split at hc
       ·rename_i hzs
        cases hc
        exact eF (m:=m) hi (two s x hx _ _ (h1 t s) (h1 u x)) (by simp only [jm,ht];exact Mf hu hinfo hz hzs ⟨_,hu2,fun _=>⟨_,rfl⟩,fun e=>by cases e⟩ h) type _
       ·cases hc
      ·rename_i z hz hu2
       split at hc
       ·rename_i hzs
        cases hc
        exact eF (m:=m) hi (two s x hx _ _ (h1 t s) (h1 u x)) (by simp only [jm,ht];exact Mf hu hinfo hz hzs ⟨_,hu2,fun e=>(by cases e),fun _=>rfl⟩ h) type _
       ·cases hc
      ·rename_i z kk hz hu2
       split at hc
       ·rename_i cs hcs
        split at hc
        ·rename_i hcc
         cases hc
         have h3:c.args.map act.eval = #[act.eval s,act.eval x]:=by rw [zJ hx];simp
         have h4:c.argTypes = #[t,u]:=by rw [zJ ht]
         have:=gx (PV (P:=P) hi hu hu2 hinfo hz hcs hcc.1 (h1 t s) (h0 x) h type)
         rw [h3,h4]
         exact this
        ·cases hc
       ·cases hc
      ·cases hc
     ·cases hc
    ·cases hc
   ·rename_i t x ht hx
    split at hc
    ·rename_i e hu
     split at hc
     ·rename_i i hinfo
      split at hc
      ·rename_i z hz
       split at hc
       ·rename_i cs hcs
        split at hc
        ·rename_i hcc
         cases hc;have h9:=vU h;clear h;obtain ⟨h,rfl⟩:=h9
         have h3:c.args.map act.eval = #[act.eval x]:=by rw [zJ hx];simp
         have h4:c.argTypes = #[t]:=by rw [zJ ht]
         obtain ⟨w',g1,g2⟩:=RG (P:=P) hi hu hinfo hz hcs hcc.1 hcc.2 (h1 t x) h type
         have:=gx (P:=P) ⟨K,_,w',.refl K,g1,D8,g2⟩
         rw [h3,h4]
         exact this
        ·cases hc
       ·cases hc
      ·cases hc
     ·cases hc
    ·cases hc
   ·rename_i t u d s ht hx
    split at hc
    ·rename_i e hu
     have fin:∀ sz str,iN P e=some sz→(∃ d,P.underlying u=some d∧(str=false→∃ e,d = .slice e)∧(str=true→d = .string))→rcp H sz str (rx a (cx P G t d)) (rx a (cx P G u s))=some (v,H')→N4 P H t u (rx a (cx P G t d)) (rx a (cx P G u s))=some (v,H'):=fun sz str hsz hu2 h=>by
      unfold rcp at h
      unfold N4
      rw [hu]
      simp only [hsz]
      split at h
      ·rename_i id off len esz room rows e1 e2
       rw [e1,Fv hu2 e2];exact h
      ·cases h
     split at hc
     ·rename_i sz e2 hsz hu2
      cases hc
      exact eF (m:=m) hi (two d s hx _ _ (h1 t d) (h1 u s)) (by simp only [jm,ht];exact fin sz false hsz ⟨_,hu2,fun _=>⟨_,rfl⟩,fun e=>by cases e⟩ h) type _
     ·rename_i sz hsz hu2
      cases hc
      exact eF (m:=m) hi (two d s hx _ _ (h1 t d) (h1 u s)) (by simp only [jm,ht];exact fin sz true hsz ⟨_,hu2,fun e=>(by cases e),fun _=>rfl⟩ h) type _
     ·cases hc
    ·cases hc
   ·rename_i t x ht hx
    split at hc
    ·rename_i e1 e2 hu1 hu2
     cases hc;have h9:=bo h;clear h;obtain ⟨h,rfl⟩:=h9
     have h3:c.args.map act.eval = #[act.eval x]:=by rw [zJ hx];simp
     have:=gx (PX (P:=P) hi (ts:=c.argTypes) hu2 (h0 x) h)
     rw [h3]
     exact this
    ·cases hc
   ·rename_i t it x n ht hx
    split at hc
    ·rename_i e hu
     split at hc
     ·rename_i hc1
      cases hc;have h9:=bo h;clear h;obtain ⟨h,rfl⟩:=h9
      have h3:c.args.map act.eval = #[act.eval x,act.eval n]:=by rw [zJ hx];simp
      have h4:c.argTypes = #[t,it]:=by rw [zJ ht]
      have:=gx (PY (P:=P) hi (pt:=t) (it:=it) (ty:=type) hu hc1 (h0 x) (h0 n) h)
      rw [h3,h4]
      exact this
     ·cases hc
    ·cases hc
   ·rename_i ts x y hx
    cases hc;have h9:=bo h;clear h;obtain ⟨h,rfl⟩:=h9
    exact eF (m:=m) hi (two x y hx _ _ (h0 x) (h0 y)) (by simp only [jm,h];rfl) type _
   ·rename_i ts x y hx
    cases hc;have h9:=bo h;clear h;obtain ⟨h,rfl⟩:=h9
    exact eF (m:=m) hi (two x y hx _ _ (h0 x) (h0 y)) (by simp only [jm,h];rfl) type _
   ·cases hc
  ·cases hc
end
section
variable{P:Program}{G:Nat→Option (List AV)}{K:aJ}{N:Fr}{a:Env}{H:List ab}{act:Act}{w:World}{ops:Array Oper}{cls:Nat→Cl}{Kp:List ab→List ab→Prop}{Q:ky→Env→List ab→Prop}
 {D:Nat→Env→List ab→AV→List ab→Prop}
structure Iy (P:Program) (G:Nat→Option (List AV)) (N:Fr) (ops:Array Oper) (cls:Nat→Cl) (D:Nat→Env→List ab→AV→List ab→Prop):Prop where
 put:∀ (i:Nat) (o:Oper) (dst:Option Tmp) (u:AV) (a:Env) (H:List ab) (v:AV) (H':List ab),ops[i]?=some o→(∀ d,dst=some d→d ∉ o.looksAt ops)→(D i (kT a dst u) H v H'↔D i a H v H')
 pure:∀ (i:Nat) (a:Env) (H:List ab) (v:AV) (H':List ab),cls i = .pure→D i a H v H'→H'=H∧∀ H3,D i a H3 v H3
 step:∀ (i:Nat) (o:Oper) (a:Env) (H:List ab) (v:AV) (H':List ab),ops[i]?=some o→D i a H v H'→∀ (K:aJ) (act:Act) (w:World) (next:Act→World→Prop) (Q:Exit→Act→World→Prop),K.glob=G→Rel N K a H act w →
  (∀ d,o.dst=some d→d<N.n)→(∀ K' act' w',K.le K'→Rel N K' (kT a o.dst v) H' act' w'→next act' w')→o.wp P act w next Q
structure vf (N:Fr) (ops:Array Oper) (Kp:List ab→List ab→Prop) (D:Nat→Env→List ab→AV→List ab→Prop) (i:Nat) (c:Cl) (a:Env) (H:List ab) (o:Oper) (v:AV) (H':List ab):Prop where
 dst:∀ d,o.dst=some d→d<N.n
 still:c.still=true→H'=H
 keep:c = .keep→Kp H H'
 step:(po ops a o=some true∧D i a H v H'∧(c = .wide→∀ H2,Kp H H2→D i a H2 v H2))∨(po ops a o=some false∧v=iY∧H'=H)
def dOp(N:Fr)(ops:Array Oper)(Kp:List ab→List ab→Prop)(D:Nat→Env→List ab→AV→List ab→Prop)(cls:Nat→Cl)(i:Nat)(Kt:Env→List ab→Prop)(a:Env)(H:List ab):Prop:=
 match ops[i]? with
 |none=>Kt a H
 |some o => ∃ v H',vf N ops Kp D i (cls i) a H o v H'∧Kt (kT a o.dst v) H'
def Lz(N:Fr)(ops:Array Oper)(Kp:List ab→List ab→Prop)(D:Nat→Env→List ab→AV→List ab→Prop)(cls:Nat→Cl)(Q:ky→Env→List ab→Prop):Nat→Array Bool→Env→List ab→Prop
 |0,listed,a,H=>Region.ready .any ops listed=[]∧Q .normal a H
 |fuel+1,listed,a,H=>(Region.ready .any ops listed=[]→Q .normal a H) ∧
  ∀ i∈Region.ready .any ops listed,dOp N ops Kp D cls i (Lz N ops Kp D cls Q fuel (listed.setIfInBounds i true)) a H
theorem Ba(hD:Iy P G N ops cls D)(hg0:K.glob=G):∀ (fuel:Nat) (listed:Array Bool) (K':aJ) (a:Env) (H:List ab) (act:Act) (w:World),K.le K'→Rel N K' a H act w →
  Lz N ops Kp D cls Q fuel listed a H→wpAny P .any ops (M0 N K Q) fuel listed act w
 |0,listed,K',a,H,act,w,hk,hr,h=>⟨h.1,K',.normal,a,H,hk,trivial,hr,h.2⟩
 |fuel+1,listed,K',a,H,act,w,hk,hr,h=>by
  refine ⟨fun h0=>⟨K',.normal,a,H,hk,trivial,hr,h.1 h0⟩,fun i hi => ?_⟩
  have h1:=h.2 i hi
  unfold dOp at h1
  unfold wpOp
  cases ho:ops[i]? with
  |none=>
   simp only [ho] at h1
   exact Ba hD hg0 fuel _ K' a H act w hk hr h1
  |some o=>
   simp only [ho] at h1
   obtain ⟨v,H',⟨hd,_,_,hy⟩,hK⟩:=h1
   simp only
   rcases hy with ⟨hw,hdet,_⟩ | ⟨hw,rfl,rfl⟩
   ·rw [tL hr hw]
    simp only [if_true]
    refine .inl (hD.step i o a H v H' ho hdet K' act w _ _ (hk.glob.trans hg0) hr hd ?_)
    intro K2 act2 w2 hk2 hr2
    exact Ba hD hg0 fuel _ K2 _ _ act2 w2 (hk.trans hk2) hr2 hK
   ·rw [tL hr hw]
    simp only [Bool.false_eq_true,if_false]
    exact Ba hD hg0 fuel _ K' _ _ _ w hk (hr.put (.refl K') hr.inv D8 hd) hK
theorem yk(hD:Iy P G N ops cls D){i:Nat}{o:Oper}(hoi:ops[i]?=some o){c:Cl}{dst:Option Tmp}{u v:AV}{H':List ab}(h:∀ d,dst=some d→d ∉ o.looksAt ops)(hy:vf N ops Kp D i c a H o v H'):vf N ops Kp D i c (kT a dst u) H o v H':=by
 obtain ⟨h1,h3,h4,h5⟩:=hy
 refine ⟨h1,h3,h4, ?_⟩
 simp only [Iv h,hD.put i o dst u a _ _ _ hoi h];exact h5
theorem Nk(hD:Iy P G N ops cls D){i:Nat}{o:Oper}(hoi:ops[i]?=some o){c:Cl}{dst:Option Tmp}{u v:AV}{H':List ab}(h:∀ d,dst=some d→d ∉ o.looksAt ops)(hy:vf N ops Kp D i c (kT a dst u) H o v H'):vf N ops Kp D i c a H o v H':=by
 obtain ⟨h1,h3,h4,h5⟩:=hy
 simp only [Iv h,hD.put i o dst u a _ _ _ hoi h] at h5
 exact ⟨h1,h3,h4,h5⟩
theorem Gy(hD:Iy P G N ops cls D){i:Nat}(hc:cls i = .pure){o:Oper}{v:AV}{H1 H2:List ab}(h:vf N ops Kp D i .pure a H1 o v H2):H2=H1∧∀ H3,vf N ops Kp D i .pure a H3 o v H3:=by
 obtain ⟨h1,h3,h4,h5⟩:=h
 rcases h5 with ⟨hw,hd,_⟩ | ⟨hw,hv,hH⟩
 ·obtain ⟨e1,e2⟩:=hD.pure i _ _ _ _ hc hd
  exact ⟨e1,fun H3=>⟨h1,fun _=>rfl,fun h=>(by cases h),.inl ⟨hw,e2 H3,fun h=>by cases h⟩⟩⟩
 ·exact ⟨hH,fun H3=>⟨h1,fun _=>rfl,fun h=>(by cases h),.inr ⟨hw,hv,rfl⟩⟩⟩
theorem PZ(hD:Iy P G N ops cls D)(htrans:∀ H1 H2 H3,Kp H1 H2→Kp H2 H3→Kp H1 H3){i:Nat}{oi:Oper}{v:AV}(hi:ops[i]?=some oi) :
  ∀ (fuel:Nat) (listed:Array Bool) (a:Env) (H H':List ab),C7 ops listed →
   (∀ j oj,ops[j]?=some oj→j≠i→listed.getD j true=false→¬ Dep ops i j→oi.apart ops oj=true∧(cls i).mixes (cls j)=true) →
   i∈Region.ready .any ops listed→vf N ops Kp D i (cls i) a H oi v H' →
   Lz N ops Kp D cls Q fuel (listed.setIfInBounds i true) (kT a oi.dst v) H'→Lz N ops Kp D cls Q (fuel+1) listed a H:=by
 intro fuel
 induction fuel with
 |zero=>
  intro listed a H H' _ _ hr hy hA
  refine ⟨fun h=>(by rw [h] at hr;cases hr),fun j hj => ?_⟩
  by_cases hji:j=i
  ·subst hji;unfold dOp;rw [hi];exact ⟨v,H',hy,hA⟩
  ·have:=ready_mono hj hji
   rw [hA.1] at this
   cases this
 |succ fuel ih=>
  intro listed a H H' hcl hfree hr hy hA
  refine ⟨fun h=>(by rw [h] at hr;cases hr),fun j hj => ?_⟩
  by_cases hji:j=i
  ·subst hji;unfold dOp;rw [hi];exact ⟨v,H',hy,hA⟩
  ·have h1:=hA.2 j (ready_mono hj hji)
   obtain ⟨hjun,oj,hoj,hall⟩:=mem_ready.1 hj
   have hiun:listed.getD i true=false:=(mem_ready.1 hr).1
   have hnot:¬ Dep ops i j:=fun hd=>by
    have key:∀ e∈oj.after,Region.binds .any e=true→listed.getD e.on true=true:=fun e he hb=>A7 (hall e he hb)
    cases hd with
    |one _ oj' e g1 g2 g3 g4=>
     rw [hoj] at g1;cases g1
     have:=key e g2 g3
     rw [g4,hiun] at this;cases this
    |more _ oj' e g1 g2 g3 g4=>
     rw [hoj] at g1;cases g1
     have:=hcl.dep g4 (key e g2 g3)
     rw [hiun] at this;cases this
   obtain ⟨hap,hmix⟩:=hfree j oj hoj hji hjun hnot
   obtain ⟨ap1,ap2,ap3⟩:=Oper.apart_spec hap
   have hcl':C7 ops (listed.setIfInBounds j true):=fun k ok hk hkl e he hb=>by
    have up:∀ m,listed.getD m true=true→(listed.setIfInBounds j true).getD m true=true:=fun m hm=>by
     by_cases hjm:j=m
     ·subst hjm
      rcases Nat.lt_or_ge j listed.size with h' | h'
      ·simp [Array.getD_eq_getD_getElem?,h']
      ·simp [Array.getD_eq_getD_getElem?,Array.getElem?_eq_none h']
     ·rw [getD_set_ne true hjm];exact hm
    by_cases hjk:j=k
    ·subst hjk
     rw [hoj] at hk;cases hk
     exact up _ (A7 (hall e he hb))
    ·rw [getD_set_ne true hjk] at hkl
     exact up _ (hcl k ok hk hkl e he hb)
   have hfree':∀ k ok,ops[k]?=some ok→k≠i→(listed.setIfInBounds j true).getD k true=false →
     ¬ Dep ops i k→oi.apart ops ok=true∧(cls i).mixes (cls k)=true:=fun k ok hk hki hun hno=>by
    refine hfree k ok hk hki ?_ hno
    by_cases hjk:j=k
    ·subst hjk;exact hjun
    ·rw [getD_set_ne true hjk] at hun;exact hun
   unfold dOp at h1 ⊢
   rw [hoj] at h1 ⊢
   obtain ⟨u,Hj,hyj,hK⟩:=h1
   have hyj2:=Nk hD hoj ap1 hyj
   rw [Array.setIfInBounds_comm _ _ (Ne.symm hji)] at hK
   rw [RE a v u ap2] at hK
   have both:(cls i).still=true→(cls j).still=true→dOp N ops Kp D cls j (Lz N ops Kp D cls Q (fuel+1) (listed.setIfInBounds j true)) a H:=fun s1 s2=>by
    have e1:=hy.still s1
    subst e1
    have e2:=hyj2.still s2
    subst e2
    unfold dOp
    rw [hoj]
    exact ⟨u,Hj,hyj2,ih (listed.setIfInBounds j true) _ Hj Hj hcl' hfree' (ready_mono hr (Ne.symm hji)) (yk hD hi ap3 hy) hK⟩
   have firstPure:cls i = .pure→dOp N ops Kp D cls j (Lz N ops Kp D cls Q (fuel+1) (listed.setIfInBounds j true)) a H:=fun hp=>by
    have hy':=hy
    rw [hp] at hy'
    obtain ⟨rfl,hall2⟩:=Gy hD hp hy'
    unfold dOp
    rw [hoj]
    exact ⟨u,Hj,hyj2,ih (listed.setIfInBounds j true) _ Hj Hj hcl' hfree' (ready_mono hr (Ne.symm hji)) (by rw [hp];exact yk hD hi ap3 (hall2 Hj)) hK⟩
   have secondPure:cls j = .pure→dOp N ops Kp D cls j (Lz N ops Kp D cls Q (fuel+1) (listed.setIfInBounds j true)) a H:=fun hp=>by
    have hyj':=hyj2
    rw [hp] at hyj'
    obtain ⟨rfl,hall2⟩:=Gy hD hp hyj'
    unfold dOp
    rw [hoj]
    exact ⟨u,H,by rw [hp];exact hall2 H,ih (listed.setIfInBounds j true) _ H Hj hcl' hfree' (ready_mono hr (Ne.symm hji)) (yk hD hi ap3 hy) hK⟩
   have wideKeep:cls i = .wide→cls j = .keep→dOp N ops Kp D cls j (Lz N ops Kp D cls Q (fuel+1) (listed.setIfInBounds j true)) a H:=fun s1 s2=>by
    have e1:=hy.still (by rw [s1];rfl)
    subst e1
    have hkp:=hyj2.keep s2
    unfold dOp
    rw [hoj]
    refine ⟨u,Hj,hyj2,ih (listed.setIfInBounds j true) _ Hj Hj hcl' hfree' (ready_mono hr (Ne.symm hji)) (yk hD hi ap3 ?_) hK⟩
    obtain ⟨y1,y3,y4,y5⟩:=hy
    refine ⟨y1,fun _=>rfl,(fun h=>by rw [s1] at h;cases h), ?_⟩
    rcases y5 with ⟨hw,_,hwide⟩ | ⟨hw,hv,_⟩
    ·exact .inl ⟨hw,hwide s1 Hj hkp,fun _ H2 h2=>hwide s1 H2 (htrans _ _ _ hkp h2)⟩
    ·exact .inr ⟨hw,hv,rfl⟩
   have goal:dOp N ops Kp D cls j (Lz N ops Kp D cls Q (fuel+1) (listed.setIfInBounds j true)) a H:=by
    cases hci:cls i<;>cases hcj:cls j<;>rw [hci,hcj] at hmix<;>first
     |exact firstPure hci
     |exact secondPure hcj
     |exact wideKeep hci hcj
     |exact both (by rw [hci];rfl) (by rw [hcj];rfl)
     |(cases hmix;done)
   have:=goal
   unfold dOp at this
   rw [hoj] at this
   exact this
def UN(N:Fr)(ops:Array Oper)(Kp:List ab→List ab→Prop)(D:Nat→Env→List ab→AV→List ab→Prop)(cls:Nat→Cl)(Q:ky→Env→List ab→Prop):List Nat→Env→List ab→Prop
 |[],a,H=>Q .normal a H
 |k::ord,a,H => ∃ o v H',ops[k]?=some o∧vf N ops Kp D k (cls k) a H o v H'∧UN N ops Kp D cls Q ord (kT a o.dst v) H'
theorem Oi(hD:Iy P G N ops cls D)(htrans:∀ H1 H2 H3,Kp H1 H2→Kp H2 H3→Kp H1 H3):∀ (ord:List Nat) (listed:Array Bool) (a:Env) (H:List ab),C7 ops listed →
  Nc ops cls ord listed=true→UN N ops Kp D cls Q ord a H→Lz N ops Kp D cls Q ord.length listed a H
 |[],_,_,_,_,hB,h=>⟨by simpa [Nc] using hB,h⟩
 |k::ord,listed,a,H,hc,hB,h=>by
  simp only [Nc,Bool.and_eq_true] at hB
  obtain ⟨⟨hr,hf⟩,hB'⟩:=hB
  obtain ⟨o,v,H',ho,hy,h⟩:=h
  have hr':k∈Region.ready .any ops listed:=by simpa using hr
  exact PZ hD htrans ho ord.length listed a H H' hc (PP ho hf) hr' hy (Oi hD htrans ord _ _ _ (Nd hc hr') hB' h)
theorem RJ{id:Nat}(cls:Nat→Cl)(hD:Iy P G N ops cls D)(Kp:List ab→List ab→Prop)(ord:List Nat)(htrans:∀ H1 H2 H3,Kp H1 H2→Kp H2 H3→Kp H1 H3)(hm:P.follows .mixedOrders=true)
  (hl:ord.length=ops.size) (hB:Nc ops cls ord (Array.replicate ops.size false)=true) (h:UN N ops Kp D cls Q ord a H) :
  AWP P G N (.region id ops true) Q a H:=fun K act w hg hr=>by
 refine wp_region_any hm (Ba (Kp:=Kp) (cls:=cls) hD hg ops.size _ K a H act _ (.refl K) ⟨hr.inv.drew,hr.defers,hr.size,hr.tmps⟩ ?_)
 have:=Oi (P:=P) (G:=G) (N:=N) (Q:=Q) hD htrans ord (Array.replicate ops.size false) a H Nf hB h
 rw [hl] at this
 exact this
end
inductive RS where
 |op (o:ROp)
 |call (f:RX) (args:List RX)
 |panic (x:RX)
 deriving Inhabited
structure RO where
 d:Option Nat
 g:Option (Nat×Bool)
 s:RS
 deriving Inhabited
structure LH where
 live:Option (List Nat):=none
 tks:List (Nat×Nat×TypeId):=[]
 cut:Bool:=false
 deriving Inhabited
inductive AC where
 |skip
 |exit (id:Nat)
 |ret
 |seq (x y:AC)
 |cond (c:RX) (x y:AC)
 |block (id:Nat) (x:AC)
 |loop (h:LH) (x:AC)
 |ops (l:List RO)
 |dops (s:Bool) (T L:List Nat) (l:List (RO×Cl))
 |lv (l:List Nat)
 |bad
 deriving Inhabited
def RX.uses:RX→List Nat
 |.t n=>[n]
 |.c _=>[]
def Gz:Option RX→List Nat
 |some x=>x.uses
 |none=>[]
def JU:List RX→List Nat
 |[]=>[]
 |x::l=>x.uses++JU l
def Mi:List (Nat×RX)→List Nat
 |[]=>[]
 |x::l=>x.2.uses++Mi l
def ROp.uses:ROp→List Nat
 |.mv x | .bx _ x | .ld _ x | .nc x | .un _ x | .cvi _ x | .cvs x | .cvbs x | .cvsb x | .mi _ x | .ta _ _ _ x | .fa _ x | .fd _ _ x | .ex x _ | .rg x | .nx x | .len _ x | .cap x | .usl x | .cvu x | .cvf _ _ x | .cl _ _ x=>x.uses
 |.pk c x y=>c.uses++(x.uses++y.uses)
 |.nw _ _ | .mm | .nwb .. => []
 |.bd _ _ ps=>Mi ps
 |.bs _ _ _ ps=>Mi ps
 |.st _ x v=>x.uses++v.uses
 |.ar _ x y | .sh _ x y | .an x y | .eq _ _ x y | .ias _ x y | .iaa _ _ x y | .ixs x y | .ixa _ _ _ x y | .lk _ _ _ x y | .ap _ _ _ _ _ x y | .cp _ _ x y | .mx x y | .mn x y | .ms _ _ _ x y | .ust _ x y | .apz _ _ _ _ x y=>x.uses++y.uses
 |.mf _ xs ys=>JU xs++JU ys
 |.sls x l h=>x.uses++(Gz l++Gz h)
 |.sll _ x l h m=>x.uses++(Gz l++(Gz h++Gz m))
 |.sla _ _ x l h=>x.uses++(Gz l++Gz h)
 |.mu _ m k v=>m.uses++(k.uses++v.uses)
def RS.uses:RS→List Nat
 |.op o=>o.uses
 |.call f args=>f.uses++JU args
 |.panic x=>x.uses
def Oj:ROp→Bool
 |.mv _ | .pk .. | .nc _ | .ar .. | .sh .. | .an .. | .eq .. | .un .. | .cvi .. | .cvs _ | .cvsb _ | .mi .. | .ta .. | .mf .. | .sls .. | .sll .. | .sla .. | .fa .. | .fd .. | .ias .. | .iaa .. | .ixs .. | .ixa .. | .ex .. | .cap _ | .mx .. | .mn .. | .bd .. | .bs .. | .usl _=>true
 |_=>false
def Mj:ROp→Bool
 |.ld .. | .lk .. | .len .. | .cvbs _=>true
 |_=>false
def Ol:ROp→Bool
 |.nw .. | .bx .. | .mm | .ms .. | .nwb .. | .apz .. | .ap false _ _ _ _ (.c (.slice .nil _ _)) _=>true
 |_=>false
def Nl:AV→Option Nat
 |.ptr id _=>some id
 |.rslice id _ _ _ _=>some id
 |.map id=>some id
 |_=>none
def o1:AV→Option Nat
 |.rslice id _ _ _ _=>some id
 |.slice (.own t) _ _=>some t
 |_=>none
def Bb(a:Env):ROp→Option Nat
 |.ld _ x | .lk _ _ _ x _ | .len _ x | .cvbs x=>Nl (rx a x)
 |_=>none
def zK(q:Cl)(s:Bool):RS→Cl
 |.op o=>if Oj o then .pure else if Mj o then .wide else if Ol o then .keep else match o with
  |.st .. => if s then .keep else .eff
  |.ap .. => if s then .keep else .eff
  |_=>.eff
 |.call .. => q
 |.panic _=>.eff
section
variable(P:Program)(G:Nat→Option (List AV))
def Nm(ops:Array Oper)(o:Oper):Option (Option (Nat×Bool)):=
 match o.guard with
 |none=>some none
 |some (j,b)=>match (ops[j]?).bind (·.dst) with
  |some d=>some (some (d,b))
  |none=>none
def yl:List Operand→List TypeId→List RX
 |[],_=>[]
 |x::xs,[]=>cx0 G x::yl xs []
 |x::xs,t::ts=>cx P G t x::yl xs ts
def cRS(m:Bool)(ty:TypeId)(op:Op):Option RS:=
 match op with
 |.call c=>match c.callee with
  |.value f=>some (.call (cx0 G f) (yl P G c.args.toList c.argTypes.toList))
  |.builtin _=>(cOp P G m ty op).map .op
  |.invoke _ _=>none
 |.panic x=>some (.panic (cx0 G x))
 |op=>(cOp P G m ty op).map .op
def VP(n:Nat):Option Nat→Bool
 |some d=>d<n
 |none=>true
def cRO(m:Bool)(n:Nat)(ops:Array Oper)(o:Oper):Option RO:=
 match Nm ops o,cRS P G m o.type o.op with
 |some g,some s=>if VP n o.dst then some ⟨o.dst,g,s⟩ else none
 |_,_=>none
def IU(m:Bool)(n:Nat)(ops:Array Oper):List Oper→Option (List RO)
 |[]=>some []
 |o::l=>match cRO P G m n ops o with
  |some r=>match IU m n ops l with
   |some rs=>some (r::rs)
   |none=>none
  |none=>none
def Bc(q:Cl)(s:Bool)(ros:List RO)(k:Nat):Cl:=
 match ros[k]? with
 |some r=>zK q s r.s
 |none=>.eff
def S1(ops:Array Oper)(ros:List RO):Bool:=(ops.toList.zip ros).all fun p=>p.2.s.uses.all fun t=>(p.1.looksAt ops).contains t
def UO:RS→Bool
 |.call .. => true
 |_=>false
def JV(ops:Array Oper)(ros:List RO):Nat→Array Bool→List Nat
 |0,_=>[]
 |f+1,listed=>
  let rd:=Region.ready .any ops listed
  match (rd.find? fun k=>match ros[k]? with | some o => !UO o.s | none=>false) with
  |some k=>k::JV ops ros f (listed.setIfInBounds k true)
  |none=>match rd with
   |k::_=>k::JV ops ros f (listed.setIfInBounds k true)
   |[]=>[]
def JW(ops:Array Oper)(ros:List RO):Nat→Array Bool→List Nat
 |0,_=>[]
 |f+1,listed=>
  let rd:=Region.ready .any ops listed
  match (rd.find? fun k=>match ros[k]? with | some o=>(match o.s with | .op op=>Oj op||Mj op | _=>false) | none=>false) with
  |some k=>k::JW ops ros f (listed.setIfInBounds k true)
  |none=>match rd with
   |k::_=>k::JW ops ros f (listed.setIfInBounds k true)
   |[]=>[]
def UP(ops:Array Oper)(ros:List RO):List (Cl×Bool×List Nat)→Option AC
 |[]=>none
 |(q,s,ord)::l=>
  if ord.length == ops.size&&Nc ops (Bc q s ros) ord (Array.replicate ops.size false) then some (.dops s [] [] (ord.map fun k=>(ros.getD k default,Bc q s ros k)))
  else UP ops ros l
def VQ(ops:Array Oper)(ros:List RO):Option AC:=
 if S1 ops ros then
  let r:=List.range ops.size
  let late:=JV ops ros ops.size (Array.replicate ops.size false)
  let wo:=JW ops ros ops.size (Array.replicate ops.size false)
  UP ops ros [(.eff,false,r),(.keep,false,r),(.eff,false,late),(.keep,false,late),(.wide,false,r),(.wide,true,r),(.wide,true,late),(.quiet,true,r),(.eff,true,r),(.keep,true,r),(.eff,true,late),(.keep,true,late),(.eff,true,wo),(.keep,true,wo)]
 else none
def ln(m:Nat→Bool)(n:Nat):Code→Option AC
 |.skip=>some .skip
 |.label _=>some .skip
 |.exit id=>some (.exit id)
 |.ret=>some .ret
 |.refuse _=>some .bad
 |.seq x y=>match ln m n x with
  |some x'=>match ln m n y with
   |some y'=>some (.seq x' y')
   |none=>none
  |none=>none
 |.cond c x y=>match ln m n x with
  |some x'=>match ln m n y with
   |some y'=>some (.cond (cx0 G c) x' y')
   |none=>none
  |none=>none
 |.block id x=>match ln m n x with
  |some x'=>some (.block id x')
  |none=>none
 |.loop x=>match ln m n x with
  |some x'=>some (.loop {} x')
  |none=>none
 |.region id ops draw=>match IU P G (m id) n ops ops.toList with
  |some ros=>if draw then VQ ops ros else some (.ops ros)
  |none=>none
 |_=>none
end
def AC.strip:AC→AC
 |.seq x (.lv _)=>x.strip
 |.seq x y=>.seq x.strip y.strip
 |.cond c x y=>.cond c x.strip y.strip
 |.block id x=>.block id x.strip
 |.loop _ x=>.loop {} x.strip
 |c=>c
inductive RM where
 |drop
 |keep
 |frz
 deriving Inhabited
inductive yy where
 |t (n:Nat)
 |cell (x:Nat) (g:Option Nat)
 deriving Inhabited
structure AFn where
 c:AC
 n:Nat
 res:List yy
 mode:RM:=.drop
 muts:List Nat:=[]
 dfr:Option (List RO×RX×AC):=none
 deriving Inhabited
def Ch(P:Program):List ResultVar→Option (List yy)
 |[]=>some []
 |.tmp t::l=>match Ch P l with
  |some r=>some (.t t::r)
  |none=>none
 |.cell a t::l=>match PW P t with
  |some g=>match Ch P l with
   |some r=>some (.cell a g::r)
   |none=>none
  |none=>none
def P0:Code→Option (Code×Nat×Array Oper×List Oper×Oper×Code)
 |.seq A (.seq (.region id ops false) B)=>match ops.toList.reverse with
  |o::os=>match o.op with
   |.defer _=>some (A,id,ops,os.reverse,o,B)
   |_=>none
  |[]=>none
 |_=>none
def S2(P:Program)(G:Nat→Option (List AV))(m:Nat→Bool)(n:Nat)(x:Code×Nat×Array Oper×List Oper×Oper×Code):Option (AC×List RO×RX×AC):=
 match x with
 |(A,id,ops,os,o,B)=>
  match o.op with
  |.defer c=>match c.callee with
   |.value f=>
    if o.guard.isNone&&o.dst.isNone&&c.args.isEmpty then
     match ln P G m n A,IU P G (m id) n ops os,ln P G m n B with
     |some a,some rs,some b=>some (a,rs,cx0 G f,b)
     |_,_,_=>none
    else none
   |_=>none
  |_=>none
def Om(P:Program)(G:Nat→Option (List AV))(f:FuncId):Option (Nat×AC×Nat×List yy):=
 match P.funcs[f]? with
 |none=>none
 |some fn=>if fn.name == "runtime.NumGoroutine" then none else
  match fn.body with
  |some (.seq (.region _ ops false) B)=>match ops.toList with
   |[o]=>match o.op,o.dst with
    |.call c,some d=>match c.callee with
     |.builtin .recover=>if o.guard.isNone&&d<fn.ntmps then (match ln P G (fun _=>false) fn.ntmps B,Ch P fn.results.toList with
       |some b,some rs=>some (d,b,fn.ntmps,rs)
       |_,_=>none) else none
     |_=>none
    |_,_=>none
   |_=>none
  |_=>none
def S3(P:Program)(G:Nat→Option (List AV))(muts:List Nat)(f:FuncId):Option (AC×Nat×List yy×Option (List RO×RX×AC)):=
 match P.funcs[f]? with
 |none=>none
 |some fn=>if fn.name == "runtime.NumGoroutine" then none else
  match fn.body with
  |none=>none
  |some c=>match Ch P fn.results.toList with
   |none=>none
   |some rs=>match P0 c with
    |none=>match ln P G (muts.contains ·) fn.ntmps c with
     |none=>none
     |some ac=>some (ac,fn.ntmps,rs,none)
    |some x=>match S2 P G (muts.contains ·) fn.ntmps x with
     |none=>none
     |some (ac,l,y,B)=>some (ac,fn.ntmps,rs,some (l,y,B))
abbrev Out:=vN×List ab
inductive Fra where
 |c (x:AC)
 |blk (id:Nat)
 |lp (h:LH) (x:AC) (H:List ab)
 |df (x:RX) (B:AC)
 |dr (v:AV)
 deriving Inhabited
def unw(id:Nat):List Fra→Option (List Fra)
 |[]=>none
 |.blk j::k=>if j=id then some k else unw id k
 |_::k=>unw id k
def GA:List Fra→Option AV
 |[]=>none
 |.dr v::_=>some v
 |_::k=>GA k
def Q3(n:Nat):ab→Prop
 |.cells cs _ => ∀ c∈cs,Wk n c c
 |.map es => ∀ e∈es,Wk n e.1 e.1∧Wk n e.2 e.2
 |_=>True
def dL(H0 H:List ab):Prop:=H0.length≤H.length∧∀ (i:Nat) (x:ab),i<H0.length→H[i]?=some x→H0[i]?=some x∨Q3 H0.length x
def Bd:AV→AV
 |.slice _ esz rows=>.slice .any esz rows
 |v=>v
def Ci:AV→AV
 |.agg cs=>.agg (cs.map Bd)
 |.tuple cs=>.tuple (cs.map Bd)
 |v=>Bd v
def rT(a:Env):List Nat→Env
 |[]=>.leaf
 |t::l=>uB (rT a l) t (iu a t)
def relive(h:LH)(a:Env):Env:=
 match h.live with
 |some l=>rT a l
 |none=>a
def zL:List (Nat×Nat×TypeId)→Env→List ab→Env×List ab
 |[],a,H=>(a,H)
 |(t,sz,e)::l,a,H=>match iu a t with
  |.slice .nil _ []=>zL l (uB a t (.slice (.own H.length) sz [])) (H++[.tok 0 e])
  |.slice .full n rows=>if Jz rows=false then zL l (uB a t (.slice (.own H.length) n rows)) (H++[.tok (rows.length*n) e]) else zL l a H
  |_=>zL l a H
def E8(a:Env)(o:RO):Option Bool:=
 match o.g with
 |none=>some true
 |some (d,w)=>match iu a d with
  |.bool b=>some (b == w)
  |.tuple _=>some false
  |_=>none
structure bt where
 P:Program
 G:Nat→Option (List AV)
 fn:FuncId→Option AFn
 orc:FuncId→List AV→List ab→Option Out
 dfn:FuncId→Option (Nat×AFn)
 wo:FuncId→List AV→List ab→Option (AV×List Nat):=fun _ _ _=>none
def GB(E:bt)(f:FuncId)(args:List AV)(v:AV):Prop:=∀ H,eS E.P E.G f args H fun r H'=>r = .ret v∧H'=H
def Db(a:Env)(H:List ab):yy→Option AV
 |.t n=>some (iu a n)
 |.cell x g=>pw g H (iu a x)
def ym(a:Env)(H:List ab):List yy→Option (List AV)
 |[]=>some []
 |r::l=>match Db a H r with
  |some v=>match ym a H l with
   |some vs=>some (v::vs)
   |none=>none
  |none=>none
def Nn(a:Env)(H:List ab)(l:List yy):Option AV:=
 match l with
 |[r]=>Db a H r
 |l=>match ym a H l with
  |some vs=>some (.tuple vs)
  |none=>none
def Wa(n:Nat)(H:List ab)(v:AV):AV:=
 match v with
 |.rslice id off len esz room=>if n≤id then (match H[id]? with
   |some (.cells cs _)=>.slice .any esz (kS esz len (cs.drop off))
   |_=>.unk) else .rslice id off len esz room
 |.map id=>if n≤id then (match H[id]? with
   |some (.map es)=>.vmap es
   |_=>.unk) else .map id
 |.slice _ esz rows=>.slice .any esz rows
 |v=>v
def UQ(n:Nat)(H:List ab)(v:AV):AV:=
 match v with
 |.tuple vs=>.tuple (vs.map (Wa n H))
 |v=>Wa n H v
def On(H0 H:List ab)(v v':AV):Prop:=
 ∀ (K K':aJ) (w w':World) (x:Value),Inv K H0 w→Inv K' H w'→K.le K'→V K' v x→∃ K2,K.le K2∧V K2 v' x∧Inv K2 (H.take H0.length) w'
def apart(T L:List Nat):Prop:=∀ x∈L,x ∉ T
inductive Cj (p:Prop) where
 |yes (h:p)
 |no
def Cj.b{p:Prop}:Cj p→Bool
 |.yes _=>true
 |.no=>false
theorem Cj.of{p:Prop}{s:Cj p}(h:s.b=true):p:=by
 cases s with
 |yes q=>exact q
 |no=>cases h
structure Dec where
 frz:∀ H0 H v v',Cj (On H0 H v v')
 hand:∀ (H0 H:List ab) (v:AV),Cj (dL H0 H∧Wk H0.length v (Ci v))
 back:∀ (He H:List ab) (a:Env) (l:List Nat),Cj (dL He H∧∀ t∈l,Wk He.length (iu a t) (iu a t))
 ap:∀ T L,Cj (apart T L)
 wide:∀ (E:bt) (g:FuncId) (args:List AV) (H:List ab) (v:AV) (H':List ab),Cj (H'=H∧GB E g args v)
 same:∀ (H H':List ab),Cj (H'=H)
 keep:∀ (H H':List ab),Cj (H'.take H.length=H)
def u6(dec:Dec)(mode:RM)(H0 H:List ab)(v:AV):Option (AV×List ab):=
 match mode with
 |.keep=>some (v,H)
 |.frz=>match dec.frz H0 H v (UQ H0.length H v) with
  |.yes _=>some (UQ H0.length H v,H.take H0.length)
  |.no=>none
 |.drop=>match dec.hand H0 H v with
  |.yes _=>some (Ci v,H.take H0.length)
  |.no=>none
def fin(dec:Dec)(fn:AFn)(H0:List ab)(a:Env)(H:List ab):Option Out:=
 match Nn a H fn.res with
 |some v=>match u6 dec fn.mode H0 H v with
  |some (v',H')=>some (.ret v',H')
  |none=>none
 |none=>none
def RK(dec:Dec)(fn:AFn)(H0:List ab)(v:AV)(H:List ab):Option Out:=
 match u6 dec fn.mode H0 H v with
 |some (v',H')=>some (.panic v',H')
 |none=>none
def rU(dec:Dec)(h:LH)(He:List ab)(a:Env)(H:List ab):Option (Env×List ab):=
 if h.cut then
  match h.live with
  |some l=>match dec.back He H a l with
   |.yes _=>some (rT a l,H.take He.length)
   |.no=>none
  |none=>none
 else some (relive h a,H)
def rV(h:LH)(a:Env)(H:List ab):Env×List ab:=let r:=zL h.tks a H;(relive h r.1,r.2)
def tY(s:Bool)(c:Cl)(a:Env)(op:ROp)(T L:List Nat):Option (List Nat×List Nat):=
 match c with
 |.wide=>if s then (match Bb a op with
  |some id=>some (T,id::L)
  |none=>some (T,L)) else some (T,L)
 |.keep=>match op with
  |.st _ x _=>match Nl (rx a x) with
   |some id=>some (id::T,L)
   |none=>none
  |.ap _ _ _ _ _ x _=>match o1 (rx a x) with
   |some id=>some (id::T,L)
   |none=>some (T,L)
  |_=>some (T,L)
 |.quiet=>none
 |_=>some (T,L)
def Oo(E:bt)(c:Cl)(g:FuncId)(args:List AV)(H:List ab):Option (AV×List Nat):=
 match c with
 |.wide=>E.wo g args H
 |_=>none
def vg(dec:Dec)(E:bt)(c:Cl)(g:FuncId)(args:List AV)(H:List ab)(v:AV)(H':List ab):Bool:=
 match c with
 |.wide=>(dec.wide E g args H v H').b
 |.quiet=>(dec.same H H').b
 |.keep=>(dec.keep H H').b
 |.pure=>false
 |.eff=>true
abbrev Rec:=AFn→List ab→List Fra→Env→List ab→Option Out
def tu(E:bt)(f:Rec)(v p:AV)(H:List ab):Option (List ab):=
 match v with
 |.fn (.func g) first cap=>match E.dfn g with
  |some (d,fn')=>match f fn' H [.c fn'.c] (uB (env (first++cap)) d p) H with
   |some (.ret _,H')=>some H'
   |_=>none
  |none=>none
 |_=>none
def ti(dec:Dec)(E:bt)(f:Rec)(fn:AFn)(H0:List ab)(k:List Fra)(a:Env)(H:List ab):Option Out:=
 match fn.dfr with
 |none=>fin dec fn H0 a H
 |some _=>match GA k with
  |some v=>match tu E f v .nilif H with
   |some H'=>fin dec fn H0 a H'
   |none=>none
  |none=>none
def mz(dec:Dec)(E:bt)(f:Rec)(fn:AFn)(H0:List ab)(k:List Fra)(a:Env)(p:AV)(H:List ab):Option Out:=
 match fn.dfr with
 |none=>RK dec fn H0 p H
 |some _=>match GA k with
  |some v=>match tu E f v p H with
   |some H'=>fin dec fn H0 a H'
   |none=>none
  |none=>none
def Ek(E:bt)(f:Rec)(g:FuncId)(args:List AV)(H:List ab):Option Out:=
 match E.fn g with
 |some fn'=>match fn'.dfr with
  |none=>f fn' H [.c fn'.c] (env args) H
  |some (l,x,B)=>f fn' H [.c fn'.c,.c (.ops l),.df x B] (env args) H
 |none=>E.orc g args H
def ev(dec:Dec)(E:bt):Nat→AFn→List ab→List Fra→Env→List ab→Option Out
 |0,_,_,_,_,_=>none
 |n+1,fn,H0,k,a,H=>
  let rec':Rec:=fun fn H0 k a H=>ev dec E n fn H0 k a H
  match k with
  |[]=>match fn.dfr with
   |none=>fin dec fn H0 a H
   |some _=>none
  |.df x B::k=>match rx a x with
   |.fn (.func g) first cap=>if (E.dfn g).isSome then ev dec E n fn H0 (.c B :: .dr (.fn (.func g) first cap)::k) a H else none
   |_=>none
  |.dr v::k=>ti dec E rec' fn H0 (.dr v::k) a H
  |.blk _::k=>ev dec E n fn H0 k a H
  |.lp h x He::k=>match rU dec h He a H with
   |some (a',H')=>ev dec E n fn H0 (.c x :: .lp h x H'::k) a' H'
   |none=>none
  |.c ac::k=>match ac with
   |.skip=>ev dec E n fn H0 k a H
   |.exit id=>match unw id k with
    |some k'=>ev dec E n fn H0 k' a H
    |none=>none
   |.ret=>ti dec E rec' fn H0 k a H
   |.seq x y=>ev dec E n fn H0 (.c x :: .c y::k) a H
   |.lv l=>ev dec E n fn H0 k (rT a l) H
   |.bad=>none
   |.cond c x y=>match rx a c with
    |.bool b=>if b=true then ev dec E n fn H0 (.c x::k) a H else ev dec E n fn H0 (.c y::k) a H
    |_=>none
   |.block id x=>ev dec E n fn H0 (.c x :: .blk id::k) a H
   |.loop h x=>ev dec E n fn H0 (.c x :: .lp h x (rV h a H).2::k) (rV h a H).1 (rV h a H).2
   |.ops []=>ev dec E n fn H0 k a H
   |.ops (o::os)=>match E8 a o with
    |none=>none
    |some false=>ev dec E n fn H0 (.c (.ops os)::k) (kT a o.d iY) H
    |some true=>match o.s with
     |.op op=>match rop a H op with
      |some (v,H')=>ev dec E n fn H0 (.c (.ops os)::k) (kT a o.d v) H'
      |none=>none
     |.call f args=>match rx a f with
      |.fn (.func g) first cap=>match Ek E rec' g (first++args.map (rx a)++cap) H with
       |some (.ret v,H')=>ev dec E n fn H0 (.c (.ops os)::k) (kT a o.d v) H'
       |some (.panic v,H')=>mz dec E rec' fn H0 k a v H'
       |none=>none
      |_=>none
     |.panic x=>match rx a x with
      |.iface t v=>mz dec E rec' fn H0 k a (.iface t v) H
      |_=>none
   |.dops _ T L []=>match dec.ap T L with
    |.yes _=>ev dec E n fn H0 k a H
    |.no=>none
   |.dops s T L ((o,c)::l)=>match E8 a o with
    |none=>none
    |some false=>ev dec E n fn H0 (.c (.dops s T L l)::k) (kT a o.d iY) H
    |some true=>match o.s with
     |.op op=>match rop a H op with
      |some (v,H')=>match tY s c a op T L with
       |some (T',L')=>ev dec E n fn H0 (.c (.dops s T' L' l)::k) (kT a o.d v) H'
       |none=>none
      |none=>none
     |.call f args=>match rx a f with
      |.fn (.func g) first cap=>match Oo E c g (first++args.map (rx a)++cap) H with
       |some (v,L1)=>ev dec E n fn H0 (.c (.dops s T (L1++L) l)::k) (kT a o.d v) H
       |none=>match Ek E rec' g (first++args.map (rx a)++cap) H with
        |some (.ret v,H')=>if vg dec E c g (first++args.map (rx a)++cap) H v H' then ev dec E n fn H0 (.c (.dops s T L l)::k) (kT a o.d v) H' else none
        |_=>none
      |_=>none
     |.panic _=>none
section
variable{P:Program}{G:Nat→Option (List AV)}{K:aJ}{N:Fr}{a:Env}{H:List ab}{act:Act}{w:World}
theorem JX{dst:Option Nat}{u:AV}{x:RX}(h:∀ d,dst=some d→d ∉ x.uses):rx (kT a dst u) x=rx a x:=by
 cases dst with
 |none=>rfl
 |some d=>
  cases x with
  |t n=>
   simp only [rx,kT,rh]
   rw [if_neg (fun e=>h d rfl (by rw [e];simp [RX.uses]))]
  |c v=>rfl
theorem UR{dst:Option Nat}{u:AV}{x:Option RX}(h:∀ d,dst=some d→d ∉ Gz x):x.map (rx (kT a dst u))=x.map (rx a):=by
 cases x with
 |none=>rfl
 |some x=>simp only [Option.map_some];rw [JX h]
theorem Jq{dst:Option Nat}{u:AV}:∀ {l:List RX} (_:∀ d,dst=some d→d ∉ JU l),l.map (rx (kT a dst u))=l.map (rx a)
 |[],_=>rfl
 |x::l,h=>by
  rw [List.map_cons,List.map_cons,JX fun d hd hm=>h d hd (by simp [JU,hm]),Jq fun d hd hm=>h d hd (by simp [JU,hm])]
theorem No{dst:Option Nat}{u:AV}:∀ {l:List (Nat×RX)} (_:∀ d,dst=some d→d ∉ Mi l),(l.map fun p=>(p.1,rx (kT a dst u) p.2))=l.map fun p=>(p.1,rx a p.2)
 |[],_=>rfl
 |x::l,h=>by
  rw [List.map_cons,List.map_cons,JX fun d hd hm=>h d hd (by simp [Mi,hm]),No fun d hd hm=>h d hd (by simp [Mi,hm])]
theorem US{dst:Option Nat}{u:AV}{o:ROp}(h:∀ d,dst=some d→d ∉ o.uses):rop (kT a dst u) H o=rop a H o:=by
 have one:∀ x:RX,(∀ t,t∈x.uses→t∈o.uses)→rx (kT a dst u) x=rx a x:=fun x hx=>JX fun d hd hm=>h d hd (hx d hm)
 have opt:∀ x:Option RX,(∀ t,t∈Gz x→t∈o.uses)→x.map (rx (kT a dst u))=x.map (rx a):=fun x hx=>UR fun d hd hm=>h d hd (hx d hm)
 cases o<;>simp only [rop]
 case pk c x y=>rw [one c (by simp +contextual [ROp.uses]),one x (by simp +contextual [ROp.uses]),one y (by simp +contextual [ROp.uses])]
 case bd z pl ps=>rw [No fun d hd hm=>h d hd (by simpa [ROp.uses] using hm)]
 case bs sz z len ps=>rw [No fun d hd hm=>h d hd (by simpa [ROp.uses] using hm)]
 case mf f xs ys=>rw [Jq fun d hd hm=>h d hd (by simp [ROp.uses,hm]),Jq fun d hd hm=>h d hd (by simp [ROp.uses,hm])]
 case sls x l hh=>rw [one x (by simp +contextual [ROp.uses]),opt l (by simp +contextual [ROp.uses]),opt hh (by simp +contextual [ROp.uses])]
 case sla n sz x l hh=>rw [one x (by simp +contextual [ROp.uses]),opt l (by simp +contextual [ROp.uses]),opt hh (by simp +contextual [ROp.uses])]
 case sll sz x l hh m=>rw [one x (by simp +contextual [ROp.uses]),opt l (by simp +contextual [ROp.uses]),opt hh (by simp +contextual [ROp.uses]),opt m (by simp +contextual [ROp.uses])]
 case mu kk m k v=>rw [one m (by simp +contextual [ROp.uses]),one k (by simp +contextual [ROp.uses]),one v (by simp +contextual [ROp.uses])]
 all_goals first
  |rfl
  |(rename_i x;rw [one x (by simp +contextual [ROp.uses])];done)
  |(rename_i x _;rw [one x (by simp +contextual [ROp.uses])];done)
  |(rename_i x y;rw [one x (by simp +contextual [ROp.uses]),one y (by simp +contextual [ROp.uses])];done)
theorem S4{o:ROp}(hp:Oj o=true){v:AV}{H':List ab}(h:rop a H o=some (v,H')):H'=H∧∀ H3,rop a H3 o=some (v,H3):=by
 have on:∀ {x:Option AV},cB H x=some (v,H')→H'=H∧∀ H3,cB H3 x=some (v,H3):=fun {x} h=>by
  obtain ⟨h1,h2⟩:=bo h
  exact ⟨h2,fun H3=>by rw [h1];rfl⟩
 cases o<;>simp only [Oj] at hp<;>(try (cases hp;done))<;>simp only [rop] at h ⊢ <;> first
  |exact on h
  |(cases h;exact ⟨rfl,fun _=>rfl⟩)
  |(split at h<;>first | (cases h;done) | (rename_i he;cases h;exact ⟨rfl,fun _=>by first | rfl | rw [he]⟩))
theorem Oq{o:ROp}(hp:Mj o=true){v:AV}{H':List ab}(h:rop a H o=some (v,H')) :
  H'=H∧∀ H2,(∀ id,Bb a o=some id→id<H.length→H2[id]?=H[id]?)→rop a H2 o=some (v,H2):=by
 have on:∀ {x:Option AV}{y:List ab→Option AV},cB H x=some (v,H')→(∀ H2,(∀ id,Bb a o=some id→id<H.length→H2[id]?=H[id]?)→x=some v→y H2=some v) →
   H'=H∧∀ H2,(∀ id,Bb a o=some id→id<H.length→H2[id]?=H[id]?)→cB H2 (y H2)=some (v,H2):=fun {x y} h hy=>by
  obtain ⟨h1,h2⟩:=bo h
  exact ⟨h2,fun H2 hh=>by rw [hy H2 hh h1];rfl⟩
 have lt:∀ {id:Nat}{x:ab},H[id]?=some x→id<H.length:=fun h=>(List.getElem?_eq_some_iff.1 h).1
 cases o<;>simp only [Mj] at hp<;>(try (cases hp;done))<;>simp only [rop] at h ⊢
 case ld g x=>
  refine on (y:=fun H2=>pw g H2 (rx a x)) h fun H2 hh hx => ?_
  simp only [Bb] at hh
  unfold pw at hx ⊢
  split at hx
  ·rename_i id off he
   rw [he] at hh;try rw [he]
   split at hx
   ·rename_i cs T hc
    simp only [hh id rfl (lt hc),hc];exact hx
   ·cases hx
  ·rename_i he;first | exact hx | (rw [he];exact hx)
  ·cases hx
 case lk kk z ok x k=>
  refine on (y:=fun H2=>rlk H2 kk z ok (rx a x) (rx a k)) h fun H2 hh hx => ?_
  simp only [Bb] at hh
  unfold rlk at hx ⊢
  split at hx
  ·rename_i hf
   rw [if_pos hf]
   split at hx
   ·rename_i es hes
    have:Hy H2 (rx a x)=some es:=by
     unfold Hy at hes ⊢
     split at hes
     ·rename_i he;first | exact hes | (rw [he];exact hes)
     ·rename_i he;first | exact hes | (rw [he];exact hes)
     ·rename_i id he
      rw [he] at hh;try rw [he]
      split at hes
      ·rename_i es' hc;simp only [hh id rfl (lt hc),hc];exact hes
      ·cases hes
     ·cases hes
    rw [this];exact hx
   ·cases hx
  ·cases hx
 case len k x=>
  refine on (y:=fun H2=>A9 H2 k (rx a x)) h fun H2 hh hx => ?_
  simp only [Bb] at hh
  unfold A9 at hx ⊢
  split at hx<;>rename_i he<;>(try (cases hx;done))<;>(try (first | exact hx | (rw [he];exact hx)))
  rename_i id
  rw [he] at hh;try rw [he]
  split at hx
  ·rename_i es hc;simp only [hh _ rfl (lt hc),hc];exact hx
  ·cases hx
 case cvbs x=>
  refine on (y:=fun H2=>Oa H2 (rx a x)) h fun H2 hh hx => ?_
  simp only [Bb] at hh
  unfold Oa at hx ⊢
  split at hx
  ·rename_i he;first | exact hx | (rw [he];exact hx)
  ·rename_i id off len room he
   rw [he] at hh;try rw [he]
   split at hx
   ·rename_i cs T hc
    simp only [hh id rfl (lt hc),hc];exact hx
   ·cases hx
  ·cases hx
theorem Np{H H':List ab}{e:TypeId}{sz bytes:Nat}{str:Bool}{s x v:AV}(h:C8 H e sz bytes str s x=some (v,H')) :
  (∃ L,H'=H++L)∨∃ id o,o1 s=some id∧H'=H.set id o:=by
 unfold C8 at h
 split at h
 ·split at h
  ·split at h
   ·split at h
    ·cases h;exact .inl ⟨[],by simp⟩
    ·split at h
     ·cases h
     ·cases h;exact .inl ⟨_,rfl⟩
     ·cases h;exact .inl ⟨_,rfl⟩
     ·split at h
      ·split at h
       ·cases h;exact .inr ⟨_,_,rfl,rfl⟩
       ·cases h
      ·cases h
   ·cases h
  ·cases h
 ·cases h
theorem Nq{m:Bool}{e:TypeId}{sz bytes:Nat}{str:Bool}{x y:RX}(h:Ol (.ap m e sz bytes str x y)=true):m=false∧∃ n r,x = .c (.slice .nil n r):=by
 cases m<;>cases x<;>(try (simp [Ol] at h;done))
 rename_i v
 cases v<;>(try (simp [Ol] at h;done))
 rename_i tag n r
 cases tag<;>(try (simp [Ol] at h;done))
 exact ⟨rfl,_,_,rfl⟩
theorem UT{o:ROp}(hp:Ol o=true){v:AV}{H':List ab}(h:rop a H o=some (v,H')):∃ L,H'=H++L:=by
 have hp0:=hp
 cases o<;>simp only [Ol] at hp<;>(try (cases hp;done))<;>simp only [rop] at h
 case nw=>cases h;exact ⟨_,rfl⟩
 case nwb=>cases h;exact ⟨_,rfl⟩
 case bx=>
  split at h
  ·cases h;exact ⟨_,rfl⟩
  ·cases h
 case mm=>cases h;exact ⟨_,rfl⟩
 case ms=>
  unfold rms at h
  split at h
  ·split at h
   ·cases h;exact ⟨_,rfl⟩
   ·cases h
  ·cases h
 case apz=>
  unfold PU at h
  split at h
  ·split at h
   ·cases h;exact ⟨[],by simp⟩
   ·split at h
    ·cases h;exact ⟨_,rfl⟩
    ·cases h
  ·cases h
 case ap m e sz bytes str x y=>
  obtain ⟨rfl,n,r,rfl⟩:=Nq hp0
  have h:C8 H e sz bytes str (.slice .nil n r) (rx a y)=some (v,H'):=h
  rcases Np h with h | ⟨id,o,h1,_⟩
  ·exact h
  ·simp [o1] at h1
theorem JY{H H':List ab}{e:TypeId}{sz bytes:Nat}{str:Bool}{s x v:AV}(h:Gv H e sz bytes str s x=some (v,H')) :
  (∃ L,H'=H++L)∨∃ id o L,o1 s=some id∧H'=H.set id o++L:=by
 unfold Gv at h
 split at h
 ·split at h
  ·split at h
   ·split at h
    ·cases h;exact .inl ⟨_,rfl⟩
    ·split at h
     ·cases h;exact .inl ⟨[],by simp⟩
     ·cases h
   ·split at h
    ·split at h
     ·cases h;exact .inr ⟨_,_,_,rfl,rfl⟩
     ·cases h
    ·cases h
   ·cases h
  ·cases h
 ·cases h
theorem Wb{m:Bool}{H H':List ab}{e:TypeId}{sz bytes:Nat}{str:Bool}{s x v:AV}(h:rap m H e sz bytes str s x=some (v,H')) :
  (∃ L,H'=H++L)∨∃ id o L,o1 s=some id∧H'=H.set id o++L:=by
 unfold rap at h
 split at h
 ·rename_i id esz
  split at h
  ·rename_i cs T hc
   rcases Np h with ⟨L,rfl⟩ | ⟨id',o,h1,rfl⟩
   ·exact .inr ⟨_,_,L,rfl,rfl⟩
   ·simp only [o1,Option.some.injEq] at h1
    subst h1
    refine .inr ⟨_,o,[],rfl,by rw [List.set_set];simp⟩
  ·cases h
 ·exact JY h
 ·rcases JY h with h | ⟨_,_,_,h1,_⟩
  ·exact .inl h
  ·simp [o1] at h1
 ·rcases JY h with h | ⟨_,_,_,h1,_⟩
  ·exact .inl h
  ·simp [o1] at h1
 ·rcases Np h with h | ⟨id,o,h1,rfl⟩
  ·exact .inl h
  ·exact .inr ⟨id,o,[],h1,by simp⟩
theorem Wc{sz:Nat}{x y:RX}{v:AV}{H':List ab}(h:rop a H (.st sz x y)=some (v,H')):∃ id o,Nl (rx a x)=some id∧H'=H.set id o:=by
 obtain ⟨h,_⟩:=vU h
 unfold HB at h
 split at h
 ·rename_i id off cs e1 e2
  split at h
  ·split at h
   ·cases h;exact ⟨id,_,by rw [e1];rfl,rfl⟩
   ·cases h
  ·cases h
 ·cases h
theorem Q4{ops:Array Oper}{o:Oper}{d:Option Nat}{g:Option (Nat×Bool)}{s:RS}(h:Nm ops o=some g):E8 a ⟨d,g,s⟩=po ops a o:=by
 unfold Nm at h
 unfold E8 po
 split at h
 ·rename_i hg;cases h;rw [hg]
 ·rename_i j b hg
  rw [hg]
  split at h
  ·rename_i t ht
   cases h
   simp only [ht]
   rfl
  ·cases h
theorem JZ(hg:K.glob=G)(hr:Rel N K a H act w):∀ (xs:List Operand) (ts:List TypeId),Vs K ((yl P G xs ts).map (rx a)) (xs.map act.eval).toArray
 |[],_=>⟨rfl,by simp [yl]⟩
 |x::xs,[]=>by
  have ih:=JZ hg hr xs []
  have h1:Vs K [rx a (cx0 G x)] #[act.eval x]:=⟨rfl,fun i av hi=>by
   cases i with
   |zero=>simp at hi;subst hi;simpa using ri hg hr x
   |succ i=>simp at hi⟩
  have:=h1.append ih
  simpa [yl] using this
 |x::xs,t::ts=>by
  have ih:=JZ hg hr xs ts
  have h1:Vs K [rx a (cx P G t x)] #[act.eval x]:=⟨rfl,fun i av hi=>by
   cases i with
   |zero=>simp at hi;subst hi;simpa using Oe hg hr t x
   |succ i=>simp at hi⟩
  have:=h1.append ih
  simpa [yl] using this
theorem RL(hg:K.glob=G)(hr:Rel N K a H act w)(xs:Array Operand)(ts:List TypeId):Vs K ((yl P G xs.toList ts).map (rx a)) (xs.map act.eval):=by
 have:=JZ (P:=P) hg hr xs.toList ts
 have e:(xs.toList.map act.eval).toArray=xs.map act.eval:=by
  apply Array.ext'
  simp
 rwa [e] at this
theorem Inv.cut{K':aJ}{H':List ab}{w':World}(hi:Inv K H w)(hi':Inv K' H' w')(hk:K.le K')(hc:dL H H') :
  Inv (K'.trunc H.length) (H'.take H.length) w'∧K.le (K'.trunc H.length):=by
 have hn:H.length≤K'.loc.length:=by rw [hi'.len];exact hc.1
 constructor
 ·refine hi'.trunc H.length (fun i cs T0 hlt hcs j av v hj hv => ?_) (fun i es hlt hes j x y v hj => ?_) (fun g cs hg=>(hi.glob g cs (by rw [← hk.glob];exact hg)).trunc hi.len (hi'.glob g cs hg))
  ·rcases hc.2 i _ hlt hcs with h | h
   ·obtain ⟨b,vs,T,h1,h2,h3,h4,h5,_⟩:=hi.obj i _ h
    exact (h5 j av hj).trunc hi.len hv
   ·exact h av (List.mem_of_getElem? hj) K' v hn hv
  ·rcases hc.2 i _ hlt hes with h | h
   ·obtain ⟨b,me,cl,h1,h2,h3,h4,h5,_⟩:=hi.obj i _ h
    obtain ⟨e,_,h6,h7⟩:=h5 j x y hj
    exact ⟨fun hv=>h6.trunc hi.len hv,fun hv=>h7.trunc hi.len hv⟩
   ·have:=h _ (List.mem_of_getElem? hj)
    exact ⟨fun hv=>this.1 K' v hn hv,fun hv=>this.2 K' v hn hv⟩
 ·rw [← hi.len];exact aJ.le_trunc hk hi.own_tok
theorem Iz{dec:Dec}{mode:RM}{K':aJ}{H' H'':List ab}{w':World}{v v':AV}{cv:Value}(hi:Inv K H w)(hi':Inv K' H' w')(hk:K.le K')(hv:V K' v cv)
  (h:u6 dec mode H H' v=some (v',H'')):∃ K2,K.le K2∧V K2 v' cv∧Inv K2 H'' w':=by
 unfold u6 at h
 split at h
 ·cases h;exact ⟨K',hk,hv,hi'⟩
 ·split at h
  ·rename_i hd _
   cases h
   exact hd K K' w w' cv hi hi' hk hv
  ·cases h
 ·split at h
  ·rename_i hd _
   cases h
   obtain ⟨h1,h2⟩:=hi.cut hi' hk hd.1
   exact ⟨_,h2,hd.2 K' cv (by rw [hi'.len];exact hd.1.1) hv,h1⟩
  ·cases h
theorem S5{r:ResultVar}{q:yy}(h:Ch P [r]=some [q]):Db a H q=qI P a H r:=by
 cases r with
 |tmp t=>simp [Ch] at h;subst h;rfl
 |cell x t=>
  simp only [Ch] at h
  split at h
  ·rename_i g hgt
   cases h
   simp only [Db,qI,C9 hgt]
  ·cases h
theorem J0:∀ {l:List ResultVar}{q:List yy},Ch P l=some q→ym a H q=l.mapM (qI P a H)
 |[],q,h=>by cases h;rfl
 |.tmp t::l,q,h=>by
  simp only [Ch] at h
  split at h
  ·rename_i r hr
   cases h
   rw [List.mapM_cons,ym,← J0 hr]
   simp only [Db,qI]
   cases ym a H r<;>rfl
  ·cases h
 |.cell x t::l,q,h=>by
  simp only [Ch] at h
  split at h
  ·rename_i g hgt
   split at h
   ·rename_i r hr
    cases h
    rw [List.mapM_cons,ym,← J0 hr]
    simp only [Db,qI,C9 hgt]
    cases pw g H (iu a x)<;>cases ym a H r<;>rfl
   ·cases h
  ·cases h
theorem cRes_length:∀ {l:List ResultVar}{q:List yy},Ch P l=some q→q.length=l.length
 |[],q,h=>by cases h;rfl
 |.tmp t::l,q,h=>by
  simp only [Ch] at h
  split at h
  ·rename_i r hr;cases h;simp [cRes_length hr]
  ·cases h
 |.cell x t::l,q,h=>by
  simp only [Ch] at h
  split at h
  ·split at h
   ·rename_i r hr;cases h;simp [cRes_length hr]
   ·cases h
  ·cases h
theorem P1{fn:Func}{q:List yy}{v:AV}(hq:Ch P fn.results.toList=some q)(h:Nn a H q=some v):UK P fn a H=some v:=by
 have hl:=cRes_length hq
 unfold UK
 simp only
 split
 ·rename_i r hr
  rw [hr] at hq hl
  obtain ⟨q1,rfl⟩:∃ q1,q=[q1]:=by
   match q,hl with
   |[q1],_=>exact ⟨q1,rfl⟩
  have:=S5 (a:=a) (H:=H) hq
  simp only [Nn] at h
  rw [this] at h
  rw [← h];cases r<;>rfl
 ·rename_i hr
  have hne:∀ q1,q≠[q1]:=fun q1 e=>by
   rw [e] at hl
   match hh:fn.results.toList,hl with
   |[r],_=>exact hr r hh
  have h2:(match ym a H q with | some vs=>some (AV.tuple vs) | none=>none)=some v:=by
   unfold Nn at h
   split at h
   ·rename_i q1;exact absurd rfl (hne q1)
   ·exact h
  rw [J0 hq] at h2
  change Option.map AV.tuple (fn.results.toList.mapM (qI P a H))=some v
  cases hm:fn.results.toList.mapM (qI P a H) with
  |none=>rw [hm] at h2;cases h2
  |some vs=>rw [hm] at h2;exact h2
end
structure bt.Ok (E:bt):Prop where
 mixed:E.P.follows .mixedOrders=true
 fn:∀ f af,E.fn f=some af→S3 E.P E.G af.muts f=some (af.c.strip,af.n,af.res,af.dfr.map fun x=>(x.1,x.2.1,x.2.2.strip))
 dfn:∀ f d af,E.dfn f=some (d,af)→Om E.P E.G f=some (d,af.c.strip,af.n,af.res)∧af.dfr=none
 wo:∀ f args H v L,E.wo f args H=some (v,L)→∀ H2:List ab,(∀ id∈L,id<H.length→H2[id]?=H[id]?)→eS E.P E.G f args H2 fun r H'=>r = .ret v∧H'=H2
 orc:∀ f args H r H',E.orc f args H=some (r,H')→eS E.P E.G f args H fun r2 H2=>r2=r∧H2=H'
section
variable(dec:Dec)(E:bt)
def E9(n:Nat)(g:FuncId)(args:List AV)(H:List ab):Option Out:=Ek E (ev dec E n) g args H
def evX(m:Nat)(fn:AFn)(H0:List ab)(x:ky)(k:List Fra)(a:Env)(H:List ab):Option Out:=
 match x with
 |.normal=>ev dec E m fn H0 k a H
 |.exit id=>match unw id k with
  |some k'=>ev dec E m fn H0 k' a H
  |none=>none
 |.ret=>ti dec E (ev dec E m) fn H0 k a H
 |.panic v=>mz dec E (ev dec E m) fn H0 k a v H
 |.goto _=>none
def RN(n:Nat)(fn:AFn)(H0:List ab)(k:List Fra)(r:Out):ky→Env→List ab→Prop:=fun x a H => ∃ m,m<n∧evX dec E m fn H0 x k a H=some r
end
section
variable{P:Program}{G:Nat→Option (List AV)}{K:aJ}{N:Fr}{a:Env}{H:List ab}{act:Act}{w:World}
theorem UU{c:Code}{Q:ky→Env→List ab→Prop}{a':Env}{H':List ab}(hp:∀ K act w,Rel N K a H act w→∃ K',K.le K'∧Rel N K' a' H' act w)(h:AWP P G N c Q a' H'):AWP P G N c Q a H:=fun K act w hg hr=>by
 obtain ⟨K',hk,hr'⟩:=hp K act w hr
 exact wp_mono (h K' act w (hk.glob.trans hg) hr') fun _ _ _ hl=>hl.mono hk fun _ _ _ q=>q
def S6(N:Fr)(H:List ab)(a':Env)(H':List ab)(a2:Env)(H2:List ab):Prop:=
 ∀ K K' act w0 w,Inv K H w0→K.le K'→Rel N K' a' H' act w→∃ K2,K.le K2∧Rel N K2 a2 H2 act w
theorem Nr{c:Code}{Q:ky→Env→List ab→Prop}(I:Nat→Env→List ab→Prop)(n₀:Nat)(h₀:I n₀ a H)
  (round:∀ n a H,I n a H→AWP P G N c (ky.then (fun a' H' => ∃ n' a2 H2,n'<n∧I n' a2 H2∧S6 N H a' H' a2 H2) Q) a H):AWP P G N (.loop c) Q a H:=fun K act w hg hr=>by
 refine wp_loop_ghost (fun n act w => ∃ K' a' H',K.le K'∧Rel N K' a' H' act w∧I n a' H') n₀ ⟨K,a,H,.refl K,hr,h₀⟩ ?_
 rintro n act w ⟨K',a',H',hk,hr',hI⟩
 refine wp_mono (round n a' H' hI K' act w (hk.glob.trans hg) hr') fun e act' w' hl => ?_
 have h2:=L8 (nx:=fun act w => ∃ n',n'<n∧∃ K' a' H',K.le K'∧Rel N K' a' H' act w∧I n' a' H') hl fun K2 a2 H2 hk2 hr2 ⟨n',a3,H3,hlt,hI',hs⟩=>by
  obtain ⟨K3,hk3,hr3⟩:=hs K' K2 act' w w' hr'.inv hk2 hr2
  exact ⟨n',hlt,K3,a3,H3,hk.trans hk3,hr3,hI'⟩
 cases e with
 |normal=>exact h2
 |exit id=>exact h2.mono hk fun _ _ _ q=>q
 |goto id=>exact h2.mono hk fun _ _ _ q=>q
 |ret=>exact h2.mono hk fun _ _ _ q=>q
 |panic ch=>exact h2.mono hk fun _ _ _ q=>q
 |outgrown=>exact h2.mono hk fun _ _ _ q=>q
theorem Fw:∀ (l:List Nat) (a:Env) (t:Nat),iu (rT a l) t=if t∈l then iu a t else .unk
 |[],a,t=>by simp [rT,L6]
 |x::l,a,t=>by
  rw [rT,rh,Fw l]
  by_cases h:t=x
  ·subst h;simp
  ·simp [h]
theorem Rel.keep(hr:Rel N K a H act w)(l:List Nat):Rel N K (rT a l) H act w:=
 ⟨hr.inv,hr.defers,hr.size,fun t=>by
  rw [Fw]
  split
  ·exact hr.tmps t
  ·exact .unk _⟩
theorem Rel.relive(hr:Rel N K a H act w)(h:LH):Rel N K (relive h a) H act w:=by
 unfold Am.relive
 split
 ·exact hr.keep _
 ·exact hr
theorem vV:∀ (l:List (Nat×Nat×TypeId)) (a:Env) (H:List ab) (K:aJ),Rel N K a H act w→∃ K',K.le K'∧Rel N K' (zL l a H).1 (zL l a H).2 act w
 |[],a,H,K,hr=>⟨K,.refl K,hr⟩
 |(t,sz,e)::l,a,H,K,hr=>by
  have hle:=K.le_push 0
  have hlen:H.length<(K.push 0).loc.length:=by simp [aJ.push,aJ.pushS,hr.inv.len]
  have set:∀ (v:AV) (n:Nat),V (K.push 0) v (act.tmps.getD t undef)→Rel N (K.push 0) (uB a t v) (H++[.tok n e]) act w:=fun v n hv=>
   ⟨hr.inv.tok n e,hr.defers,hr.size,fun t'=>by
    rw [rh]
    split
    ·rename_i e;rw [e];exact hv
    ·exact (hr.tmps t').mono hle⟩
  have ht:=hr.tmps t
  rw [zL]
  split
  ·rename_i esz he
   rw [he] at ht
   have hv:V (K.push 0) (.slice (.own H.length) sz []) (act.tmps.getD t undef):=by
    generalize act.tmps.getD t undef=x at ht
    cases ht with
    |slice0 _ _ a ht=>exact .slice0 _ _ a ⟨fun t e=>(by cases e;exact ⟨hlen,ht.2 rfl⟩),fun e=>(by cases e)⟩
    |slice _ _ _ b o cap vs hl hi hv hc ht=>exact (ht:False).elim
   obtain ⟨K',hk,h⟩:=vV l _ _ _ (set _ 0 hv)
   exact ⟨K',hle.trans hk,h⟩
  ·rename_i n rows he
   split
   ·rename_i hint
    rw [he] at ht
    have hv:V (K.push 0) (.slice (.own H.length) n rows) (act.tmps.getD t undef):=by
     generalize act.tmps.getD t undef=x at ht
     have ht2:=ht.mono hle
     clear ht
     cases ht2 with
     |slice0 _ _ a ht=>cases hint
     |slice _ _ _ b o cap vs hl hi hv hc ht=>exact .slice _ _ _ b o cap vs hl hi hv hc ⟨hlen,.inl ⟨ht,hint⟩⟩
    obtain ⟨K',hk,h⟩:=vV l _ _ _ (set _ _ hv)
    exact ⟨K',hle.trans hk,h⟩
   ·exact vV l a H K hr
  ·exact vV l a H K hr
theorem Ns(h:LH)(hr:Rel N K a H act w):∃ K',K.le K'∧Rel N K' (rV h a H).1 (rV h a H).2 act w:=by
 obtain ⟨K',hk,h2⟩:=vV h.tks a H K hr
 exact ⟨K',hk,h2.relive h⟩
theorem J1{dec:Dec}{h:LH}{He H':List ab}{a' a2:Env}{H2:List ab}(hb:rU dec h He a' H'=some (a2,H2)):S6 N He a' H' a2 H2:=by
 intro K K' act w0 w hi hk hr
 unfold rU at hb
 split at hb
 ·split at hb
  ·rename_i l hl
   split at hb
   ·rename_i hd _
    cases hb
    obtain ⟨h1,h2⟩:=hi.cut hr.inv hk hd.1
    refine ⟨_,h2,h1,hr.defers,hr.size,fun t => ?_⟩
    rw [Fw]
    split
    ·rename_i ht
     exact hd.2 t ht K' _ (by rw [hr.inv.len];exact hd.1.1) (hr.tmps t)
    ·exact .unk _
   ·cases hb
  ·cases hb
 ·cases hb
  exact ⟨K',hk,hr.relive h⟩
theorem rW {f:FuncId}{fn:Func} (hf:P.funcs[f]?=some fn) (h1:(fn.name == "runtime.NumGoroutine")=false) (h2:fn.body.isSome=true) (cargs:Array Value) (w:World) :
  (callFunc f cargs).run P w = .ok (.enter f cargs) w:=by
 have h3:fn.body≠none:=by intro e;rw [e] at h2;cases h2
 have h4:fn.name≠"runtime.NumGoroutine" := by simpa using h1
 simp [callFunc,hf,h4,h3]
end
section
variable{dec:Dec}{E:bt}
def IA(dec:Dec)(E:bt)(n:Nat):Prop:=
 ∀ (fn:AFn) (H0:List ab) (ac:AC) (k:List Fra) (a:Env) (H:List ab) (r:Out),ev dec E n fn H0 (.c ac::k) a H=some r →
  ∀ (N:Fr) (m:Nat→Bool) (nt:Nat) (c:Code),nt≤N.n→ln E.P E.G m nt c=some ac.strip→AWP E.P E.G N c (RN dec E n fn H0 k r) a H
theorem zM{fn':AFn}{fnc:Func}{rs:List yy}(h3:rs=fn'.res)(hrs:Ch E.P fnc.results.toList=some rs){N:Fr}{K K':aJ}{H H2:List ab}{w w':World}{a':Env}{act:Act}{r:vN}{H':List ab}
  (hi:Inv K H w) (hk:K.le K') (hr:Rel N K' a' H2 act w') (hf:fin dec fn' H a' H2=some (r,H')) :
  ∃ cv,(results fnc act.tmps).run E.P w' = .ok cv w'∧Ir K (fun r2 H2=>r2=r∧H2=H') (.returned cv) w':=by
 unfold fin at hf
 split at hf
 ·rename_i v hres
  split at hf
  ·rename_i v' H3 hh
   simp only [Option.some.injEq,Prod.mk.injEq] at hf
   obtain ⟨e1,e2⟩:=hf
   rw [← h3] at hres
   obtain ⟨cv,h5,h6⟩:=PR (P:=E.P) hr (P1 hrs hres)
   obtain ⟨K2,h7,h8,h9⟩:=Iz hi hr.inv hk h6 hh
   subst e1 e2
   exact ⟨cv,h5,K2,.ret v',H3,h7,h8,h9,rfl,rfl⟩
  ·cases hf
 ·cases hf
theorem P2{n:Nat}(hc:IA dec E n){g:FuncId}{fn':AFn}{fnc:Func}{c:Code}{rs:List yy}{args:List AV}{H:List ab}{r:vN}{H':List ab}(hdf:fn'.dfr=none)(hf:E.P.funcs[g]?=some fnc)
  (hname:(fnc.name == "runtime.NumGoroutine")=false) (hb:fnc.body=some c) (h3:rs=fn'.res) (hrs:Ch E.P fnc.results.toList=some rs) (hac:ln E.P E.G (fn'.muts.contains ·) fnc.ntmps c=some fn'.c.strip)
  (h:ev dec E n fn' H [.c fn'.c] (env args) H=some (r,H')):eS E.P E.G g args H fun r2 H2=>r2=r∧H2=H':=by
 have hw:=hc fn' H fn'.c [] (env args) H (r,H') h { n:=args.length+(fnc.ntmps-args.length) } _ fnc.ntmps c (show fnc.ntmps≤args.length+(fnc.ntmps-args.length) from by omega) hac
 intro K w cargs hg hi hv
 refine .inl ⟨rW hf hname (by simp [hb]) cargs w, ?_⟩
 refine calls_of_wp hf hb (wp_mono (hw K _ w hg ⟨hi,rfl,by simp [← hv.size],fun t=>HA hv _ t⟩) ?_)
 rintro e act w' ⟨K',x,a',H2,hk,he,hr,m,hm,hx⟩
 cases x with
 |normal=>
  cases e<;>first | exact (he:False).elim | skip
  have hx':ev dec E m fn' H [] a' H2=some (r,H'):=hx
  cases m with
  |zero=>cases hx'
  |succ m=>
   simp only [ev,hdf] at hx'
   obtain ⟨cv,h5,h6⟩:=zM h3 hrs hi hk hr hx'
   exact ⟨hr.defers,cv,h5,h6⟩
 |ret=>
  cases e<;>first | exact (he:False).elim | skip
  simp only [evX,ti,hdf] at hx
  obtain ⟨cv,h5,h6⟩:=zM h3 hrs hi hk hr hx
  exact ⟨hr.defers,cv,h5,h6⟩
 |panic v=>
  cases e<;>first | exact (he:False).elim | skip
  simp only [evX,mz,hdf] at hx
  unfold RK at hx
  split at hx
  ·rename_i v' H3 hh
   simp only [Option.some.injEq,Prod.mk.injEq] at hx
   obtain ⟨e1,e2⟩:=hx
   obtain ⟨cv,rfl,h6⟩:=he
   obtain ⟨K2,h7,h8,h9⟩:=Iz hi hr.inv hk h6 hh
   subst e1 e2
   exact ⟨hr.defers,K2,.panic v',H3,h7,⟨cv,rfl,h8⟩,h9,rfl,rfl⟩
  ·cases hx
 |exit id=>simp [evX,unw] at hx
 |goto l=>simp [evX] at hx
end
section
variable{P:Program}{G:Nat→Option (List AV)}{K:aJ}{N:Fr}{a:Env}{H:List ab}{act:Act}{w:World}
theorem VR{o:Oper}{v:AV}{H':List ab}(hd:∀ d,o.dst=some d→d<N.n)(hr:Rel N K a H act w)(hok:JN P K ((execOp act.eval o).run P w) v H'){next:Act→World→Prop}{Q:Exit→Act→World→Prop}
  (hn:∀ K' act' w',K.le K'→Rel N K' (kT a o.dst v) H' act' w'→next act' w'):o.wp P act w next Q:=by
 obtain ⟨K',cv,w',h1,h2,h3,h4⟩:=hok
 have hr':=hr.put h1 h4 (dst:=o.dst) h3 hd
 unfold Oper.wp
 rcases h2 with h2 | ⟨h2,rfl⟩
 ·rw [h2];exact hn K' _ _ h1 hr'
 ·rw [h2];exact hn K' _ _ h1 hr'
theorem Nt{o:Oper}{c:Call}{f:Operand}{ts:List TypeId}(hop:o.op = .call c)(hcal:c.callee = .value f)(hg:K.glob=G)(hd:∀ d,o.dst=some d→d<N.n)(hr:Rel N K a H act w)
  {g:FuncId}{first cap:List AV} (he:rx a (cx0 G f) = .fn (.func g) first cap) {R:vN→List ab→Prop} (hc:eS P G g (first++(yl P G c.args.toList ts).map (rx a)++cap) H R)
  {next:Act→World→Prop}{Q:Exit→Act→World→Prop}
  (hn:∀ K' v H' act' w',K.le K'→Rel N K' (kT a o.dst v) H' act' w'→R (.ret v) H'→next act' w')
  (hp:∀ K' v cv H' w',K.le K'→V K' v cv→Rel N K' a H' act w'→R (.panic v) H'→Q (.panic [{ v:=cv,recovered:=false }]) act w'):o.wp P act w next Q:=by
 have hf:=ri hg hr f
 rw [he] at hf
 obtain ⟨vs,us,hfe,h1,h2⟩:=hf.fn_inv
 have hargs:=(h1.append (RL (P:=P) hg hr c.args ts)).append h2
 have hex:(execOp act.eval o).run P w=(callFunc g (vs++c.args.map act.eval++us)).run P w:=by
  unfold execOp
  simp only [hop,resolve,hcal,hfe,Deferred.ofValue,invoke,pure_bind]
 unfold Oper.wp
 rw [hex]
 rcases hc K w _ hg hr.inv hargs with ⟨hrun,hcalls⟩ | ⟨cv,w',hrun,K',r,H',hk,he',hi',hR⟩
 ·rw [hrun,Oper.upon_enter]
  refine hcalls.mono ?_
  rintro e w' ⟨K',r,H',hk,he',hi',hR⟩
  cases e with
  |returned x=>
   cases r with
   |ret v=>exact hn K' v H' _ _ hk (hr.put hk hi' he' hd) hR
   |panic v=>exact (he':False).elim
  |panicked ch=>
   cases r with
   |ret v=>exact (he':False).elim
   |panic v=>
    obtain ⟨cv,rfl,hv⟩:=he'
    exact hp K' v cv H' w' hk hv ⟨hi',hr.defers,hr.size,fun t=>(hr.tmps t).mono hk⟩ hR
  |outgrown=>cases r<;>exact (he':False).elim
 ·rw [hrun,Oper.upon_value]
  cases r with
  |ret v=>exact hn K' v H' _ _ hk (hr.put hk hi' he' hd) hR
  |panic v=>exact (he':False).elim
theorem Wd{o:Oper}{x:Operand}(hop:o.op = .panic x)(hg:K.glob=G)(hr:Rel N K a H act w){t:TypeId}{v:AV}(he:rx a (cx0 G x) = .iface t v)
  {next:Act→World→Prop}{Q:Exit→Act→World→Prop} (hp:∀ cv,V K (.iface t v) cv→Q (.panic [{ v:=cv,recovered:=false }]) act w):o.wp P act w next Q:=by
 have hx:=ri hg hr x
 rw [he] at hx
 obtain ⟨y,hy,hv⟩:=hx.iface_inv
 have hrun:(execOp act.eval o).run P w = .halt (.panic (.iface t y)) w:=by
  unfold execOp
  simp [hop,hy,Instr.panic]
 unfold Oper.wp
 rw [hrun,Oper.upon_panic]
 exact hp _ (.iface t v y hv)
theorem Nu{m:Bool}{ty:TypeId}{op:Op}{s:RS}(h:cRS P G m ty op=some s) :
  (∃ c f,op = .call c∧c.callee = .value f∧s = .call (cx0 G f) (yl P G c.args.toList c.argTypes.toList))∨(∃ x,op = .panic x∧s = .panic (cx0 G x))∨∃ r,cOp P G m ty op=some r∧s = .op r:=by
 unfold cRS at h
 split at h
 ·rename_i c
  split at h
  ·rename_i f hf;cases h;exact .inl ⟨c,f,rfl,hf,rfl⟩
  ·rw [Option.map_eq_some_iff] at h
   obtain ⟨r,h1,rfl⟩:=h
   exact .inr (.inr ⟨r,h1,rfl⟩)
  ·cases h
 ·rename_i x;cases h;exact .inr (.inl ⟨x,rfl,rfl⟩)
 ·rw [Option.map_eq_some_iff] at h
  obtain ⟨r,h1,rfl⟩:=h
  exact .inr (.inr ⟨r,h1,rfl⟩)
theorem Nv{m:Bool}{n:Nat}{ops:Array Oper}{o:Oper}{ro:RO}(h:cRO P G m n ops o=some ro):Nm ops o=some ro.g∧cRS P G m o.type o.op=some ro.s∧ro.d=o.dst∧∀ d,o.dst=some d→d<n:=by
 unfold cRO at h
 split at h
 ·rename_i g s hg hs
  split at h
  ·rename_i hd
   cases h
   refine ⟨hg,hs,rfl,fun d e => ?_⟩
   rw [e] at hd
   simpa [VP] using hd
  ·cases h
 ·cases h
end
section
variable{dec:Dec}{E:bt}
def Dc(dec:Dec)(E:bt)(n:Nat):Prop:=∀ (g:FuncId) (args:List AV) (H:List ab) (r:vN) (H':List ab),E9 dec E n g args H=some (r,H')→eS E.P E.G g args H fun r2 H2=>r2=r∧H2=H'
theorem GC{n:Nat}(hC:∀ j,j<n→Dc dec E j){fn:AFn}{H0:List ab}{k:List Fra}{r:Out}{N:Fr}{m:Bool}{nt:Nat}{ops:Array Oper}(hnt:nt≤N.n){K:aJ}(hg:K.glob=E.G){Qc:Exit→Act→World→Prop}{l2:List Nat}
  (hend:∀ (j:Nat) (K':aJ) (a:Env) (H:List ab) (act:Act) (w:World),j<n→K.le K'→Rel N K' a H act w→ev dec E j fn H0 k a H=some r→wpOps E.P ops Qc l2 act w)
  (hpan:∀ (j:Nat) (K':aJ) (a:Env) (H:List ab) (act:Act) (w:World) (v:AV) (cv:Value),j<n→K.le K'→V K' v cv→Rel N K' a H act w→mz dec E (ev dec E j) fn H0 k a v H=some r→Qc (.panic [{ v:=cv,recovered:=false }]) act w) :
  ∀ (os:List Oper) (ros:List RO) (l:List Nat) (j:Nat) (K':aJ) (a:Env) (H:List ab) (act:Act) (w:World),j≤n→ev dec E j fn H0 (.c (.ops ros)::k) a H=some r →
   IU E.P E.G m nt ops os=some ros→l.map (ops[·]?)=os.map some→K.le K'→Rel N K' a H act w→wpOps E.P ops Qc (l++l2) act w
 |_,_,_,0,_,_,_,_,_,_,h,_,_,_,_=>by cases h
 |[],ros,l,j+1,K',a,H,act,w,hj,h,hc,hl,hk,hr=>by
  cases hc
  cases l with
  |cons=>cases hl
  |nil=>exact hend j K' a H act w (by omega) hk hr h
 |o::os,ros,l,j+1,K',a,H,act,w,hj,h,hc,hl,hk,hr=>by
  cases l with
  |nil=>cases hl
  |cons i l=>
   simp only [List.map_cons,List.cons.injEq] at hl
   obtain ⟨ho,hl⟩:=hl
   simp only [IU] at hc
   split at hc
   ·rename_i ro hro
    split at hc
    ·rename_i rs hrs
     cases hc
     obtain ⟨hgd,hs,hdst,hlt⟩:=Nv hro
     have hd:∀ d,o.dst=some d→d<N.n:=fun d e=>Nat.lt_of_lt_of_le (hlt d e) hnt
     have hg':=hk.glob.trans hg
     have hw:E8 a ro=po ops a o:=by
      obtain ⟨d,g,s⟩:=ro
      exact Q4 hgd
     rw [List.cons_append,wpOps_cons,wpOp,ho]
     simp only
     simp only [ev] at h
     rw [hw] at h
     split at h
     ·cases h
     ·rename_i hwt
      rw [tL hr hwt]
      simp only [Bool.false_eq_true,if_false]
      refine GC hC hnt hg hend hpan os rs l j K' _ H _ w (by omega) h hrs hl hk ?_
      rw [hdst]
      exact hr.put (.refl K') hr.inv D8 hd
     ·rename_i hwt
      rw [tL hr hwt]
      simp only [if_true]
      refine .inl ?_
      have next:∀ K2 v H' act' w',K'.le K2→Rel N K2 (kT a o.dst v) H' act' w'→ev dec E j fn H0 (.c (.ops rs)::k) (kT a ro.d v) H'=some r→wpOps E.P ops Qc (l++l2) act' w':=fun K2 v H' act' w' hk2 hr2 h2=>
       GC hC hnt hg hend hpan os rs l j K2 _ H' act' w' (by omega) (by rw [← hdst];exact h2) hrs hl (hk.trans hk2) hr2
      rcases Nu hs with ⟨c,f,hop,hcal,hsf⟩ | ⟨x,hop,hsx⟩ | ⟨q,hq,hsq⟩
      ·rw [hsf] at h
       simp only at h
       split at h
       ·rename_i g first cap hfe
        have h':(match E9 dec E j g (first++(yl E.P E.G c.args.toList c.argTypes.toList).map (rx a)++cap) H with
         |some (.ret v,H')=>ev dec E j fn H0 (.c (.ops rs)::k) (kT a ro.d v) H'
         |some (.panic v,H')=>mz dec E (ev dec E j) fn H0 k a v H'
         |none=>none)=some r:=h
        split at h'
        ·rename_i v H' hcall
         refine Nt hop hcal hg' hd hr hfe (hC j (by omega) _ _ _ _ _ hcall) ?_ ?_
         ·rintro K2 v2 H2 act' w' hk2 hr2 ⟨e1,e2⟩
          cases e1;subst e2
          exact next K2 v _ act' w' hk2 hr2 h'
         ·rintro K2 v2 cv H2 w' hk2 hv hr2 ⟨e1,e2⟩
          cases e1
        ·rename_i v H' hcall
         refine Nt hop hcal hg' hd hr hfe (hC j (by omega) _ _ _ _ _ hcall) ?_ ?_
         ·rintro K2 v2 H2 act' w' hk2 hr2 ⟨e1,e2⟩
          cases e1
         ·rintro K2 v2 cv H2 w' hk2 hv hr2 ⟨e1,e2⟩
          cases e1;subst e2
          exact hpan j K2 a _ act w' _ cv (by omega) (hk.trans hk2) hv hr2 h'
        ·cases h'
       ·cases h
      ·rw [hsx] at h
       simp only at h
       split at h
       ·rename_i t v hxe
        exact Wd hop hg' hr hxe fun cv hv=>hpan j K' a H act w (.iface t v) cv (by omega) hk hv hr h
       ·cases h
      ·rw [hsq] at h
       simp only at h
       split at h
       ·rename_i v H' hrop
        exact VR hd hr (Mh hg' hr hq hrop) fun K2 act' w' hk2 hr2=>next K2 v H' act' w' hk2 hr2 h
       ·cases h
    ·cases hc
   ·cases hc
theorem UV{n:Nat}(hC:∀ j,j<n→Dc dec E j){fn:AFn}{H0:List ab}{k:List Fra}{r:Out}{N:Fr}{m:Bool}{nt:Nat}{ops:Array Oper}(hnt:nt≤N.n){K:aJ}(hg:K.glob=E.G)
  (os:List Oper) (ros:List RO) (l:List Nat) (j:Nat) (K':aJ) (a:Env) (H:List ab) (act:Act) (w:World) (hj:j≤n) (h:ev dec E j fn H0 (.c (.ops ros)::k) a H=some r)
  (hc:IU E.P E.G m nt ops os=some ros) (hl:l.map (ops[·]?)=os.map some) (hk:K.le K') (hr:Rel N K' a H act w):wpOps E.P ops (M0 N K (RN dec E n fn H0 k r)) l act w:=by
 have:=GC (n:=n) hC hnt hg (Qc:=M0 N K (RN dec E n fn H0 k r)) (l2:=[]) (fun j K' a H act w hj hk hr h=>⟨K',.normal,a,H,hk,trivial,hr,j,hj,h⟩)
  (fun j K' a H act w v cv hj hk hv hr h=>⟨K',.panic v,a,H,hk,⟨cv,rfl,hv⟩,hr,j,hj,h⟩) os ros l j K' a H act w hj h hc hl hk hr
 rwa [List.append_nil] at this
end
def J2(P:Program)(G:Nat→Option (List AV))(o:RO)(a:Env)(H:List ab)(v:AV)(H':List ab):Prop:=
 match o.s with
 |.op op=>rop a H op=some (v,H')
 |.call f args=>match rx a f with
  |.fn (.func g) first cap=>eS P G g (first++args.map (rx a)++cap) H fun r H2=>r = .ret v∧H2=H'
  |_=>False
 |.panic _=>False
def DR(P:Program)(G:Nat→Option (List AV))(ros:List RO)(i:Nat)(a:Env)(H:List ab)(v:AV)(H':List ab):Prop:=
 match ros[i]? with
 |some ro=>J2 P G ro a H v H'
 |none=>False
def KpT(T:List Nat)(H H2:List ab):Prop:=H.length≤H2.length∧∀ i,i<H.length→i ∉ T→H2[i]?=H[i]?
theorem KpT.trans{T:List Nat}(H1 H2 H3:List ab)(h:KpT T H1 H2)(h':KpT T H2 H3):KpT T H1 H3:=
 ⟨Nat.le_trans h.1 h'.1,fun i hi ht=>by rw [h'.2 i (by have:=h.1;omega) ht,h.2 i hi ht]⟩
theorem Be(T:List Nat)(H L:List ab):KpT T H (H++L):=⟨by simp,fun i hi _=>List.getElem?_append_left hi⟩
theorem Q5{T:List Nat}{id:Nat}(ht:id∈T)(H:List ab)(o:ab):KpT T H (H.set id o):=
 ⟨by simp,fun i _ hn=>List.getElem?_set_ne (fun e=>hn (by rw [← e];exact ht))⟩
section
variable{P:Program}{G:Nat→Option (List AV)}{ops:Array Oper}{ros:List RO}{m:Bool}{nt:Nat}{N:Fr}
theorem J3:∀ {os:List Oper}{ros:List RO},IU P G m nt ops os=some ros→∀ (i:Nat) (o:Oper),os[i]?=some o→∃ ro,ros[i]?=some ro∧cRO P G m nt ops o=some ro
 |[],_,_,i,o,h=>by simp at h
 |o::os,ros,hc,i,o',h=>by
  simp only [IU] at hc
  split at hc
  ·rename_i ro hro
   split at hc
   ·rename_i rs hrs
    cases hc
    cases i with
    |zero=>simp at h;subst h;exact ⟨ro,rfl,hro⟩
    |succ i=>exact J3 hrs i o' (by simpa using h)
   ·cases hc
  ·cases hc
theorem S7{ro:RO}{dst:Option Tmp}{u v:AV}{a:Env}{H H':List ab}(h:∀ d,dst=some d→d ∉ ro.s.uses):J2 P G ro (kT a dst u) H v H'=J2 P G ro a H v H':=by
 unfold J2
 cases hs:ro.s with
 |op op=>simp only;rw [US fun d hd hm=>h d hd (by rw [hs];exact hm)]
 |call f args=>
  simp only
  rw [JX (x:=f) fun d hd hm=>h d hd (by rw [hs];simp [RS.uses,hm]),Jq (l:=args) fun d hd hm=>h d hd (by rw [hs];simp [RS.uses,hm])]
 |panic x=>rfl
theorem P3{q:Cl}{s:Bool}{x:RS}(hq:q≠.pure)(h:zK q s x = .pure):∃ o,x = .op o∧Oj o=true:=by
 unfold zK at h
 split at h
 ·rename_i o
  split at h
  ·rename_i hp;exact ⟨o,rfl,hp⟩
  ·split at h
   ·cases h
   ·split at h
    ·cases h
    ·split at h
     ·split at h<;>cases h
     ·split at h<;>cases h
     ·cases h
 ·exact absurd h hq
 ·cases h
theorem J4{q:Cl}{s:Bool}{o:ROp}(h:zK q s (.op o) = .wide):Mj o=true:=by
 unfold zK at h
 simp only at h
 split at h
 ·cases h
 ·split at h
  ·rename_i hw;exact hw
  ·split at h
   ·cases h
   ·split at h
    ·split at h<;>cases h
    ·split at h<;>cases h
    ·cases h
theorem J5{q:Cl}{s:Bool}{o:ROp}(h:zK q s (.op o) = .keep):Ol o=true∨(s=true∧∃ sz x v,o = .st sz x v)∨∃ m e sz bytes str x y,o = .ap m e sz bytes str x y:=by
 unfold zK at h
 simp only at h
 split at h
 ·cases h
 ·split at h
  ·cases h
  ·split at h
   ·rename_i hn;exact .inl hn
   ·split at h
    ·split at h
     ·rename_i hs;exact .inr (.inl ⟨hs,_,_,_,rfl⟩)
     ·cases h
    ·split at h
     ·rename_i hs;exact .inr (.inr ⟨_,_,_,_,_,_,_,rfl⟩)
     ·cases h
    ·cases h
theorem Ot{q:Cl}{s:Bool}{o:ROp}:zK q s (.op o)≠.quiet:=by
 unfold zK
 simp only
 split
 ·simp
 ·split
  ·simp
  ·split
   ·simp
   ·split
    ·split<;>simp
    ·split<;>simp
    ·simp
theorem WY{q:Cl}{s:Bool}(hq:q≠.pure)(hc:IU P G m nt ops ops.toList=some ros)(hu:S1 ops ros=true):Iy P G N ops (Bc q s ros) (DR P G ros):=by
 have get:∀ (i:Nat) (o:Oper),ops[i]?=some o→∃ ro,ros[i]?=some ro∧cRO P G m nt ops o=some ro:=fun i o h=>J3 hc i o (by simpa using h)
 refine ⟨fun i o dst u a H v H' ho hd => ?_,fun i a H v H' hp h => ?_,fun i o a H v H' ho h K act w next Q hg hr hlt hn => ?_⟩
 ·obtain ⟨ro,h1,h2⟩:=get i o ho
  unfold DR
  rw [h1]
  simp only
  rw [S7 fun d e hm=>hd d e ?_]
  have hall:=List.all_eq_true.1 hu (o,ro) (by
   have:(ops.toList.zip ros)[i]?=some (o,ro):=by
    rw [List.getElem?_zip_eq_some];exact ⟨by simpa using ho,h1⟩
   exact List.mem_of_getElem? this)
  have:=List.all_eq_true.1 hall d hm
  simpa using this
 ·unfold DR at h ⊢
  cases hro:ros[i]? with
  |none=>rw [hro] at h;exact h.elim
  |some ro=>
   rw [hro] at h
   have hp':zK q s ro.s = .pure:=by unfold Bc at hp;rw [hro] at hp;exact hp
   obtain ⟨o,ho,hpr⟩:=P3 hq hp'
   simp only [J2,ho] at h ⊢
   exact S4 hpr h
 ·obtain ⟨ro,h1,h2⟩:=get i o ho
  obtain ⟨hgd,hs,hdst,_⟩:=Nv h2
  unfold DR at h
  rw [h1] at h
  simp only [J2] at h
  rcases Nu hs with ⟨c,f,hop,hcal,hsf⟩ | ⟨x,hop,hsx⟩ | ⟨q,hq,hsq⟩
  ·rw [hsf] at h
   simp only at h
   split at h
   ·rename_i g first cap hfe
    refine Nt hop hcal hg hlt hr hfe h ?_ ?_
    ·rintro K2 v2 H2 act' w' hk2 hr2 ⟨e1,e2⟩
     cases e1;subst e2
     exact hn K2 act' w' hk2 hr2
    ·rintro K2 v2 cv H2 w' hk2 hv hr2 ⟨e1,e2⟩
     cases e1
   ·exact h.elim
  ·rw [hsx] at h;exact h.elim
  ·rw [hsq] at h
   exact VR hlt hr (Mh hg hr hq h) hn
theorem Q6{cls:Nat→Cl}:∀ {ord:List Nat}{listed:Array Bool},Nc ops cls ord listed=true→∀ k∈ord,∃ o,ops[k]?=some o
 |[],_,_,k,hk=>by cases hk
 |i::ord,listed,h,k,hk=>by
  simp only [Nc,Bool.and_eq_true] at h
  rcases List.mem_cons.1 hk with rfl | hk
  ·have:k∈Region.ready .any ops listed:=by simpa using h.1.1
   obtain ⟨_,o,ho,_⟩:=mem_ready.1 this
   exact ⟨o,ho⟩
  ·exact Q6 h.2 k hk
end
section
variable{dec:Dec}{E:bt}
theorem Dd(hE:E.Ok){n:Nat}(hC:∀ j,j<n→Dc dec E j){fn:AFn}{H0:List ab}{k:List Fra}{r:Out}{N:Fr}{m:Bool}{nt:Nat}{ops:Array Oper}{ros:List RO}(hnt:nt≤N.n)
  (hc:IU E.P E.G m nt ops ops.toList=some ros) {q:Cl}{s:Bool} :
  ∀ (ord:List Nat) (T L:List Nat) (j:Nat) (a:Env) (H:List ab),(∀ i∈ord,∃ o,ops[i]?=some o)→j≤n →
   ev dec E j fn H0 (.c (.dops s T L (ord.map fun i=>(ros.getD i default,Bc q s ros i)))::k) a H=some r →
   ∃ Tf Lf,(∀ x∈T,x∈Tf)∧(∀ x∈L,x∈Lf)∧apart Tf Lf∧(s=false→Tf=T) ∧
    (T=[]∨s=true→UN N ops (KpT Tf) (DR E.P E.G ros) (Bc q s ros) (RN dec E n fn H0 k r) ord a H)
 |_,T,L,0,a,H,_,_,h=>by cases h
 |[],T,L,j+1,a,H,_,hj,h=>by
  have h':(match dec.ap T L with
    |.yes _=>ev dec E j fn H0 k a H
    |.no=>none)=some r:=h
  split at h'
  ·rename_i ha _
   exact ⟨T,L,fun _ h=>h,fun _ h=>h,ha,fun _=>rfl,fun _=>⟨j,by omega,h'⟩⟩
  ·cases h'
 |i::ord,T,L,j+1,a,H,hlt,hj,h=>by
  obtain ⟨o,ho⟩:=hlt i (by simp)
  obtain ⟨ro,hro,hcro⟩:=J3 hc i o (by simpa using ho)
  obtain ⟨hgd,hs,hdst,hlt2⟩:=Nv hcro
  have hd:∀ d,o.dst=some d→d<N.n:=fun d e=>Nat.lt_of_lt_of_le (hlt2 d e) hnt
  have hw:E8 a ro=po ops a o:=by
   obtain ⟨d,g,s⟩:=ro
   exact Q4 hgd
  have hcl:Bc q s ros i=zK q s ro.s:=by unfold Bc;rw [hro]
  have hgetD:ros.getD i default=ro:=by simp [List.getD,hro]
  have hlt':∀ i∈ord,∃ o,ops[i]?=some o:=fun i hi=>hlt i (by simp [hi])
  rw [List.map_cons] at h
  simp only [ev] at h
  rw [hgetD,hw] at h
  split at h
  ·cases h
  ·rename_i hwt
   obtain ⟨Tf,Lf,h1,h2,h3,h4,h5⟩:=Dd hE hC hnt hc ord T L j _ H hlt' (by omega) h
   refine ⟨Tf,Lf,h1,h2,h3,h4,fun hts=>⟨o,iY,H,ho,⟨hd,fun _=>rfl,fun _=>⟨Nat.le_refl _,fun _ _ _=>rfl⟩,.inr ⟨hwt,rfl,rfl⟩⟩, ?_⟩⟩
   rw [← hdst];exact h5 hts
  ·rename_i hwt
   rcases Nu hs with ⟨c,f,hop,hcal,hsf⟩ | ⟨x,hop,hsx⟩ | ⟨op,hq,hsq⟩
   ·rw [hsf] at h
    simp only at h
    split at h
    ·rename_i g first cap hfe
     split at h
     ·rename_i v L1 hwv
      obtain ⟨Tf,Lf,h1,h2,h3,h4,h5⟩:=Dd hE hC hnt hc ord T (L1++L) j _ H hlt' (by omega) h
      have hwc:Bc q s ros i = .wide∧∀ H2:List ab,(∀ id∈L1,id<H.length→H2[id]?=H[id]?)→eS E.P E.G g (first++(yl E.P E.G c.args.toList c.argTypes.toList).map (rx a)++cap) H2 fun r H'=>r = .ret v∧H'=H2:=by
       unfold Oo at hwv
       split at hwv
       ·rename_i e;exact ⟨e,hE.wo _ _ _ _ _ hwv⟩
       ·cases hwv
      have hD:∀ H2:List ab,(∀ id∈L1,id<H.length→H2[id]?=H[id]?)→DR E.P E.G ros i a H2 v H2:=fun H2 hh=>by
       unfold DR
       rw [hro]
       simp only [J2,hsf,hfe];exact hwc.2 H2 hh
      refine ⟨Tf,Lf,h1,fun x hx=>h2 x (by simp [hx]),h3,h4,fun hts=>⟨o,v,H,ho,⟨hd,fun hst=>rfl,fun hkp => ?_,.inl ⟨hwt,hD H (fun _ _ _=>rfl),fun hwd => ?_⟩⟩, ?_⟩⟩
      ·rw [hwc.1] at hkp;cases hkp
      ·intro H2 hk2;exact hD H2 fun id hid hlt=>hk2.2 id hlt (h3 id (h2 id (by simp [hid])))
      ·rw [← hdst];exact h5 hts
     have h':(match E9 dec E j g (first++(yl E.P E.G c.args.toList c.argTypes.toList).map (rx a)++cap) H with
      |some (.ret v,H')=>if vg dec E (Bc q s ros i) g (first++(yl E.P E.G c.args.toList c.argTypes.toList).map (rx a)++cap) H v H' then
        ev dec E j fn H0 (.c (.dops s T L (ord.map fun i=>(ros.getD i default,Bc q s ros i)))::k) (kT a ro.d v) H' else none
      |_=>none)=some r:=h
     split at h'
     ·rename_i v H' hcall
      split at h'
      ·rename_i hdyn
       obtain ⟨Tf,Lf,h1,h2,h3,h4,h5⟩:=Dd hE hC hnt hc ord T L j _ H' hlt' (by omega) h'
       have hA:=hC j (by omega) _ _ _ _ _ hcall
       have hD:DR E.P E.G ros i a H v H':=by
        unfold DR
        rw [hro]
        simp only [J2,hsf,hfe];exact hA
       refine ⟨Tf,Lf,h1,h2,h3,h4,fun hts=>⟨o,v,H',ho,⟨hd,fun hst => ?_,fun hkp => ?_,.inl ⟨hwt,hD,fun hwd => ?_⟩⟩, ?_⟩⟩
       ·unfold vg at hdyn
        cases hcl2:Bc q s ros i<;>rw [hcl2] at hst hdyn<;>simp only [Cl.still] at hst<;>first | (cases hst;done) | skip
        ·exact Cj.of hdyn
        ·exact (Cj.of hdyn).1
       ·rw [hkp] at hdyn
        have e:H'.take H.length=H:=Cj.of hdyn
        have:H'=H++H'.drop H.length:=by
         conv=>lhs;rw [← List.take_append_drop H.length H',e]
        rw [this];exact Be _ _ _
       ·intro H2 _
        rw [hwd] at hdyn
        have e:=Cj.of hdyn
        unfold DR
        rw [hro]
        simp only [J2,hsf,hfe];exact e.2 H2
       ·rw [← hdst];exact h5 hts
      ·cases h'
     ·cases h'
    ·cases h
   ·rw [hsx] at h;cases h
   ·rw [hsq] at h
    simp only at h
    split at h
    ·rename_i v H' hrop
     split at h
     ·rename_i T' L' hdyn
      obtain ⟨Tf,Lf,h1,h2,h3,h4,h5⟩:=Dd hE hC hnt hc ord T' L' j _ H' hlt' (by omega) h
      have hD:DR E.P E.G ros i a H v H':=by
       unfold DR
       rw [hro]
       simp only [J2,hsq];exact hrop
      have hdyn2:(∀ x∈T,x∈T')∧(∀ x∈L,x∈L')∧(s=false→T'=T)∧(Bc q s ros i = .wide→s=true→∀ id,Bb a op=some id→id∈L') ∧
        (Bc q s ros i = .keep→∀ sz x v,op = .st sz x v→∀ id,Nl (rx a x)=some id→id∈T') ∧
        (Bc q s ros i = .keep→∀ m e sz bytes str x y,op = .ap m e sz bytes str x y→∀ id,o1 (rx a x)=some id→id∈T'):=by
       rw [hcl,hsq] at hdyn ⊢
       unfold tY at hdyn
       split at hdyn
       ·rename_i hw
        split at hdyn
        ·rename_i hst
         split at hdyn
         ·rename_i id hid
          cases hdyn
          refine ⟨fun _ h=>h,fun _ h=>by simp [h],fun _=>rfl,fun _ _ id' hid' => ?_,fun e=>(by rw [hw] at e;cases e),fun e=>(by rw [hw] at e;cases e)⟩
          rw [hid] at hid';cases hid';simp
         ·rename_i hid
          cases hdyn
          exact ⟨fun _ h=>h,fun _ h=>h,fun _=>rfl,fun _ _ id' hid'=>(by rw [hid] at hid';cases hid'),fun e=>(by rw [hw] at e;cases e),fun e=>(by rw [hw] at e;cases e)⟩
        ·rename_i hst
         cases hdyn
         exact ⟨fun _ h=>h,fun _ h=>h,fun _=>rfl,fun _ e=>absurd e hst,fun e=>(by rw [hw] at e;cases e),fun e=>(by rw [hw] at e;cases e)⟩
       ·rename_i hkp
        have hkc:=J5 hkp
        split at hdyn
        ·rename_i sz x v'
         have hst:s=true:=by
          rcases hkc with e | ⟨e,_⟩ | ⟨_,_,_,_,_,_,_,e⟩
          ·cases e
          ·exact e
          ·cases e
         split at hdyn
         ·rename_i id hid
          cases hdyn
          refine ⟨fun _ h=>by simp [h],fun _ h=>h,fun e=>(by rw [hst] at e;cases e),fun e=>(by rw [hkp] at e;cases e),fun _ sz2 x2 v2 e id' hid' => ?_,fun _ _ _ _ _ _ _ _ e=>(by cases e)⟩
          cases e
          rw [hid] at hid';cases hid';simp
         ·cases hdyn
        ·rename_i m e sz bytes str x y
         split at hdyn
         ·rename_i id hid
          cases hdyn
          have hst:s=true:=by
           rcases hkc with hn | ⟨e,_⟩ | ⟨_,_,_,_,_,_,_,e⟩
           ·obtain ⟨_,_,_,rfl⟩:=Nq hn
            simp [rx,o1] at hid
           ·exact e
           ·cases hss:s with
            |true=>rfl
            |false=>
             rw [hss] at hkp
             unfold zK at hkp
             simp only at hkp
             split at hkp
             ·cases hkp
             ·split at hkp
              ·cases hkp
              ·split at hkp
               ·rename_i hn
                obtain ⟨_,_,_,rfl⟩:=Nq hn
                simp [rx,o1] at hid
               ·cases hkp
          refine ⟨fun _ h=>by simp [h],fun _ h=>h,fun e=>(by rw [hst] at e;cases e),fun e=>(by rw [hkp] at e;cases e),fun _ _ _ _ e=>(by cases e),fun _ m2 e2 sz2 b2 st2 x2 y2 e id' hid' => ?_⟩
          cases e
          rw [hid] at hid';cases hid';simp
         ·rename_i hid
          cases hdyn
          exact ⟨fun _ h=>h,fun _ h=>h,fun _=>rfl,fun e=>(by rw [hkp] at e;cases e),fun _ _ _ _ e=>(by cases e),fun _ m2 e2 sz2 b2 st2 x2 y2 e id' hid'=>(by cases e;rw [hid] at hid';cases hid')⟩
        ·rename_i hnst hnap
         cases hdyn
         exact ⟨fun _ h=>h,fun _ h=>h,fun _=>rfl,fun e=>(by rw [hkp] at e;cases e),fun _ sz x v e=>absurd e (hnst sz x v),fun _ m e sz bytes str x y h=>absurd h (hnap m e sz bytes str x y)⟩
       ·cases hdyn
       ·rename_i n1 n2 n3
        cases hdyn
        exact ⟨fun _ h=>h,fun _ h=>h,fun _=>rfl,fun e=>absurd e n1,fun e=>absurd e n2,fun e=>absurd e n2⟩
      obtain ⟨g1,g2,g3,g4,g5,g6⟩:=hdyn2
      refine ⟨Tf,Lf,fun x hx=>h1 x (g1 x hx),fun x hx=>h2 x (g2 x hx),h3,fun e=>(h4 e).trans (g3 e),fun hts=>⟨o,v,H',ho,⟨hd,fun hst => ?_,fun hkp => ?_,.inl ⟨hwt,hD,fun hwd => ?_⟩⟩, ?_⟩⟩
      ·rw [hcl,hsq] at hst
       have:Mj op=true:=by
        cases hcl2:zK q s (.op op)<;>rw [hcl2] at hst<;>simp only [Cl.still] at hst<;>first | (cases hst;done) | skip
        ·exact absurd hcl2 Ot
        ·exact J4 hcl2
       exact (Oq this hrop).1
      ·have hkp':=hkp
       rw [hcl,hsq] at hkp'
       rcases J5 hkp' with hn | ⟨hs',sz,x,v',rfl⟩ | ⟨m,e,sz,bytes,str,x,y,rfl⟩
       ·obtain ⟨Ln,rfl⟩:=UT hn hrop
        exact Be _ _ _
       ·obtain ⟨id,ob,e1,rfl⟩:=Wc hrop
        exact Q5 (h1 id (g5 hkp sz x v' rfl id e1)) _ _
       ·rcases Wb hrop with ⟨L,rfl⟩ | ⟨id,ob,L,e1,rfl⟩
        ·exact Be _ _ _
        ·exact KpT.trans _ _ _ (Q5 (h1 id (g6 hkp m e sz bytes str x y rfl id e1)) _ _) (Be _ _ _)
      ·intro H2 hk2
       have hwd':=hwd
       rw [hcl,hsq] at hwd'
       unfold DR
       rw [hro]
       simp only [J2,hsq]
       refine (Oq (J4 hwd') hrop).2 H2 fun id hid hlen=>hk2.2 id hlen ?_
       rcases Bool.eq_false_or_eq_true s with hst | hst
       ·exact h3 id (h2 id (g4 hwd hst id hid))
       ·rw [h4 hst,g3 hst]
        rcases hts with e | e
        ·rw [e];simp
        ·rw [hst] at e;cases e
      ·rw [← hdst]
       refine h5 ?_
       rcases hts with e | e
       ·rcases Bool.eq_false_or_eq_true s with hst | hst
        ·exact .inr hst
        ·exact .inl (by rw [g3 hst];exact e)
       ·exact .inr e
     ·cases h
    ·cases h
end
section
variable{dec:Dec}{E:bt}
theorem De{n n':Nat}{fn:AFn}{H0:List ab}{k k':List Fra}{r:Out}(hn:n≤n')(hk:∀ x a H m,x≠.normal→evX dec E m fn H0 x k a H=evX dec E m fn H0 x k' a H){x:ky}{a:Env}{H:List ab}
  (hx:x≠.normal) (h:RN dec E n fn H0 k r x a H):RN dec E n' fn H0 k' r x a H:=by
 obtain ⟨m,hm,h⟩:=h
 exact ⟨m,by omega,by rw [← hk x a H m hx];exact h⟩
theorem VS{m:Nat}{fn:AFn}{H0:List ab}{x:ky}{k:List Fra}{ac:AC}{a:Env}{H:List ab}(hx:x≠.normal):evX dec E m fn H0 x (.c ac::k) a H=evX dec E m fn H0 x k a H:=by
 cases x<;>first | exact absurd rfl hx | rfl
theorem We{m:Nat}{fn:AFn}{H0:List ab}{x:ky}{k:List Fra}{h:LH}{ac:AC}{He:List ab}{a:Env}{H:List ab}(hx:x≠.normal):evX dec E m fn H0 x (.lp h ac He::k) a H=evX dec E m fn H0 x k a H:=by
 cases x<;>first | exact absurd rfl hx | rfl
theorem Ou{ops:Array Oper}{ros:List RO}{ac:AC}:∀ {l:List (Cl×Bool×List Nat)},UP ops ros l=some ac→∃ q s ord,(q,s,ord)∈l∧ord.length=ops.size∧Nc ops (Bc q s ros) ord (Array.replicate ops.size false)=true ∧
  ac = .dops s [] [] (ord.map fun k=>(ros.getD k default,Bc q s ros k))
 |[],h=>by cases h
 |(q,s,ord)::l,h=>by
  simp only [UP] at h
  split at h
  ·rename_i hc
   simp only [Bool.and_eq_true,beq_iff_eq] at hc
   cases h
   exact ⟨q,s,ord,by simp,hc.1,hc.2,rfl⟩
  ·obtain ⟨q',s',ord',h1,h2⟩:=Ou h
   exact ⟨q',s',ord',by simp [h1],h2⟩
theorem RP{x y:AC}(h:∀ l,y≠.lv l):(AC.seq x y).strip = .seq x.strip y.strip:=by
 cases y<;>first | exact absurd rfl (h _) | rw [AC.strip]
 all_goals intro l e;cases e
theorem S8{P:Program}{G:Nat→Option (List AV)}{N:Fr}{c:Code}{a:Env}{H:List ab}{Q Q':ky→Env→List ab→Prop}(h:AWP P G N c Q a H)
  (hq:∀ x a H,Q x a H→∃ a',(∀ K act w,Rel N K a H act w→Rel N K a' H act w)∧Q' x a' H):AWP P G N c Q' a H:=fun K act w hg hr=>
 wp_mono (h K act w hg hr) fun _ _ _ ⟨K',x,a',H',h1,h2,h3,h4⟩=>by
  obtain ⟨a2,h5,h6⟩:=hq _ _ _ h4
  exact ⟨K',x,a2,H',h1,h2,h5 _ _ _ h3,h6⟩
theorem P4{n:Nat}(hC:∀ j,j<n→Dc dec E j)(hE:E.Ok)(IH:∀ j,j<n→IA dec E j):IA dec E n:=by
  intro fn H0 ac k a H r h N m nt c hnt hc
  cases n with
  |zero=>cases h
  |succ n=>
   by_cases hlv:∃ ax l,ac = .seq ax (.lv l)
   ·obtain ⟨ax,l,rfl⟩:=hlv
    have hc':ln E.P E.G m nt c=some ax.strip:=by simpa [AC.strip] using hc
    have h1:ev dec E n fn H0 (.c ax :: .c (.lv l)::k) a H=some r:=h
    refine S8 ((IH n (Nat.lt_succ_self n) fn H0 ax (.c (.lv l)::k) a H r h1 N m nt c hnt hc')) fun e a' H' hp => ?_
    by_cases he:e = .normal
    ·subst he
     obtain ⟨j,hj,h2⟩:=hp
     have h2':ev dec E j fn H0 (.c (.lv l)::k) a' H'=some r:=h2
     cases j with
     |zero=>cases h2'
     |succ j=>exact ⟨rT a' l,fun K act w hr=>hr.keep l,j,by omega,h2'⟩
    ·exact ⟨a',fun K act w hr=>hr,De (n':=n+1) (k':=k) (Nat.le_succ n) (fun x a H m hx=>VS hx) he hp⟩
   have hseq:∀ x y,ac = .seq x y→ac.strip = .seq x.strip y.strip:=fun x y e=>by
    rw [e]
    exact RP fun l hl=>hlv ⟨x,l,by rw [e,hl]⟩
   cases c with
   |skip=>
    have:ac.strip = .skip:=by simpa [ln] using hc.symm
    cases ac<;>(try rw [hseq _ _ rfl] at this)<;>simp [AC.strip] at this
    exact SP ⟨n,Nat.lt_succ_self n,h⟩
   |label l=>
    have:ac.strip = .skip:=by simpa [ln] using hc.symm
    cases ac<;>(try rw [hseq _ _ rfl] at this)<;>simp [AC.strip] at this
    exact Rz ⟨n,Nat.lt_succ_self n,h⟩
   |exit id=>
    have:ac.strip = .exit id:=by simpa [ln] using hc.symm
    cases ac<;>(try rw [hseq _ _ rfl] at this)<;>simp [AC.strip] at this
    subst this
    exact SQ ⟨n,Nat.lt_succ_self n,h⟩
   |refuse s=>
    have:ac.strip = .bad:=by simpa [ln] using hc.symm
    cases ac<;>(try rw [hseq _ _ rfl] at this)<;>simp [AC.strip] at this
    cases h
   |ret=>
    have:ac.strip = .ret:=by simpa [ln] using hc.symm
    cases ac<;>(try rw [hseq _ _ rfl] at this)<;>simp [AC.strip] at this
    exact UF ⟨n,Nat.lt_succ_self n,h⟩
   |seq x y=>
    simp only [ln] at hc
    split at hc
    ·rename_i x' hx
     split at hc
     ·rename_i y' hy
      simp only [Option.some.injEq] at hc
      cases ac<;>(try rw [hseq _ _ rfl] at hc)<;>simp [AC.strip] at hc
      rename_i ax ay
      obtain ⟨rfl,rfl⟩:=hc
      have h1:ev dec E n fn H0 (.c ax :: .c ay::k) a H=some r:=h
      refine UG ((IH n (Nat.lt_succ_self n) fn H0 ax (.c ay::k) a H r h1 N m nt x hnt hx).mono fun e a' H' hp => ?_)
      by_cases he:e = .normal
      ·subst he
       obtain ⟨j,hj,h2⟩:=hp
       exact (IH j (by omega) fn H0 ay k a' H' r h2 N m nt y hnt hy).mono fun e2 a2 H2 ⟨j2,hj2,h3⟩=>⟨j2,by omega,h3⟩
      ·have:=De (n':=n+1) (k':=k) (Nat.le_succ n) (fun x a H m hx=>VS hx) he hp
       cases e<;>first | exact absurd rfl he | exact this
     ·cases hc
    ·cases hc
   |cond cx x y=>
    simp only [ln] at hc
    split at hc
    ·rename_i x' hx
     split at hc
     ·rename_i y' hy
      simp only [Option.some.injEq] at hc
      cases ac<;>(try rw [hseq _ _ rfl] at hc)<;>simp [AC.strip] at hc
      rename_i ax ay
      obtain ⟨rfl,rfl,rfl⟩:=hc
      simp only [ev] at h
      split at h
      ·rename_i b hb
       rw [Od] at hb
       refine SR hb ?_
       split at h
       ·rename_i e
        rw [if_pos e]
        exact (IH n (Nat.lt_succ_self n) fn H0 _ k a H r h N m nt x hnt hx).mono fun e2 a2 H2 ⟨j2,hj2,h3⟩=>⟨j2,by omega,h3⟩
       ·rename_i e
        rw [if_neg e]
        exact (IH n (Nat.lt_succ_self n) fn H0 _ k a H r h N m nt y hnt hy).mono fun e2 a2 H2 ⟨j2,hj2,h3⟩=>⟨j2,by omega,h3⟩
      ·cases h
     ·cases hc
    ·cases hc
   |block id x=>
    simp only [ln] at hc
    split at hc
    ·rename_i x' hx
     simp only [Option.some.injEq] at hc
     cases ac<;>(try rw [hseq _ _ rfl] at hc)<;>simp [AC.strip] at hc
     rename_i ax
     obtain ⟨rfl,rfl⟩:=hc
     have h1:ev dec E n fn H0 (.c ax :: .blk id::k) a H=some r:=h
     refine RA ((IH n (Nat.lt_succ_self n) fn H0 ax (.blk id::k) a H r h1 N m nt x hnt hx).mono fun e a' H' hp => ?_)
     obtain ⟨j,hj,h2⟩:=hp
     cases e with
     |normal=>
      have h2':ev dec E j fn H0 (.blk id::k) a' H'=some r:=h2
      cases j with
      |zero=>cases h2'
      |succ j=>exact ⟨j,by omega,h2'⟩
     |exit id'=>
      simp only [evX,unw] at h2
      show if id'=id then _ else _
      by_cases e:id'=id
      ·rw [if_pos e]
       rw [if_pos e.symm] at h2
       exact ⟨j,by omega,h2⟩
      ·rw [if_neg e]
       rw [if_neg (fun h=>e h.symm)] at h2
       exact ⟨j,by omega,h2⟩
     |ret=>exact ⟨j,by omega,h2⟩
     |panic v=>exact ⟨j,by omega,h2⟩
     |goto l=>simp [evX] at h2
    ·cases hc
   |loop x=>
    simp only [ln] at hc
    split at hc
    ·rename_i x' hx
     simp only [Option.some.injEq] at hc
     cases ac<;>(try rw [hseq _ _ rfl] at hc)<;>simp [AC.strip] at hc
     rename_i lh ax
     subst hc
     have h1:ev dec E n fn H0 (.c ax :: .lp lh ax (rV lh a H).2::k) (rV lh a H).1 (rV lh a H).2=some r:=h
     refine UU (a':=(rV lh a H).1) (H':=(rV lh a H).2) (fun K act w hr=>Ns lh hr) ?_
     refine Nr (fun j a H=>j≤n∧ev dec E j fn H0 (.c ax :: .lp lh ax H::k) a H=some r) n ⟨Nat.le_refl n,h1⟩ ?_
     rintro j a1 H1 ⟨hj,h2⟩
     refine (IH j (by omega) fn H0 ax (.lp lh ax H1::k) a1 H1 r h2 N m nt x hnt hx).mono fun e a' H' hp => ?_
     by_cases he:e = .normal
     ·subst he
      obtain ⟨j2,hj2,h3⟩:=hp
      have h3':ev dec E j2 fn H0 (.lp lh ax H1::k) a' H'=some r:=h3
      cases j2 with
      |zero=>cases h3'
      |succ j2=>
       simp only [ev] at h3'
       split at h3'
       ·rename_i a2 H2 hb
        exact ⟨j2,a2,H2,by omega,⟨by omega,h3'⟩,J1 hb⟩
       ·cases h3'
     ·have:=De (n':=n+1) (k':=k) (by omega) (fun x a H m hx=>We hx) he hp
      cases e<;>first | exact absurd rfl he | exact this
    ·cases hc
   |region id ops draw=>
    simp only [ln] at hc
    split at hc
    ·rename_i ros hros
     cases draw with
     |false=>
      simp only [Bool.false_eq_true,if_false,Option.some.injEq] at hc
      cases ac<;>(try rw [hseq _ _ rfl] at hc)<;>simp [AC.strip] at hc
      subst hc
      intro K act w hg hr
      exact wp_region (UV (n:=n+1) hC hnt hg ops.toList ros (List.range ops.size) (n+1) K a H act w (Nat.le_refl _) h hros (RC ops) (.refl K) hr)
     |true=>
      simp only [if_true] at hc
      unfold VQ at hc
      split at hc
      ·rename_i hu
       obtain ⟨q,s,ord,hmem,hlen,hlex,hac⟩:=Ou hc
       have hq:q≠.pure:=by
        intro e;subst e
        simp at hmem
       have hac2:ac = .dops s [] [] (ord.map fun k=>(ros.getD k default,Bc q s ros k)):=by
        cases ac<;>(try rw [hseq _ _ rfl] at hac)<;>simp [AC.strip] at hac
        obtain ⟨rfl,rfl,rfl,rfl⟩:=hac;rfl
       subst hac2
       obtain ⟨Tf,Lf,_,_,_,_,h5⟩:=Dd hE (n:=n+1) hC hnt hros ord [] [] (n+1) a H (Q6 hlex) (Nat.le_refl _) h
       exact RJ (Bc q s ros) (WY hq hros hu) (KpT Tf) ord KpT.trans hE.mixed hlen hlex (h5 (.inl rfl))
      ·cases hc
    ·cases hc
   |_=>simp [ln] at hc
end
theorem P5{c A B:Code}{id:Nat}{ops:Array Oper}{os:List Oper}{o:Oper}(h:P0 c=some (A,id,ops,os,o,B)):c = .seq A (.seq (.region id ops false) B)∧ops.toList=os++[o]:=by
 unfold P0 at h
 split at h
 ·split at h
  ·rename_i o' os' hrev
   split at h
   ·simp only [Option.some.injEq,Prod.mk.injEq] at h
    obtain ⟨rfl,rfl,rfl,rfl,rfl,rfl⟩:=h
    refine ⟨rfl, ?_⟩
    have:=congrArg List.reverse hrev
    simpa using this
   ·cases h
  ·cases h
 ·cases h
section
variable{dec:Dec}{E:bt}
theorem RQ{P:Program}{G:Nat→Option (List AV)}{m:Nat→Bool}{n:Nat}{A B:Code}{id:Nat}{ops:Array Oper}{os:List Oper}{o:Oper}{a b:AC}{l:List RO}{x:RX}
  (h:S2 P G m n (A,id,ops,os,o,B)=some (a,l,x,b)):∃ c f,o.op = .defer c∧c.callee = .value f∧o.guard=none∧o.dst=none∧c.args = #[]∧ln P G m n A=some a∧IU P G (m id) n ops os=some l∧ln P G m n B=some b∧x=cx0 G f:=by
 unfold S2 at h
 simp only at h
 split at h
 ·rename_i c hop
  split at h
  ·rename_i f hcal
   split at h
   ·rename_i hc
    simp only [Bool.and_eq_true,Option.isNone_iff_eq_none,Array.isEmpty_iff] at hc
    split at h
    ·rename_i a' l' b' e1 e2 e3
     simp only [Option.some.injEq,Prod.mk.injEq] at h
     obtain ⟨rfl,rfl,rfl,rfl⟩:=h
     exact ⟨c,f,hop,hcal,hc.1.1,hc.1.2,hc.2,e1,e2,e3,rfl⟩
    ·cases h
   ·cases h
  ·cases h
 ·cases h
theorem Ov(hE:E.Ok){n:Nat}(hCl:IA dec E n){g:FuncId}{args:List AV}{d:Nat}{fn':AFn}(hd:E.dfn g=some (d,fn')){p:AV}{H H':List ab}{r:AV}
  (h:ev dec E n fn' H [.c fn'.c] (uB (env args) d p) H=some (.ret r,H')) {K:aJ}{w:World}{cargs:Array Value} (hg:K.glob=E.G) (hi:Inv K H w) (hv:Vs K args cargs) {u u':FrameMode}{pv:Value} (hp:V K p pv)
  (hrec:∀ (c₀:Frame) (cs:List Frame),c₀.mode=u→(recoverD (c₀::cs)=some (pv,{ c₀ with mode:=u' }::cs))∨(recoverD (c₀::cs)=none∧pv = .nilIface∧c₀::cs = { c₀ with mode:=u' }::cs)) :
  CallsD E.P g cargs u w fun e u2 w2 => ∃ v,e = .returned v∧u2=u'∧∃ K2,K.le K2∧Inv K2 H' w2:=by
 obtain ⟨hcomp,hdf⟩:=hE.dfn g d fn' hd
 unfold Om at hcomp
 split at hcomp
 ·cases hcomp
 ·rename_i fnc hf
  split at hcomp
  ·cases hcomp
  ·split at hcomp
   ·rename_i id ops B hb
    split at hcomp
    ·rename_i o hops
     split at hcomp
     ·rename_i c d' hop hdst
      split at hcomp
      ·rename_i hcal
       split at hcomp
       ·rename_i hcond
        simp only [Bool.and_eq_true,Option.isNone_iff_eq_none,decide_eq_true_eq] at hcond
        split at hcomp
        ·rename_i b rs hB hrs
         simp only [Option.some.injEq,Prod.mk.injEq] at hcomp
         obtain ⟨rfl,rfl,h2,h3⟩:=hcomp
         have hw:=hCl fn' H fn'.c [] _ H (.ret r,H') h { n:=args.length+(fnc.ntmps-args.length) } _ fnc.ntmps B (show fnc.ntmps≤args.length+(fnc.ntmps-args.length) from by omega) hB
         refine callsD_of_wpS hf hb fun c₀ cs hm=>wpS_seq (wpS_region ?_)
         have hsz:ops.size=1:=by rw [← Array.length_toList,hops];rfl
         have ho:ops[0]?=some o:=by rw [← Array.getElem?_toList,hops];rfl
         have hrun:∀ (act:Act),(execOp act.eval o).run E.P w = .ok .recover w:=fun act=>by
          unfold execOp
          simp only [hop,resolve,hcal,pure_bind,invoke]
          rfl
         rw [hsz,show List.range 1=[0] from rfl]
         simp only [wpOpsS,ho,Region.wanted,hcond.1,if_true,hrun]
         have rest:∀ cs',cs' = { c₀ with mode:=u' }::cs→B.wpS E.P (bodyPostS E.P fnc c₀ cs fun e u2 w2 => ∃ v,e = .returned v∧u2=u'∧∃ K2,K.le K2∧Inv K2 H' w2)
           (({ tmps:=cargs++Array.replicate (fnc.ntmps-cargs.size) undef,defers:=[] }:Act).put o.dst pv) cs' w:=by
          rintro cs' rfl
          refine wpS_of_wp (wp_mono (hw K _ w hg ?_) ?_)
          ·rw [hdst]
           have h0:Rel { n:=args.length+(fnc.ntmps-args.length) } K (env args) H { tmps:=cargs++Array.replicate (fnc.ntmps-cargs.size) undef,defers:=[] } w:=
            ⟨hi,rfl,by simp [← hv.size],fun t=>HA hv _ t⟩
           exact h0.put (.refl K) hi (dst:=some d') hp (fun d e=>by cases e;exact Nat.lt_of_lt_of_le hcond.2 (show fnc.ntmps≤args.length+(fnc.ntmps-args.length) from by omega))
          ·rintro e act w' ⟨K',x,a',H2,hk,he,hr,m,hm2,hx⟩
           cases x with
           |normal=>
            cases e<;>first | exact (he:False).elim | skip
            have hx':ev dec E m fn' H [] a' H2=some (.ret r,H'):=hx
            cases m with
            |zero=>cases hx'
            |succ m=>
             simp only [ev,hdf] at hx'
             obtain ⟨cv,h5,K2,r2,H3,h6,h7,h8,h9,h10⟩:=zM h3 hrs hi hk hr hx'
             subst h10
             exact ⟨hr.defers,u',rfl,cv,h5,cv,rfl,rfl,K2,h6,h8⟩
           |ret=>
            cases e<;>first | exact (he:False).elim | skip
            simp only [evX,ti,hdf] at hx
            obtain ⟨cv,h5,K2,r2,H3,h6,h7,h8,h9,h10⟩:=zM h3 hrs hi hk hr hx
            subst h10
            exact ⟨hr.defers,u',rfl,cv,h5,cv,rfl,rfl,K2,h6,h8⟩
           |panic v=>
            simp only [evX,mz,hdf] at hx
            unfold RK at hx
            split at hx<;>cases hx
           |exit id=>simp [evX,unw] at hx
           |goto l=>simp [evX] at hx
         rcases hrec c₀ cs hm with h1 | ⟨h1,h2,h3⟩
         ·rw [h1]
          exact rest _ rfl
         ·rw [h1]
          subst h2
          exact rest _ h3
        ·cases hcomp
       ·cases hcomp
      ·cases hcomp
     ·cases hcomp
    ·cases hcomp
   ·cases hcomp
end
section
variable{dec:Dec}{E:bt}
theorem Ow{P:Program}{G:Nat→Option (List AV)}{g:FuncId}{x:Nat×AC×Nat×List yy}(h:Om P G g=some x)(args:Array Value)(w:World):(callFunc g args).run P w = .ok (.enter g args) w:=by
 unfold Om at h
 split at h
 ·cases h
 ·rename_i fn hf
  split at h
  ·cases h
  ·rename_i hn
   split at h
   ·rename_i hb
    exact rW hf (by simpa using hn) (by rw [hb];rfl) args w
   ·cases h
theorem IB(hE:E.Ok){n:Nat}(hCl:IA dec E n){fn':AFn}{fnc:Func}{rs:List yy}(h3:rs=fn'.res)(hrs:Ch E.P fnc.results.toList=some rs){N:Fr}{K K':aJ}{H H2 H3:List ab}{w w':World}{a':Env}{act:Act}{r:vN}{H':List ab}
  (hi:Inv K H w) (hk:K.le K') (hr:Rel N K' a' H2 act w') {v p:AV} (hcall:tu E (ev dec E n) v p H2=some H3) (hf:fin dec fn' H a' H3=some (r,H')) (hg:K.glob=E.G) {g2:FuncId}{vs us:Array Value} (hv:V K' v (.func (.func g2) vs us)) {pv:Value} (hp:V K' p pv) {u u':FrameMode}
  (hu:u≠.run) (hrec:∀ (c₀:Frame) (cs:List Frame),c₀.mode=u→(recoverD (c₀::cs)=some (pv,{ c₀ with mode:=u' }::cs))∨(recoverD (c₀::cs)=none∧pv = .nilIface∧c₀::cs = { c₀ with mode:=u' }::cs)) (hs:settle u' = .returning) :
  Leaves E.P fnc act.tmps (Ir K fun r2 H2=>r2=r∧H2=H') [{ target:=.fn (.func g2) us,args:=vs }] u w':=by
 unfold tu at hcall
 split at hcall
 ·rename_i g first cap
  split at hcall
  ·rename_i d fd hd
   split at hcall
   ·rename_i rv H4 hev
    cases hcall
    obtain ⟨vs',us',hve,h1,h2⟩:=hv.fn_inv
    cases hve
    obtain ⟨hcomp,hdf⟩:=hE.dfn _ d fd hd
    have hargs:=h1.append h2
    refine leaves_cons hu (f:=g2) (args:=vs++us) ?_ ?_
    ·have:=Ow hcomp (vs++us) w'
     exact this
    ·refine (Ov hE hCl hd hev (hk.glob.trans hg) hr.inv hargs hp hrec).mono ?_
     rintro e u2 w2 ⟨v2,rfl,rfl,K2,hk2,hi2⟩
     simp only [hs]
     have hr2:Rel N K2 a' _ act w2:=⟨hi2,hr.defers,hr.size,fun t=>(hr.tmps t).mono hk2⟩
     obtain ⟨cv,h5,h6⟩:=zM h3 hrs hi (hk.trans hk2) hr2 hf
     exact ⟨cv,h5,h6⟩
   ·cases hcall
  ·cases hcall
 ·cases hcall
theorem S9(hE:E.Ok){n:Nat}(hC:∀ j,j<n→Dc dec E j)(hc:∀ j,j≤n→IA dec E j){g:FuncId}{fn':AFn}{fnc:Func}{rs:List yy}{args:List AV}{H:List ab}{r:vN}{H':List ab}
  {l:List RO}{x:RX}{aB:AC} (hdf:fn'.dfr=some (l,x,aB)) (hf:E.P.funcs[g]?=some fnc)
  (hname:(fnc.name == "runtime.NumGoroutine")=false) {A B:Code}{id:Nat}{ops:Array Oper}{os:List Oper}{o:Oper} (hb:fnc.body=some (.seq A (.seq (.region id ops false) B))) (hops:ops.toList=os++[o])
  (h3:rs=fn'.res) (hrs:Ch E.P fnc.results.toList=some rs) (hA:ln E.P E.G (fn'.muts.contains ·) fnc.ntmps A=some fn'.c.strip) (hB:ln E.P E.G (fn'.muts.contains ·) fnc.ntmps B=some aB.strip)
  (hros:IU E.P E.G (fn'.muts.contains id) fnc.ntmps ops os=some l) {c:Call}{f:Operand} (hop:o.op = .defer c) (hcal:c.callee = .value f) (hgd:o.guard=none) (hdst:o.dst=none) (hca:c.args = #[]) (hx:x=cx0 E.G f)
  (h:ev dec E n fn' H [.c fn'.c,.c (.ops l),.df x aB] (env args) H=some (r,H')):eS E.P E.G g args H fun r2 H2=>r2=r∧H2=H':=by
 have hnt:fnc.ntmps≤args.length+(fnc.ntmps-args.length):=by omega
 have hw:=hc n (Nat.le_refl n) fn' H fn'.c [.c (.ops l),.df x aB] (env args) H (r,H') h { n:=args.length+(fnc.ntmps-args.length) } _ fnc.ntmps A hnt hA
 intro K w cargs hg hi hv
 refine .inl ⟨rW hf hname (by simp [hb]) cargs w, ?_⟩
 refine calls_of_wp_defers hf hb (wp_seq (wp_mono (hw K _ w hg ⟨hi,rfl,by simp [← hv.size],fun t=>HA hv _ t⟩) ?_))
 rintro e act w' ⟨K',xe,a',H2,hk,he,hr,m,hm,hx'⟩
 cases xe with
 |normal=>
  cases e<;>first | exact (he:False).elim | skip
  have hx2:ev dec E m fn' H [.c (.ops l),.df x aB] a' H2=some (r,H'):=hx'
  refine wp_seq (wp_region ?_)
  have hsz:List.range ops.size=List.range os.length++[os.length]:=by
   rw [← Array.length_toList,hops]
   simp [List.range_succ]
  rw [hsz]
  refine GC (n:=n) hC (N := { n:=args.length+(fnc.ntmps-args.length) }) hnt hg (l2:=[os.length]) ?_ ?_ os l (List.range os.length) m K' a' H2 act w' (by omega) hx2 hros ?_ hk hr
  ·
   intro j K1 a1 H1 act1 w1 hj hk1 hr1 hev
   cases j with
   |zero=>cases hev
   |succ j=>
    simp only [ev] at hev
    split at hev
    ·rename_i g2 first cap hfe
     split at hev
     ·rename_i hsome
      have ho:ops[os.length]?=some o:=by rw [← Array.getElem?_toList,hops];simp
      rw [wpOps_cons,wpOp,ho]
      have hfv:=ri (hk1.glob.trans hg) hr1 f
      rw [← hx,hfe] at hfv
      obtain ⟨vs,us,hfv2,h1,h2⟩:=hfv.fn_inv
      have hrun:(execOp act1.eval o).run E.P w1 = .ok (.defer { target:=.fn (.func g2) us,args:=vs }) w1:=by
       unfold execOp
       simp only [hop,resolve,hcal,hfv2,hca,pure_bind,Deferred.ofValue,Array.map_empty,Array.append_empty]
       rfl
      simp only [Region.wanted,hgd,if_true]
      refine .inl ?_
      unfold Oper.wp
      rw [hrun,Oper.upon_defer,hdst]
      have hd0:act1.defers=[]:=hr1.defers
      have hr2:Rel { n:=args.length+(fnc.ntmps-args.length),ds:=[{ target:=.fn (.func g2) us,args:=vs }] } K1 a1 H1 (({ act1 with defers := { target:=.fn (.func g2) us,args:=vs }::act1.defers }:Act).put none undef) w1:=
       ⟨hr1.inv,by rw [hd0];rfl,hr1.size,hr1.tmps⟩
      show Code.wp E.P B _ _ w1
      refine wp_mono (hc j (by omega) fn' H aB [.dr (.fn (.func g2) first cap)] a1 H1 (r,H') hev _ _ fnc.ntmps B hnt hB K1 _ w1 (hk1.glob.trans hg) hr2) ?_
      rintro e act2 w2 ⟨K2,x2,a2,H3,hk2,he2,hr3,m2,hm2,hx3⟩
      have hfv3:V K2 (.fn (.func g2) first cap) (.func (.func g2) vs us):=by
       rw [← hfv2];exact hfv.mono hk2
      have hds:act2.defers=[{ target:=.fn (.func g2) us,args:=vs }]:=hr3.defers
      have hk3:=hk1.trans hk2
      have plain:∀ m3,m3≤n→ti dec E (ev dec E m3) fn' H [.dr (.fn (.func g2) first cap)] a2 H3=some (r,H')→Leaves E.P fnc act2.tmps (Ir K fun r2 H2=>r2=r∧H2=H') act2.defers .returning w2:=fun m3 hm3 hx4=>by
       simp only [ti,hdf,GA] at hx4
       split at hx4
       ·rename_i H4 hcl
        rw [hds]
        refine IB hE (hc m3 hm3) h3 hrs hi hk3 hr3 hcl hx4 hg hfv3 (.nilif) (u:=.returning) (u':=.returning) (by simp) (fun c₀ cs hm=>.inr ⟨by simp [recoverD,hm],rfl,by rw [← hm]⟩) rfl
       ·cases hx4
      cases x2 with
      |normal=>
       cases e<;>first | exact (he2:False).elim | skip
       have hx4:ev dec E m2 fn' H [.dr (.fn (.func g2) first cap)] a2 H3=some (r,H'):=hx3
       cases m2 with
       |zero=>cases hx4
       |succ m2=>exact plain m2 (by omega) hx4
      |ret=>
       cases e<;>first | exact (he2:False).elim | skip
       exact plain m2 (by omega) hx3
      |panic v=>
       cases e<;>first | exact (he2:False).elim | skip
       obtain ⟨cv,rfl,hcv⟩:=he2
       simp only [evX,mz,hdf,GA] at hx3
       split at hx3
       ·rename_i H4 hcl
        show Leaves E.P fnc act2.tmps _ act2.defers _ w2
        rw [hds]
        refine IB hE (hc m2 (by omega)) h3 hrs hi hk3 hr3 hcl hx3 hg hfv3 hcv (u:=.panicking [{ v:=cv,recovered:=false }]) (u':=.panicking [{ v:=cv,recovered:=true }]) (by simp) (fun c₀ cs hm=>.inl (by simp [recoverD,hm])) rfl
       ·cases hx3
      |exit id=>simp [evX,unw] at hx3
      |goto l=>simp [evX] at hx3
     ·cases hev
    ·cases hev
  ·intro j K1 a1 H1 act1 w1 v cv hj hk1 hv1 hr1 hev
   simp [mz,hdf,GA] at hev
  ·refine List.ext_getElem? fun i => ?_
   rw [List.getElem?_map,List.getElem?_map]
   by_cases hi':i<os.length
   ·rw [List.getElem?_range hi']
    simp only [Option.map_some]
    rw [← Array.getElem?_toList,hops,List.getElem?_append_left hi',List.getElem?_eq_getElem hi']
    rfl
   ·rw [List.getElem?_eq_none (by simp;omega),List.getElem?_eq_none (by omega)]
    rfl
 |ret=>simp [evX,ti,hdf,GA] at hx'
 |panic v=>simp [evX,mz,hdf,GA] at hx'
 |exit id=>simp [evX,unw] at hx'
 |goto l=>simp [evX] at hx'
theorem RR(hE:E.Ok){n:Nat}(hC:∀ j,j<n→Dc dec E j)(hc:∀ j,j≤n→IA dec E j):Dc dec E n:=by
 intro g args H r H' h
 unfold E9 Ek at h
 split at h
 ·rename_i fn' hfn
  have hcomp:=hE.fn g fn' hfn
  unfold S3 at hcomp
  split at hcomp
  ·cases hcomp
  ·rename_i fnc hf
   split at hcomp
   ·cases hcomp
   ·rename_i hname
    split at hcomp
    ·cases hcomp
    ·rename_i c hb
     split at hcomp
     ·cases hcomp
     ·rename_i rs hrs
      split at hcomp
      ·rename_i hsp
       split at hcomp
       ·cases hcomp
       ·rename_i ac hac
        simp only [Option.some.injEq,Prod.mk.injEq] at hcomp
        obtain ⟨rfl,h2,h3,h4⟩:=hcomp
        have hdf:fn'.dfr=none:=by
         cases hd:fn'.dfr with
         |none=>rfl
         |some x=>rw [hd] at h4;cases h4
        simp only [hdf] at h
        exact P2 (hc n (Nat.le_refl n)) hdf hf (by simpa using hname) hb h3 hrs hac h
      ·rename_i x hsp
       split at hcomp
       ·cases hcomp
       ·rename_i ac l y B hcd
        simp only [Option.some.injEq,Prod.mk.injEq] at hcomp
        obtain ⟨rfl,h2,h3,h4⟩:=hcomp
        obtain ⟨A0,id,ops,os,o,B0⟩:=x
        obtain ⟨rfl,hops⟩:=P5 hsp
        obtain ⟨cc,f,e1,e2,e3,e4,e5,e6,e7,e8,e9⟩:=RQ hcd
        cases hd:fn'.dfr with
        |none=>rw [hd] at h4;cases h4
        |some x=>
         obtain ⟨l',x',aB⟩:=x
         rw [hd] at h4
         simp only [Option.map_some,Option.some.injEq,Prod.mk.injEq] at h4
         obtain ⟨rfl,rfl,rfl⟩:=h4
         simp only [hd] at h
         exact S9 hE hC hc hd hf (by simpa using hname) hb hops h3 hrs e6 e8 e7 e1 e2 e3 e4 e5 e9 h
 ·exact hE.orc g args H r H' h
theorem zN(hE:E.Ok):∀ n,IA dec E n∧Dc dec E n:=by
 intro n
 induction n using Nat.strongRecOn with
 |ind n ih=>
  have h1:=P4 (fun j hj=>(ih j hj).2) hE (fun j hj=>(ih j hj).1)
  exact ⟨h1,RR hE (fun j hj=>(ih j hj).2) fun j hj=>by
   rcases Nat.lt_or_eq_of_le hj with h | rfl
   ·exact (ih j h).1
   ·exact h1⟩
end
mutual
def AV.eqb:AV→AV→Bool
 |.unk,.unk=>true
 |.bool a,.bool b=>a == b
 |.int k m,.int k' n=>decide (k=k')&&decide (m=n)
 |.str s,.str t=>decide (s=t)
 |.nilp,.nilp=>true
 |.ptr i o,.ptr i' o'=>Nat.beq i i'&&Nat.beq o o'
 |.vptr e r i o,.vptr e' r' i' o'=>Nat.beq e e'&&AV.eqbR r r'&&Nat.beq i i'&&Nat.beq o o'
 |.slice t e r,.slice t' e' r'=>decide (t=t')&&Nat.beq e e'&&AV.eqbR r r'
 |.rslice i o l e r,.rslice i' o' l' e' r'=>Nat.beq i i'&&Nat.beq o o'&&Nat.beq l l'&&Nat.beq e e'&&r == r'
 |.nilmap,.nilmap=>true
 |.map i,.map i'=>Nat.beq i i'
 |.vmap es,.vmap es'=>AV.eqbE es es'
 |.sdp t r,.sdp t' r'=>Nat.beq t t'&&AV.eqbR r r'
 |.fn (.func g) a b,.fn (.func g') a' b'=>Nat.beq g g'&&AV.eqbL a a'&&AV.eqbL b b'
 |.nilfn,.nilfn=>true
 |.iface t v,.iface t' v'=>Nat.beq t t'&&AV.eqb v v'
 |.nilif,.nilif=>true
 |.agg a,.agg b=>AV.eqbL a b
 |.tuple a,.tuple b=>AV.eqbL a b
 |_,_=>false
def AV.eqbL:List AV→List AV→Bool
 |[],[]=>true
 |x::l,y::m=>AV.eqb x y&&AV.eqbL l m
 |_,_=>false
def AV.eqbR:List (List AV)→List (List AV)→Bool
 |[],[]=>true
 |x::l,y::m=>AV.eqbL x y&&AV.eqbR l m
 |_,_=>false
def AV.eqbE:List (AV×AV)→List (AV×AV)→Bool
 |[],[]=>true
 |x::l,y::m=>AV.eqbP x y&&AV.eqbE l m
 |_,_=>false
def AV.eqbP:AV×AV→AV×AV→Bool
 |(x,y),(x',y')=>AV.eqb x x'&&AV.eqb y y'
end
mutual
theorem AV.eqb_eq:∀ {x y:AV},AV.eqb x y=true→x=y
 |.unk,y,h=>by cases y<;>simp [AV.eqb] at h;rfl
 |.bool a,y,h=>by cases y<;>simp [AV.eqb] at h;rw [h]
 |.int k m,y,h=>by cases y<;>simp [AV.eqb] at h;rw [h.1,h.2]
 |.str s,y,h=>by cases y<;>simp [AV.eqb] at h;rw [h]
 |.nilp,y,h=>by cases y<;>simp [AV.eqb] at h;rfl
 |.ptr i o,y,h=>by cases y<;>simp [AV.eqb] at h;rw [h.1,h.2]
 |.vptr e r i o,y,h=>by
  cases y<;>simp [AV.eqb] at h
  obtain ⟨⟨⟨h1,h2⟩,h3⟩,h4⟩:=h
  rw [h1,AV.eqbR_eq h2,h3,h4]
 |.slice t e r,y,h=>by
  cases y<;>simp [AV.eqb] at h
  obtain ⟨⟨h1,h2⟩,h3⟩:=h
  rw [h1,h2,AV.eqbR_eq h3]
 |.rslice i o l e r,y,h=>by
  cases y<;>simp [AV.eqb] at h
  obtain ⟨⟨⟨⟨h1,h2⟩,h3⟩,h4⟩,h5⟩:=h
  rw [h1,h2,h3,h4,h5]
 |.nilmap,y,h=>by cases y<;>simp [AV.eqb] at h;rfl
 |.map i,y,h=>by cases y<;>simp [AV.eqb] at h;rw [h]
 |.vmap es,y,h=>by cases y<;>simp [AV.eqb] at h;rw [AV.eqbE_eq h]
 |.sdp t r,y,h=>by
  cases y<;>simp [AV.eqb] at h
  rw [h.1,AV.eqbR_eq h.2]
 |.fn (.func g) a b,.fn (.func g') a' b',h=>by
  simp [AV.eqb] at h
  obtain ⟨⟨h1,h2⟩,h3⟩:=h
  rw [h1,AV.eqbL_eq h2,AV.eqbL_eq h3]
 |.fn (.func g) a b,.fn (.method _) a' b',h=>by simp [AV.eqb] at h
 |.fn (.func g) a b,.fn (.methodOf _ _) a' b',h=>by simp [AV.eqb] at h
 |.fn (.func g) a b,.fn (.via _ _ _ _) a' b',h=>by simp [AV.eqb] at h
 |.fn (.func g) a b,.fn (.yield _) a' b',h=>by simp [AV.eqb] at h
 |.fn (.method _) a b,y,h=>by simp [AV.eqb] at h
 |.fn (.methodOf _ _) a b,y,h=>by simp [AV.eqb] at h
 |.fn (.via _ _ _ _) a b,y,h=>by simp [AV.eqb] at h
 |.fn (.yield _) a b,y,h=>by simp [AV.eqb] at h
 |.fn (.func g) a b,.unk,h=>by simp [AV.eqb] at h
 |.fn (.func g) a b,.bool _,h=>by simp [AV.eqb] at h
 |.fn (.func g) a b,.int _ _,h=>by simp [AV.eqb] at h
 |.fn (.func g) a b,.str _,h=>by simp [AV.eqb] at h
 |.fn (.func g) a b,.nilp,h=>by simp [AV.eqb] at h
 |.fn (.func g) a b,.ptr _ _,h=>by simp [AV.eqb] at h
 |.fn (.func g) a b,.vptr _ _ _ _,h=>by simp [AV.eqb] at h
 |.fn (.func g) a b,.slice _ _ _,h=>by simp [AV.eqb] at h
 |.fn (.func g) a b,.rslice _ _ _ _ _,h=>by simp [AV.eqb] at h
 |.fn (.func g) a b,.nilmap,h=>by simp [AV.eqb] at h
 |.fn (.func g) a b,.map _,h=>by simp [AV.eqb] at h
 |.fn (.func g) a b,.vmap _,h=>by simp [AV.eqb] at h
 |.fn (.func g) a b,.sdp _ _,h=>by simp [AV.eqb] at h
 |.fn (.func g) a b,.nilfn,h=>by simp [AV.eqb] at h
 |.fn (.func g) a b,.iface _ _,h=>by simp [AV.eqb] at h
 |.fn (.func g) a b,.nilif,h=>by simp [AV.eqb] at h
 |.fn (.func g) a b,.agg _,h=>by simp [AV.eqb] at h
 |.fn (.func g) a b,.tuple _,h=>by simp [AV.eqb] at h
 |.nilfn,y,h=>by cases y<;>simp [AV.eqb] at h;rfl
 |.iface t v,y,h=>by
  cases y<;>simp [AV.eqb] at h
  rw [h.1,AV.eqb_eq h.2]
 |.nilif,y,h=>by cases y<;>simp [AV.eqb] at h;rfl
 |.agg a,y,h=>by cases y<;>simp [AV.eqb] at h;rw [AV.eqbL_eq h]
 |.tuple a,y,h=>by cases y<;>simp [AV.eqb] at h;rw [AV.eqbL_eq h]
theorem AV.eqbL_eq:∀ {x y:List AV},AV.eqbL x y=true→x=y
 |[],y,h=>by cases y<;>simp [AV.eqbL] at h;rfl
 |x::l,y,h=>by
  cases y<;>simp [AV.eqbL] at h
  rw [AV.eqb_eq h.1,AV.eqbL_eq h.2]
theorem AV.eqbR_eq:∀ {x y:List (List AV)},AV.eqbR x y=true→x=y
 |[],y,h=>by cases y<;>simp [AV.eqbR] at h;rfl
 |x::l,y,h=>by
  cases y<;>simp [AV.eqbR] at h
  rw [AV.eqbL_eq h.1,AV.eqbR_eq h.2]
theorem AV.eqbE_eq:∀ {x y:List (AV×AV)},AV.eqbE x y=true→x=y
 |[],y,h=>by cases y<;>simp [AV.eqbE] at h;rfl
 |x::l,y,h=>by
  cases y<;>simp [AV.eqbE] at h
  rw [AV.eqbP_eq h.1,AV.eqbE_eq h.2]
theorem AV.eqbP_eq:∀ {x y:AV×AV},AV.eqbP x y=true→x=y
 |(x,x'),(y,y'),h=>by
  simp [AV.eqbP] at h
  rw [AV.eqb_eq h.1,AV.eqb_eq h.2]
end
def ab.eqb:ab→ab→Bool
 |.dead,.dead=>true
 |.cells a T,.cells b T'=>AV.eqbL a b&&Nat.beq T T'
 |.tok n T,.tok n' T'=>Nat.beq n n'&&Nat.beq T T'
 |.siter s n,.siter s' n'=>decide (s=s')&&Nat.beq n n'
 |.map a,.map b=>AV.eqbE a b
 |_,_=>false
theorem ab.eqb_eq{x y:ab}(h:ab.eqb x y=true):x=y:=by
 cases x<;>cases y<;>simp [ab.eqb] at h<;>try rfl
 ·rw [AV.eqbL_eq h.1,h.2]
 ·rw [h.1,h.2]
 ·rw [h.1,h.2]
 ·rw [AV.eqbE_eq h]
def Bf:List ab→List ab→Bool
 |[],_=>true
 |x::l,y::m=>ab.eqb x y&&Bf l m
 |_,_=>false
theorem zO:∀ {H H':List ab},Bf H H'=true→H'.take H.length=H
 |[],_,_=>by simp
 |x::l,y,h=>by
  cases y<;>simp [Bf] at h
  rw [← ab.eqb_eq h.1]
  simp [zO h.2]
def UW:Dec where
 frz _ _ _ _:=.no
 hand _ _ _:=.no
 back _ _ _ _:=.no
 ap T L:=if h:L.all (fun x => !T.contains x)=true then .yes (fun x hx ht=>by
   have:=List.all_eq_true.1 h x hx
   simp [ht] at this) else .no
 wide _ _ _ _ _ _:=.no
 same H H':=if h:(Bf H H'&&Nat.beq H.length H'.length)=true then .yes (by
   simp only [Bool.and_eq_true,Nat.beq_eq] at h
   have:=zO h.1
   rwa [h.2,List.take_length] at this) else .no
 keep H H':=if h:Bf H H'=true then .yes (zO h) else .no
end Go.Am
