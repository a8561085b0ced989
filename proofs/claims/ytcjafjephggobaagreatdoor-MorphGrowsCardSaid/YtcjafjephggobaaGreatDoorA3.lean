import Derived.Test.YtcjafjephggobaaGreatDoorA2
import Derived.IntWalk
import Derived.Laws.Externs
import Derived.Lib.Bytealg
import Derived.Lib.MakeNoZero
import Derived.Lib.Builder
import Derived.Carry
import Derived.Deep.Slices
import Derived.DataReads
/-
  Part 3 of the tool: an abstract machine over the model, proved sound, and what it says of the functions that the law reaches. Condition: none but those that each theorem names.
-/
set_option linter.unusedVariables false
set_option linter.unusedSimpArgs false
section
namespace Go.Am
open Go.RowKit
def sel{α:Type}(b:Bool)(x y:α):α:=
 match b with
 |true=>x
 |false=>y
def UX(x:Option (AV×List ab)):Option Out:=
 match x with
 |some (v,H)=>some (.ret v,H)
 |none=>none
def UY(x:AV)(H:List ab):Option Out:=
 match x with
 |.iface t v=>some (.panic (.iface t v),H)
 |_=>none
def Df(E:bt)(f:Rec)(x:AV)(args:List AV)(H:List ab):Option Out:=
 match x with
 |.fn (.func g) first cap=>Ek E f g (first++args++cap) H
 |_=>none
def u7(E:bt)(f:Rec)(a:Env)(H:List ab)(s:RS):Option Out:=
 match s with
 |.op op=>UX (rop a H op)
 |.call x args=>Df E f (rx a x) (args.map (rx a)) H
 |.panic x=>UY (rx a x) H
def Dg{α:Type}(v:AV)(w:Bool)(x u:Option α):Option α:=
 match v with
 |.bool b=>sel (b == w) x u
 |.tuple _=>u
 |_=>none
def lC{α:Type}(a:Env)(g:Option (Nat×Bool))(u x:Option α):Option α:=
 match g with
 |none=>x
 |some (t,w)=>Dg (iu a t) w x u
def aft(dec:Dec)(E:bt)(f:Rec)(fn:AFn)(H0:List ab)(os:List RO)(k:List Fra)(a:Env)(d:Option Nat)(r:Option Out):Option Out:=
 match r with
 |some (.ret v,H)=>f fn H0 (.c (.ops os)::k) (kT a d v) H
 |some (.panic v,H)=>mz dec E f fn H0 k a v H
 |none=>none
abbrev IV:=AV×List ab×List Nat×List Nat
def Ta(x:Option (AV×List ab))(y:Option (List Nat×List Nat)):Option IV:=
 match x,y with
 |some (v,H),some (T,L)=>some (v,H,T,L)
 |_,_=>none
def Ck(dec:Dec)(E:bt)(c:Cl)(x:AV)(args:List AV)(H:List ab)(T L:List Nat)(r:Option Out):Option IV:=
 match x,r with
 |.fn (.func g) first cap,some (.ret v,H')=>if vg dec E c g (first++args++cap) H v H' then some (v,H',T,L) else none
 |_,_=>none
def vW(E:bt)(c:Cl)(x:AV)(args:List AV)(H:List ab):Option (AV×List Nat):=
 match x with
 |.fn (.func g) first cap=>Oo E c g (first++args++cap) H
 |_=>none
def Nw(w:Option (AV×List Nat))(H:List ab)(T L:List Nat)(r:Option IV):Option IV:=
 match w with
 |some (v,L1)=>some (v,H,T,L1++L)
 |none=>r
def vX(dec:Dec)(E:bt)(f:Rec)(a:Env)(H:List ab)(s:Bool)(T L:List Nat)(c:Cl)(x:RS):Option IV:=
 match x with
 |.op op=>Ta (rop a H op) (tY s c a op T L)
 |.call x args=>Nw (vW E c (rx a x) (args.map (rx a)) H) H T L <| Ck dec E c (rx a x) (args.map (rx a)) H T L (Df E f (rx a x) (args.map (rx a)) H)
 |.panic _=>none
def P6(f:Rec)(fn:AFn)(H0:List ab)(s:Bool)(l:List (RO×Cl))(k:List Fra)(a:Env)(d:Option Nat)(r:Option IV):Option Out:=
 match r with
 |some (v,H,T,L)=>f fn H0 (.c (.dops s T L l)::k) (kT a d v) H
 |none=>none
def condR(f:Rec)(fn:AFn)(H0:List ab)(x y:AC)(k:List Fra)(a:Env)(H:List ab)(c:AV):Option Out:=
 match c with
 |.bool b=>sel b (f fn H0 (.c x::k) a H) (f fn H0 (.c y::k) a H)
 |_=>none
def dfR(E:bt)(f:Rec)(fn:AFn)(H0:List ab)(B:AC)(k:List Fra)(a:Env)(H:List ab)(v:AV):Option Out:=
 match v with
 |.fn (.func g) first cap=>if (E.dfn g).isSome then f fn H0 (.c B :: .dr (.fn (.func g) first cap)::k) a H else none
 |_=>none
def emR(dec:Dec)(fn:AFn)(H0:List ab)(a:Env)(H:List ab):Option Out:=
 match fn.dfr with
 |none=>fin dec fn H0 a H
 |some _=>none
def RT(f:Rec)(fn:AFn)(H0:List ab)(a:Env)(H:List ab)(k:Option (List Fra)):Option Out:=
 match k with
 |some k=>f fn H0 k a H
 |none=>none
def IC(f:Rec)(fn:AFn)(H0:List ab)(h:LH)(x:AC)(k:List Fra)(r:Option (Env×List ab)):Option Out:=
 match r with
 |some (a,H)=>f fn H0 (.c x :: .lp h x H::k) a H
 |none=>none
def inR(f:Rec)(fn:AFn)(H0:List ab)(h:LH)(x:AC)(k:List Fra)(r:Env×List ab):Option Out:=f fn H0 (.c x :: .lp h x r.2::k) r.1 r.2
def yz(dec:Dec)(T L:List Nat)(r:Option Out):Option Out:=
 match dec.ap T L with
 |.yes _=>r
 |.no=>none
def kA(dec:Dec)(E:bt)(f:Rec)(fn:AFn)(H0:List ab)(k:List Fra)(a:Env)(H:List ab):Option Out:=
 match k with
 |[]=>emR dec fn H0 a H
 |.df x B::k=>dfR E f fn H0 B k a H (rx a x)
 |.dr v::k=>ti dec E f fn H0 (.dr v::k) a H
 |.blk _::k=>f fn H0 k a H
 |.lp h x He::k=>IC f fn H0 h x k (rU dec h He a H)
 |.c ac::k=>match ac with
  |.skip=>f fn H0 k a H
  |.exit id=>RT f fn H0 a H (unw id k)
  |.ret=>ti dec E f fn H0 k a H
  |.seq x y=>f fn H0 (.c x :: .c y::k) a H
  |.lv l=>f fn H0 k (rT a l) H
  |.bad=>none
  |.cond c x y=>condR f fn H0 x y k a H (rx a c)
  |.block id x=>f fn H0 (.c x :: .blk id::k) a H
  |.loop h x=>inR f fn H0 h x k (rV h a H)
  |.ops []=>f fn H0 k a H
  |.ops (o::os)=>aft dec E f fn H0 os k a o.d (lC a o.g (some (.ret iY,H)) (u7 E f a H o.s))
  |.dops _ T L []=>yz dec T L (f fn H0 k a H)
  |.dops s T L ((o,c)::l)=>P6 f fn H0 s l k a o.d (lC a o.g (some (iY,H,T,L)) (vX dec E f a H s T L c o.s))
section
variable{dec:Dec}{E:bt}
theorem GD{α:Type}(a:Env)(o:RO)(u x:Option α):lC a o.g u x=match E8 a o with
  |none=>none
  |some false=>u
  |some true=>x:=by
 unfold lC E8
 cases o.g with
 |none=>rfl
 |some g=>
  simp only [Dg]
  cases iu a g.1<;>simp only
  rename_i b
  cases hb:(b == g.2)<;>simp [sel]
theorem Nx(n:Nat)(fn:AFn)(H0:List ab)(k:List Fra)(a:Env)(H:List ab):ev dec E (n+1) fn H0 k a H=kA dec E (ev dec E n) fn H0 k a H:=by
 match k with
 |[]=>
  simp only [ev,kA,emR]
  cases fn.dfr<;>rfl
 |.df x B::k=>
  simp only [ev,kA,dfR]
  cases rx a x with
  |fn f first cap=>cases f<;>rfl
  |_=>rfl
 |.dr v::k=>rfl
 |.blk _::k=>rfl
 |.lp h x He::k=>simp only [ev,kA,IC];cases rU dec h He a H<;>rfl
 |.c .skip::k=>rfl
 |.c (.exit id)::k=>simp only [ev,kA,RT];cases unw id k<;>rfl
 |.c .ret::k=>rfl
 |.c (.seq x y)::k=>rfl
 |.c (.lv l)::k=>rfl
 |.c .bad::k=>rfl
 |.c (.cond c x y)::k=>
  simp only [ev,kA,condR]
  cases rx a c<;>simp only
  rename_i b;cases b<;>rfl
 |.c (.block id x)::k=>rfl
 |.c (.loop h x)::k=>rfl
 |.c (.ops [])::k=>rfl
 |.c (.ops (o::os))::k=>
  simp only [ev,kA]
  rw [GD]
  cases hw:E8 a o with
  |none=>rfl
  |some b=>
   cases b with
   |false=>rfl
   |true=>
    simp only [u7]
    cases o.s with
    |op op=>simp only;cases rop a H op<;>rfl
    |call f args=>
     simp only [Df]
     cases rx a f with
     |fn f first cap=>
      cases f with
      |func g=>
       simp only [Ek]
       cases E.fn g with
       |none=>
        simp only
        cases E.orc g (first++args.map (rx a)++cap) H with
        |none=>rfl
        |some r=>obtain ⟨r,H'⟩:=r;cases r<;>rfl
       |some fn'=>
        simp only
        cases fn'.dfr with
        |none=>
         simp only
         cases ev dec E n fn' H [.c fn'.c] (env (first++args.map (rx a)++cap)) H with
         |none=>rfl
         |some r=>obtain ⟨r,H'⟩:=r;cases r<;>rfl
        |some q=>
         simp only
         cases ev dec E n fn' H [.c fn'.c,.c (.ops q.1),.df q.2.1 q.2.2] (env (first++args.map (rx a)++cap)) H with
         |none=>rfl
         |some r=>obtain ⟨r,H'⟩:=r;cases r<;>rfl
      |_=>rfl
     |_=>rfl
    |panic x=>simp only [UY];cases rx a x<;>rfl
 |.c (.dops s T L [])::k=>rfl
 |.c (.dops s T L ((o,c)::l))::k=>
  simp only [ev,kA]
  rw [GD]
  cases hw:E8 a o with
  |none=>rfl
  |some b=>
   cases b with
   |false=>rfl
   |true=>
    simp only [vX]
    cases o.s with
    |op op=>simp only [Ta];cases rop a H op<;>cases tY s c a op T L<;>rfl
    |call f args=>
     simp only [Df,Ck,Nw,vW]
     cases rx a f with
     |fn f first cap=>
      cases f with
      |func g=>
       simp only
       cases Oo E c g (first++args.map (rx a)++cap) H with
       |some v=>rfl
       |none=>
        simp only
        cases Ek E (fun fn H0 k a H=>ev dec E n fn H0 k a H) g (first++args.map (rx a)++cap) H with
        |none=>rfl
        |some r=>
         obtain ⟨r,H'⟩:=r
         cases r with
         |ret v=>simp only;split<;>rfl
         |panic v=>rfl
      |_=>rfl
     |_=>rfl
    |panic x=>rfl
def RLe(f g:Rec):Prop:=∀ fn H0 k a H r,f fn H0 k a H=some r→g fn H0 k a H=some r
theorem RU{f g:Rec}(h:RLe f g){x:FuncId}{args:List AV}{H:List ab}{r:Out}(hr:Ek E f x args H=some r):Ek E g x args H=some r:=by
 unfold Ek at hr ⊢
 split at hr
 ·rename_i fn' he
  split at hr<;>exact h _ _ _ _ _ _ hr
 ·exact hr
theorem callDE_mono{f g:Rec}(h:RLe f g){v p:AV}{H H':List ab}(hr:tu E f v p H=some H'):tu E g v p H=some H':=by
 unfold tu at hr ⊢
 split at hr
 ·split at hr
  ·split at hr
   ·rename_i he;rw [h _ _ _ _ _ _ he];exact hr
   ·cases hr
  ·cases hr
 ·cases hr
theorem J6{f g:Rec}(h:RLe f g){fn:AFn}{H0:List ab}{k:List Fra}{a:Env}{H:List ab}{r:Out}(hr:ti dec E f fn H0 k a H=some r):ti dec E g fn H0 k a H=some r:=by
 unfold ti at hr ⊢
 split at hr
 ·exact hr
 ·split at hr
  ·split at hr
   ·rename_i he;rw [callDE_mono h he];exact hr
   ·cases hr
  ·cases hr
theorem ID{f g:Rec}(h:RLe f g){fn:AFn}{H0:List ab}{k:List Fra}{a:Env}{p:AV}{H:List ab}{r:Out}(hr:mz dec E f fn H0 k a p H=some r):mz dec E g fn H0 k a p H=some r:=by
 unfold mz at hr ⊢
 split at hr
 ·exact hr
 ·split at hr
  ·split at hr
   ·rename_i he;rw [callDE_mono h he];exact hr
   ·cases hr
  ·cases hr
theorem Mk{f g:Rec}(h:RLe f g){x:AV}{args:List AV}{H:List ab}{r:Out}(hr:Df E f x args H=some r):Df E g x args H=some r:=by
 unfold Df at hr ⊢
 split at hr
 ·exact RU h hr
 ·cases hr
theorem J7{f g:Rec}(h:RLe f g){a:Env}{H:List ab}{s:RS}{r:Out}(hr:u7 E f a H s=some r):u7 E g a H s=some r:=by
 unfold u7 at hr ⊢
 cases s with
 |op op=>exact hr
 |call x args=>exact Mk h hr
 |panic x=>exact hr
theorem J8{f g:Rec}(h:RLe f g){a:Env}{H:List ab}{b:Bool}{T L:List Nat}{c:Cl}{s:RS}{r:IV}(hr:vX dec E f a H b T L c s=some r):vX dec E g a H b T L c s=some r:=by
 unfold vX at hr ⊢
 cases s with
 |op op=>exact hr
 |call x args=>
  simp only at hr ⊢
  unfold Nw at hr ⊢
  split at hr
  ·exact hr
  ·cases hv:Df E f (rx a x) (args.map (rx a)) H with
   |none=>rw [hv] at hr;unfold Ck at hr;split at hr<;>rename_i he<;>first | (cases he;done) | (cases hr;done)
   |some q=>rw [hv] at hr;rw [Mk h hv];exact hr
 |panic x=>exact hr
theorem vh{α:Type}{a:Env}{g:Option (Nat×Bool)}{u x y:Option α}{r:α}(h:∀ r,x=some r→y=some r)(hr:lC a g u x=some r):lC a g u y=some r:=by
 unfold lC at hr ⊢
 cases g with
 |none=>exact h r hr
 |some g=>
  simp only [Dg] at hr ⊢
  split at hr
  ·rename_i b hb
   cases hc:(b == g.2)<;>rw [hc] at hr<;>simp only [sel] at hr ⊢
   ·exact hr
   ·exact h r hr
  ·exact hr
  ·cases hr
theorem J9{f g:Rec}(h:RLe f g):RLe (kA dec E f) (kA dec E g):=by
 intro fn H0 k a H r hr
 match k with
 |[]=>exact hr
 |.df x B::k=>
  simp only [kA,dfR] at hr ⊢
  split at hr
  ·split at hr
   ·rename_i hs;simp only [hs,if_true];exact h _ _ _ _ _ _ hr
   ·cases hr
  ·cases hr
 |.dr v::k=>
  simp only [kA] at hr ⊢
  exact J6 h hr
 |.blk _::k=>exact h _ _ _ _ _ _ hr
 |.lp lh x He::k=>
  simp only [kA,IC] at hr ⊢
  split at hr
  ·rename_i he;exact h _ _ _ _ _ _ hr
  ·cases hr
 |.c .skip::k=>exact h _ _ _ _ _ _ hr
 |.c (.exit id)::k=>
  simp only [kA,RT] at hr ⊢
  split at hr
  ·exact h _ _ _ _ _ _ hr
  ·cases hr
 |.c .ret::k=>exact J6 h hr
 |.c (.seq x y)::k=>exact h _ _ _ _ _ _ hr
 |.c (.lv l)::k=>exact h _ _ _ _ _ _ hr
 |.c .bad::k=>cases hr
 |.c (.cond c x y)::k=>
  simp only [kA,condR] at hr ⊢
  split at hr
  ·rename_i b he
   cases b<;>simp only [sel] at hr ⊢ <;> exact h _ _ _ _ _ _ hr
  ·cases hr
 |.c (.block id x)::k=>exact h _ _ _ _ _ _ hr
 |.c (.loop lh x)::k=>exact h _ _ _ _ _ _ hr
 |.c (.ops [])::k=>exact h _ _ _ _ _ _ hr
 |.c (.ops (o::os))::k=>
  simp only [kA] at hr ⊢
  cases hv:lC a o.g (some (.ret iY,H)) (u7 E f a H o.s) with
  |none=>rw [hv] at hr;cases hr
  |some q=>
   rw [hv] at hr
   rw [vh (fun r=>J7 h) hv]
   unfold aft at hr ⊢
   obtain ⟨q,H'⟩:=q
   cases q with
   |ret v=>exact h _ _ _ _ _ _ hr
   |panic v=>exact ID h hr
 |.c (.dops s T L [])::k=>
  simp only [kA,yz] at hr ⊢
  split at hr
  ·exact h _ _ _ _ _ _ hr
  ·cases hr
 |.c (.dops s T L ((o,c)::l))::k=>
  simp only [kA] at hr ⊢
  cases hv:lC a o.g (some (iY,H,T,L)) (vX dec E f a H s T L c o.s) with
  |none=>rw [hv] at hr;cases hr
  |some q=>
   rw [hv] at hr
   rw [vh (fun r=>J8 h) hv]
   exact h _ _ _ _ _ _ hr
theorem Tb(n:Nat):RLe (ev dec E n) (ev dec E (n+1)):=by
 induction n with
 |zero=>intro fn H0 k a H r hr;cases hr
 |succ n ih=>
  intro fn H0 k a H r hr
  rw [Nx] at hr ⊢
  exact J9 ih fn H0 k a H r hr
theorem Bg{n m:Nat}(h:n≤m):RLe (ev dec E n) (ev dec E m):=by
 induction m with
 |zero=>
  have:n=0:=by omega
  subst this;exact fun _ _ _ _ _ _ h=>h
 |succ m ih=>
  by_cases e:n=m+1
  ·subst e;exact fun _ _ _ _ _ _ h=>h
  ·exact fun fn H0 k a H r hr=>Tb m fn H0 k a H r (ih (by omega) fn H0 k a H r hr)
end
structure cK (dec:Dec) (E:bt) where
 go:Rec
 spec:∀ fn H0 k a H r,go fn H0 k a H=some r↔∃ n,ev dec E n fn H0 k a H=some r
theorem Ox(dec:Dec)(E:bt):Nonempty (cK dec E):=by
 have key:∀ (fn:AFn) (H0:List ab) (k:List Fra) (a:Env) (H:List ab),∃ o:Option Out,∀ r,o=some r↔∃ n,ev dec E n fn H0 k a H=some r:=by
  intro fn H0 k a H
  by_cases h:∃ n r,ev dec E n fn H0 k a H=some r
  ·obtain ⟨n,r,h⟩:=h
   refine ⟨some r,fun r'=>⟨fun e=>⟨n,by rw [h,e]⟩,fun ⟨m,hm⟩ => ?_⟩⟩
   have h1:=Bg (Nat.le_max_left n m) fn H0 k a H r h
   have h2:=Bg (Nat.le_max_right n m) fn H0 k a H r' hm
   rw [← h1,← h2]
  ·exact ⟨none,fun r=>⟨fun e=>(by cases e),fun ⟨n,hn⟩=>absurd ⟨n,r,hn⟩ h⟩⟩
 exact ⟨⟨fun fn H0 k a H=>Classical.choose (key fn H0 k a H),fun fn H0 k a H=>Classical.choose_spec (key fn H0 k a H)⟩⟩
section
variable{dec:Dec}{E:bt}
theorem UZ{α:Type}{x y:Option α}(h:∀ r,x=some r↔y=some r):x=y:=by
 cases x with
 |none=>
  cases y with
  |none=>rfl
  |some y=>exact ((h y).2 rfl)
 |some x=>exact ((h x).1 rfl).symm
theorem cK.le(M:cK dec E)(n:Nat):RLe (ev dec E n) M.go:=fun fn H0 k a H r h=>(M.spec fn H0 k a H r).2 ⟨n,h⟩
theorem cK.runV_fin(M:cK dec E){x:AV}{args:List AV}{H:List ab}{r:Out}(h:Df E M.go x args H=some r):∃ n,Df E (ev dec E n) x args H=some r:=by
 unfold Df at h ⊢
 split at h
 ·unfold Ek at h ⊢
  split at h
  ·split at h<;>exact (M.spec _ _ _ _ _ _).1 h
  ·exact ⟨0,h⟩
 ·cases h
theorem cK.callDE_fin(M:cK dec E){v p:AV}{H H':List ab}(hr:tu E M.go v p H=some H'):∃ n,tu E (ev dec E n) v p H=some H':=by
 unfold tu at hr ⊢
 split at hr
 ·split at hr
  ·split at hr
   ·rename_i he
    obtain ⟨n,hn⟩:=(M.spec _ _ _ _ _ _).1 he
    exact ⟨n,by rw [hn];exact hr⟩
   ·cases hr
  ·cases hr
 ·cases hr
theorem cK.finKE_fin(M:cK dec E){fn:AFn}{H0:List ab}{k:List Fra}{a:Env}{H:List ab}{r:Out}(hr:ti dec E M.go fn H0 k a H=some r):∃ n,ti dec E (ev dec E n) fn H0 k a H=some r:=by
 unfold ti at hr ⊢
 split at hr
 ·exact ⟨0,hr⟩
 ·split at hr
  ·split at hr
   ·rename_i he
    obtain ⟨n,hn⟩:=M.callDE_fin he
    exact ⟨n,by rw [hn];exact hr⟩
   ·cases hr
  ·cases hr
theorem cK.finPKE_fin(M:cK dec E){fn:AFn}{H0:List ab}{k:List Fra}{a:Env}{p:AV}{H:List ab}{r:Out}(hr:mz dec E M.go fn H0 k a p H=some r):∃ n,mz dec E (ev dec E n) fn H0 k a p H=some r:=by
 unfold mz at hr ⊢
 split at hr
 ·exact ⟨0,hr⟩
 ·split at hr
  ·split at hr
   ·rename_i he
    obtain ⟨n,hn⟩:=M.callDE_fin he
    exact ⟨n,by rw [hn];exact hr⟩
   ·cases hr
  ·cases hr
theorem IE{α:Type}{a:Env}{g:Option (Nat×Bool)}{u x:Option α}{y:Nat→Option α}{r:α}(h:x=some r→∃ n,y n=some r)(hr:lC a g u x=some r):∃ n,lC a g u (y n)=some r:=by
 unfold lC at hr ⊢
 cases g with
 |none=>exact h hr
 |some g=>
  simp only [Dg] at hr ⊢
  split at hr
  ·rename_i b hb
   cases hc:(b == g.2)<;>rw [hc] at hr<;>simp only [sel] at hr ⊢
   ·exact ⟨0,hr⟩
   ·exact h hr
  ·exact ⟨0,hr⟩
  ·cases hr
theorem cK.stepR_fin(M:cK dec E){a:Env}{H:List ab}{s:RS}{q:Out}(hs:u7 E M.go a H s=some q):∃ n,u7 E (ev dec E n) a H s=some q:=by
 unfold u7 at hs ⊢
 cases s with
 |op op=>exact ⟨0,hs⟩
 |call x args=>exact M.runV_fin hs
 |panic x=>exact ⟨0,hs⟩
theorem cK.stepD_fin(M:cK dec E){a:Env}{H:List ab}{b:Bool}{T L:List Nat}{c:Cl}{s:RS}{q:IV}(hs:vX dec E M.go a H b T L c s=some q):∃ n,vX dec E (ev dec E n) a H b T L c s=some q:=by
 unfold vX at hs ⊢
 cases s with
 |op op=>exact ⟨0,hs⟩
 |call x args=>
  simp only at hs ⊢
  unfold Nw at hs ⊢
  split at hs
  ·exact ⟨0,hs⟩
  ·cases hv:Df E M.go (rx a x) (args.map (rx a)) H with
   |none=>rw [hv] at hs;unfold Ck at hs;split at hs<;>rename_i he<;>first | (cases he;done) | (cases hs;done)
   |some q=>
    obtain ⟨n,hn⟩:=M.runV_fin hv
    exact ⟨n,by simp only [hn];rw [← hv];exact hs⟩
 |panic x=>cases hs
theorem cK.step(M:cK dec E)(fn:AFn)(H0:List ab)(k:List Fra)(a:Env)(H:List ab):M.go fn H0 k a H=kA dec E M.go fn H0 k a H:=by
 refine UZ fun r=>⟨fun h => ?_,fun h => ?_⟩
 ·obtain ⟨n,hn⟩:=(M.spec _ _ _ _ _ _).1 h
  cases n with
  |zero=>cases hn
  |succ n=>rw [Nx] at hn;exact J9 (M.le n) _ _ _ _ _ _ hn
 ·have tail:∀ {fn H0 k a H r},M.go fn H0 k a H=some r→∃ n,ev dec E n fn H0 k a H=some r:=fun h=>(M.spec _ _ _ _ _ _).1 h
  have back:(∃ n,kA dec E (ev dec E n) fn H0 k a H=some r)→M.go fn H0 k a H=some r:=fun ⟨n,hn⟩=>(M.spec _ _ _ _ _ _).2 ⟨n+1,by rw [Nx];exact hn⟩
  apply back
  match k with
  |[]=>exact ⟨0,h⟩
  |.df x B::k=>
   simp only [kA,dfR] at h ⊢
   split at h
   ·split at h
    ·rename_i hs;simp only [hs,if_true];exact tail h
    ·cases h
   ·cases h
  |.dr v::k=>
   simp only [kA] at h ⊢
   exact M.finKE_fin h
  |.blk _::k=>exact tail h
  |.lp lh x He::k=>
   simp only [kA,IC] at h ⊢
   split at h
   ·rename_i he;exact tail h
   ·cases h
  |.c .skip::k=>exact tail h
  |.c (.exit id)::k=>
   simp only [kA,RT] at h ⊢
   split at h
   ·exact tail h
   ·cases h
  |.c .ret::k=>exact M.finKE_fin h
  |.c (.seq x y)::k=>exact tail h
  |.c (.lv l)::k=>exact tail h
  |.c .bad::k=>cases h
  |.c (.cond c x y)::k=>
   simp only [kA,condR] at h ⊢
   split at h
   ·rename_i b he
    cases b<;>simp only [sel] at h ⊢ <;> exact tail h
   ·cases h
  |.c (.block id x)::k=>exact tail h
  |.c (.loop lh x)::k=>exact tail h
  |.c (.ops [])::k=>exact tail h
  |.c (.ops (o::os))::k=>
   simp only [kA] at h ⊢
   cases hv:lC a o.g (some (.ret iY,H)) (u7 E M.go a H o.s) with
   |none=>rw [hv] at h;cases h
   |some q=>
    rw [hv] at h
    obtain ⟨n1,h1⟩:=IE (y:=fun n=>u7 E (ev dec E n) a H o.s) M.stepR_fin hv
    have up:∀ m,n1≤m→lC a o.g (some (.ret iY,H)) (u7 E (ev dec E m) a H o.s)=some q:=fun m hm=>vh (fun r=>J7 (Bg hm)) h1
    obtain ⟨q,H'⟩:=q
    cases q with
    |ret v=>
     obtain ⟨n2,h2⟩:=tail h
     refine ⟨max n1 n2, ?_⟩
     rw [up _ (Nat.le_max_left _ _)]
     exact Bg (Nat.le_max_right _ _) _ _ _ _ _ _ h2
    |panic v=>
     obtain ⟨n2,h2⟩:=M.finPKE_fin h
     refine ⟨max n1 n2, ?_⟩
     rw [up _ (Nat.le_max_left _ _)]
     exact ID (Bg (Nat.le_max_right _ _)) h2
  |.c (.dops s T L [])::k=>
   simp only [kA,yz] at h ⊢
   split at h
   ·exact tail h
   ·cases h
  |.c (.dops s T L ((o,c)::l))::k=>
   simp only [kA] at h ⊢
   cases hv:lC a o.g (some (iY,H,T,L)) (vX dec E M.go a H s T L c o.s) with
   |none=>rw [hv] at h;cases h
   |some q=>
    rw [hv] at h
    obtain ⟨n1,h1⟩:=IE (y:=fun n=>vX dec E (ev dec E n) a H s T L c o.s) M.stepD_fin hv
    have up:∀ m,n1≤m→lC a o.g (some (iY,H,T,L)) (vX dec E (ev dec E m) a H s T L c o.s)=some q:=fun m hm=>vh (fun r=>J8 (Bg hm)) h1
    obtain ⟨n2,h2⟩:=tail h
    refine ⟨max n1 n2, ?_⟩
    rw [up _ (Nat.le_max_left _ _)]
    exact Bg (Nat.le_max_right _ _) _ _ _ _ _ _ h2
def cK.run(M:cK dec E)(f:FuncId)(args:List AV)(H:List ab):Option Out:=Ek E M.go f args H
theorem cK.sound(M:cK dec E)(hE:E.Ok){f:FuncId}{args:List AV}{H:List ab}{r:vN}{H':List ab}(h:M.run f args H=some (r,H')):eS E.P E.G f args H fun r2 H2=>r2=r∧H2=H':=by
 have h1:∃ n,E9 dec E n f args H=some (r,H'):=by
  unfold cK.run Ek at h
  unfold E9 Ek
  split at h
  ·split at h<;>exact (M.spec _ _ _ _ _ _).1 h
  ·exact ⟨0,h⟩
 obtain ⟨n,hn⟩:=h1
 exact (zN (dec:=dec) hE n).2 f args H r H' hn
end
end Go.Am
end
section
namespace Go.Am
open Go.RowKit
open Classical in
noncomputable def cU:Dec where
 frz H0 H v v':=if h:On H0 H v v' then .yes h else .no
 hand H0 H v:=if h:dL H0 H∧Wk H0.length v (Ci v) then .yes h else .no
 back He H a l:=if h:dL He H∧∀ t∈l,Wk He.length (iu a t) (iu a t) then .yes h else .no
 ap T L:=if h:apart T L then .yes h else .no
 wide E g args H v H':=if h:H'=H∧GB E g args v then .yes h else .no
 same H H':=if h:H'=H then .yes h else .no
 keep H H':=if h:H'.take H.length=H then .yes h else .no
theorem Tc{H0 H:List ab}{v v':AV}(h:On H0 H v v'):cU.frz H0 H v v' = .yes h:=dif_pos h
theorem RV{H0 H:List ab}{v:AV}(h1:dL H0 H)(h2:Wk H0.length v (Ci v)):cU.hand H0 H v = .yes ⟨h1,h2⟩:=dif_pos (⟨h1,h2⟩:_∧_)
theorem RW{He H:List ab}{a:Env}{l:List Nat}(h1:dL He H)(h2:∀ t∈l,Wk He.length (iu a t) (iu a t)):cU.back He H a l = .yes ⟨h1,h2⟩:=dif_pos (⟨h1,h2⟩:_∧_)
theorem Q7{T L:List Nat}(h:apart T L):cU.ap T L = .yes h:=dif_pos h
theorem RY{E:bt}{g:FuncId}{args:List AV}{H:List ab}{v:AV}{H':List ab}(h1:H'=H)(h2:GB E g args v):cU.wide E g args H v H' = .yes ⟨h1,h2⟩:=dif_pos (⟨h1,h2⟩:_∧_)
theorem HC{H H':List ab}(h:H'.take H.length=H):cU.keep H H' = .yes h:=dif_pos h
def Ka{α β:Type}(o:Option α)(x y:β):β:=
 match o with
 |none=>x
 |some _=>y
theorem dsel_none{α β:Type}(x y:β):Ka (none:Option α) x y=x:=rfl
theorem dsel_some{α β:Type}(o:α)(x y:β):Ka (some o) x y=y:=rfl
theorem aF{α β:Type}{o o':Option α}{x y:β}(h:o=o'):Ka o x y=Ka o' x y:=by rw [h]
def Td(dec:Dec)(fn:AFn)(H0:List ab)(a:Env)(r:Option (List ab)):Option Out:=
 match r with
 |some H=>fin dec fn H0 a H
 |none=>none
def RZ(dec:Dec)(E:bt)(f:Rec)(fn:AFn)(H0:List ab)(a:Env)(p:AV)(H:List ab)(v:Option AV):Option Out:=
 match v with
 |some v=>Td dec fn H0 a (tu E f v p H)
 |none=>none
theorem U0(dec:Dec)(E:bt)(f:Rec)(fn:AFn)(H0:List ab)(k:List Fra)(a:Env)(H:List ab):ti dec E f fn H0 k a H=Ka fn.dfr (fin dec fn H0 a H) (RZ dec E f fn H0 a .nilif H (GA k)):=by
 unfold ti
 cases fn.dfr with
 |none=>rfl
 |some x=>
  simp only [Ka,RZ]
  cases GA k with
  |none=>rfl
  |some v=>simp only [Td];cases tu E f v .nilif H<;>rfl
theorem Te(dec:Dec)(E:bt)(f:Rec)(fn:AFn)(H0:List ab)(k:List Fra)(a:Env)(p:AV)(H:List ab):mz dec E f fn H0 k a p H=Ka fn.dfr (RK dec fn H0 p H) (RZ dec E f fn H0 a p H (GA k)):=by
 unfold mz
 cases fn.dfr with
 |none=>rfl
 |some x=>
  simp only [Ka,RZ]
  cases GA k with
  |none=>rfl
  |some v=>simp only [Td];cases tu E f v p H<;>rfl
section
variable{dec:Dec}{E:bt}(M:cK dec E)(fn:AFn)(H0:List ab)(k:List Fra)(a:Env)(H:List ab)
theorem go_nil:M.go fn H0 [] a H=Ka fn.dfr (fin dec fn H0 a H) none:=by rw [M.step,kA,emR];cases fn.dfr<;>rfl
theorem go_blk(id:Nat):M.go fn H0 (.blk id::k) a H=M.go fn H0 k a H:=M.step _ _ _ _ _
theorem go_lp(h:LH)(x:AC)(He:List ab):M.go fn H0 (.lp h x He::k) a H=IC M.go fn H0 h x k (rU dec h He a H):=M.step _ _ _ _ _
theorem go_skip:M.go fn H0 (.c .skip::k) a H=M.go fn H0 k a H:=M.step _ _ _ _ _
theorem go_exit(id:Nat):M.go fn H0 (.c (.exit id)::k) a H=RT M.go fn H0 a H (unw id k):=M.step _ _ _ _ _
theorem go_ret:M.go fn H0 (.c .ret::k) a H=Ka fn.dfr (fin dec fn H0 a H) (RZ dec E M.go fn H0 a .nilif H (GA k)):=by rw [M.step];exact U0 _ _ _ _ _ _ _ _
theorem go_seq(x y:AC):M.go fn H0 (.c (.seq x y)::k) a H=M.go fn H0 (.c x :: .c y::k) a H:=M.step _ _ _ _ _
theorem WZ(l:List Nat):M.go fn H0 (.c (.lv l)::k) a H=M.go fn H0 k (rT a l) H:=M.step _ _ _ _ _
theorem go_cond(c:RX)(x y:AC):M.go fn H0 (.c (.cond c x y)::k) a H=condR M.go fn H0 x y k a H (rx a c):=M.step _ _ _ _ _
theorem go_block(id:Nat)(x:AC):M.go fn H0 (.c (.block id x)::k) a H=M.go fn H0 (.c x :: .blk id::k) a H:=M.step _ _ _ _ _
theorem go_loop(h:LH)(x:AC):M.go fn H0 (.c (.loop h x)::k) a H=inR M.go fn H0 h x k (rV h a H):=M.step _ _ _ _ _
theorem go_ops0:M.go fn H0 (.c (.ops [])::k) a H=M.go fn H0 k a H:=M.step _ _ _ _ _
theorem go_op(d:Option Nat)(op:ROp)(os:List RO):M.go fn H0 (.c (.ops (⟨d,none,.op op⟩::os))::k) a H=aft dec E M.go fn H0 os k a d (UX (rop a H op)):=M.step _ _ _ _ _
theorem go_opg(d:Option Nat)(t:Nat)(w:Bool)(s:RS)(os:List RO):M.go fn H0 (.c (.ops (⟨d,some (t,w),s⟩::os))::k) a H=aft dec E M.go fn H0 os k a d (Dg (iu a t) w (u7 E M.go a H s) (some (.ret iY,H))):=M.step _ _ _ _ _
theorem go_call(d:Option Nat)(f:RX)(args:List RX)(os:List RO):M.go fn H0 (.c (.ops (⟨d,none,.call f args⟩::os))::k) a H=aft dec E M.go fn H0 os k a d (Df E M.go (rx a f) (args.map (rx a)) H):=M.step _ _ _ _ _
theorem go_panic(d:Option Nat)(x:RX)(os:List RO):M.go fn H0 (.c (.ops (⟨d,none,.panic x⟩::os))::k) a H=aft dec E M.go fn H0 os k a d (UY (rx a x) H):=M.step _ _ _ _ _
theorem go_dops0(s:Bool)(T L:List Nat):M.go fn H0 (.c (.dops s T L [])::k) a H=yz dec T L (M.go fn H0 k a H):=M.step _ _ _ _ _
theorem go_dop(s:Bool)(T L:List Nat)(d:Option Nat)(op:ROp)(c:Cl)(l:List (RO×Cl)):M.go fn H0 (.c (.dops s T L ((⟨d,none,.op op⟩,c)::l))::k) a H=P6 M.go fn H0 s l k a d (Ta (rop a H op) (tY s c a op T L)):=M.step _ _ _ _ _
theorem go_dopg(s:Bool)(T L:List Nat)(d:Option Nat)(t:Nat)(w:Bool)(x:RS)(c:Cl)(l:List (RO×Cl)):M.go fn H0 (.c (.dops s T L ((⟨d,some (t,w),x⟩,c)::l))::k) a H=P6 M.go fn H0 s l k a d (Dg (iu a t) w (vX dec E M.go a H s T L c x) (some (iY,H,T,L))):=M.step _ _ _ _ _
theorem go_dcall(s:Bool)(T L:List Nat)(d:Option Nat)(f:RX)(args:List RX)(c:Cl)(l:List (RO×Cl)):M.go fn H0 (.c (.dops s T L ((⟨d,none,.call f args⟩,c)::l))::k) a H=P6 M.go fn H0 s l k a d (Nw (vW E c (rx a f) (args.map (rx a)) H) H T L <| Ck dec E c (rx a f) (args.map (rx a)) H T L (Df E M.go (rx a f) (args.map (rx a)) H)):=M.step _ _ _ _ _
theorem stepR_op(op:ROp):u7 E M.go a H (.op op)=UX (rop a H op):=rfl
theorem stepR_call(f:RX)(args:List RX):u7 E M.go a H (.call f args)=Df E M.go (rx a f) (args.map (rx a)) H:=rfl
theorem stepR_panic(x:RX):u7 E M.go a H (.panic x)=UY (rx a x) H:=rfl
theorem stepD_op(s:Bool)(T L:List Nat)(c:Cl)(op:ROp):vX dec E M.go a H s T L c (.op op)=Ta (rop a H op) (tY s c a op T L):=rfl
theorem stepD_call(s:Bool)(T L:List Nat)(c:Cl)(f:RX)(args:List RX):vX dec E M.go a H s T L c (.call f args)=(Nw (vW E c (rx a f) (args.map (rx a)) H) H T L <| Ck dec E c (rx a f) (args.map (rx a)) H T L (Df E M.go (rx a f) (args.map (rx a)) H)):=rfl
theorem aft_ret(os:List RO)(d:Option Nat)(v:AV):aft dec E M.go fn H0 os k a d (some (.ret v,H))=M.go fn H0 (.c (.ops os)::k) (kT a d v) H:=rfl
theorem aft_panic(os:List RO)(d:Option Nat)(v:AV):aft dec E M.go fn H0 os k a d (some (.panic v,H))=Ka fn.dfr (RK dec fn H0 v H) (RZ dec E M.go fn H0 a v H (GA k)):=Te _ _ _ _ _ _ _ _ _
theorem aftD_some(s:Bool)(l:List (RO×Cl))(d:Option Nat)(v:AV)(T L:List Nat):P6 M.go fn H0 s l k a d (some (v,H,T,L))=M.go fn H0 (.c (.dops s T L l)::k) (kT a d v) H:=rfl
theorem P7(x y:AC)(b:Bool):condR M.go fn H0 x y k a H (.bool b)=sel b (M.go fn H0 (.c x::k) a H) (M.go fn H0 (.c y::k) a H):=rfl
theorem unwR_some(k':List Fra):RT M.go fn H0 a H (some k')=M.go fn H0 k' a H:=rfl
theorem backR_some(h:LH)(x:AC)(a':Env)(H':List ab):IC M.go fn H0 h x k (some (a',H'))=M.go fn H0 (.c x :: .lp h x H'::k) a' H':=rfl
theorem inR_mk(h:LH)(x:AC)(a':Env)(H':List ab):inR M.go fn H0 h x k (a',H')=M.go fn H0 (.c x :: .lp h x H'::k) a' H':=rfl
theorem runV_fn(g:FuncId)(first cap args:List AV):Df E M.go (.fn (.func g) first cap) args H=M.run g (first++args++cap) H:=rfl
theorem Wf{f:FuncId}{fn:AFn}(hf:E.fn f=some fn)(hd:fn.dfr=none)(args:List AV)(H:List ab):M.run f args H=M.go fn H [.c fn.c] (env args) H:=by
 unfold cK.run Ek;rw [hf];simp only [hd]
theorem Eb{f:FuncId}(hf:E.fn f=none)(args:List AV)(H:List ab):M.run f args H=E.orc f args H:=by
 unfold cK.run Ek;rw [hf]
theorem retO_some(v:AV)(H:List ab):UX (some (v,H))=some (.ret v,H):=rfl
theorem ronly_mk(v:AV)(H:List ab):cB H (some v)=some (v,H):=rfl
theorem runit_mk(H:List ab):E6 (some H)=some (iY,H):=rfl
theorem gsel_bool{α:Type}(b w:Bool)(x u:Option α):Dg (.bool b) w x u=sel (b == w) x u:=rfl
theorem gsel_tuple{α:Type}(vs:List AV)(w:Bool)(x u:Option α):Dg (.tuple vs) w x u=u:=rfl
theorem gsel_undef{α:Type}(w:Bool)(x u:Option α):Dg iY w x u=u:=rfl
theorem gsel_sel{α:Type}(b w:Bool)(v v':AV)(x u:Option α):Dg (sel b v v') w x u=sel b (Dg v w x u) (Dg v' w x u):=by cases b<;>rfl
theorem Ml(H:List ab)(T L:List Nat)(r:Option IV):Nw none H T L r=r:=rfl
theorem dynW_some(H:List ab)(T L:List Nat)(v:AV)(L1:List Nat)(r:Option IV):Nw (some (v,L1)) H T L r=some (v,H,T,L1++L):=rfl
theorem dynV_some(v:AV)(H:List ab)(T L:List Nat):Ta (some (v,H)) (some (T,L))=some (v,H,T,L):=rfl
theorem sel_true{α:Type}(x y:α):sel true x y=x:=rfl
theorem sel_false{α:Type}(x y:α):sel false x y=y:=rfl
theorem sel_self{α:Type}(b:Bool)(x:α):sel b x x=x:=by cases b<;>rfl
theorem sel_some{α:Type}(b:Bool)(x y:α):sel b (some x) (some y)=some (sel b x y):=by cases b<;>rfl
theorem sel_pair{α β:Type}(b:Bool)(x x':α)(y y':β):sel b (x,y) (x',y')=(sel b x x',sel b y y'):=by cases b<;>rfl
theorem sel_ret(b:Bool)(v v':AV):sel b (vN.ret v) (vN.ret v') = .ret (sel b v v'):=by cases b<;>rfl
theorem sel_bool(b p q:Bool):sel b (AV.bool p) (AV.bool q) = .bool (sel b p q):=by cases b<;>rfl
theorem sel_not{α:Type}(b:Bool)(x y:α):sel (!b) x y=sel b y x:=by cases b<;>rfl
theorem sel_and{α:Type}(b p:Bool)(x y:α):sel b (sel p x y) y=sel (b&&p) x y:=by cases b<;>cases p<;>rfl
theorem sel_b1(b p:Bool):sel b p false=(b&&p):=by cases b<;>rfl
theorem sel_b2(b p:Bool):sel b true p=(b||p):=by cases b<;>rfl
theorem sel_b3(b p:Bool):sel b p true=(!b||p):=by cases b<;>rfl
theorem sel_b4(b p:Bool):sel b false p=(!b&&p):=by cases b<;>rfl
theorem vL{α:Type}{b b':Bool}{x x' y y':α}(hb:b=b')(hx:b'=true→x=x')(hy:b'=false→y=y'):sel b x y=sel b' x' y':=by
 subst hb;cases b
 ·exact hy rfl
 ·exact hx rfl
theorem aG{α:Type}{v v':AV}{w:Bool}{x u:Option α}(h:v=v'):Dg v w x u=Dg v' w x u:=by rw [h]
theorem aZ{fn:AFn}{H0:List ab}{k:List Fra}{a a':Env}{H H':List ab}(ha:a=a')(hH:H=H'):M.go fn H0 k a H=M.go fn H0 k a' H':=by rw [ha,hH]
theorem aL{f:Rec}{fn:AFn}{H0:List ab}{os:List RO}{k:List Fra}{a:Env}{d:Option Nat}{r r':Option Out}(hr:r=r'):aft dec E f fn H0 os k a d r=aft dec E f fn H0 os k a d r':=by rw [hr]
theorem aH{f:Rec}{fn:AFn}{H0:List ab}{s:Bool}{l:List (RO×Cl)}{k:List Fra}{a:Env}{d:Option Nat}{r r':Option IV}(hr:r=r'):P6 f fn H0 s l k a d r=P6 f fn H0 s l k a d r':=by rw [hr]
theorem aA{f:Rec}{fn:AFn}{H0:List ab}{x y:AC}{k:List Fra}{a:Env}{H:List ab}{c c':AV}(hc:c=c'):condR f fn H0 x y k a H c=condR f fn H0 x y k a H c':=by rw [hc]
theorem aC{f:Rec}{fn:AFn}{H0:List ab}{h:LH}{x:AC}{k:List Fra}{r r':Option (Env×List ab)}(hr:r=r'):IC f fn H0 h x k r=IC f fn H0 h x k r':=by rw [hr]
theorem aM{f:Rec}{fn:AFn}{H0:List ab}{h:LH}{x:AC}{k:List Fra}{r r':Env×List ab}(hr:r=r'):inR f fn H0 h x k r=inR f fn H0 h x k r':=by rw [hr]
theorem aput_some(n:Nat)(v:AV):kT a (some n) v=uB a n v:=rfl
theorem aput_none(v:AV):kT a none v=a:=rfl
theorem rx_t(n:Nat):rx a (.t n)=iu a n:=rfl
theorem rx_c(v:AV):rx a (.c v)=v:=rfl
def rpk(c x y:AV):Option AV:=
 match c with
 |.bool b=>some (sel b x y)
 |_=>none
theorem rpk_bool(b:Bool)(x y:AV):rpk (.bool b) x y=some (sel b x y):=rfl
theorem Wg(c x y:RX):rop a H (.pk c x y)=cB H (rpk (rx a c) (rx a x) (rx a y)):=by
 simp only [rop,rpk]
 cases rx a c<;>try rfl
 rename_i b;cases b<;>rfl
theorem rop_mv(x:RX):rop a H (.mv x)=some (rx a x,H):=rfl
end
def at2(b:Bool)(x y:AV):AV:=
 match b with
 |true=>x
 |false=>y
theorem at2_true(x y:AV):at2 true x y=x:=rfl
theorem at2_false(x y:AV):at2 false x y=y:=rfl
theorem aN{b b':Bool}{x y:AV}(h:b=b'):at2 b x y=at2 b' x y:=by rw [h]
theorem ak(a:Env)(n m:Nat)(v:AV):iu (uB a n v) m=at2 (m == n) v (iu a m):=by
 rw [rh]
 by_cases h:m=n
 ·subst h;simp [at2]
 ·have:(m == n)=false:=by simpa using h
  rw [if_neg h,this];rfl
theorem a6{dec:Dec}{E:bt}(M:cK dec E){f:FuncId}{fn:AFn}{c:AC}(hf:E.fn f=some fn)(hd:fn.dfr=none)(hc:fn.c=c)(args:List AV)(H:List ab):M.run f args H=M.go fn H [.c c] (env args) H:=by
 rw [Wf M hf hd,hc]
def Wh(x:Option (AV×List ab)):Option Out:=
 match x with
 |some (v,H)=>some (.ret v,H)
 |none=>none
def W0(x:Option (AV×List ab)):Option Out:=
 match x with
 |some (v,H)=>some (.panic v,H)
 |none=>none
def Tg(dec:Dec)(m:RM)(H0 H:List ab)(x:Option AV):Option (AV×List ab):=
 match x with
 |some v=>u6 dec m H0 H v
 |none=>none
theorem fin_e(dec:Dec)(fn:AFn)(H0:List ab)(a:Env)(H:List ab):fin dec fn H0 a H=Wh (Tg dec fn.mode H0 H (Nn a H fn.res)):=by
 unfold fin Wh Tg
 cases Nn a H fn.res with
 |none=>rfl
 |some v=>rfl
theorem finP_e(dec:Dec)(fn:AFn)(H0:List ab)(v:AV)(H:List ab):RK dec fn H0 v H=W0 (u6 dec fn.mode H0 H v):=rfl
theorem finV_some(v:AV)(H:List ab):Wh (some (v,H))=some (.ret v,H):=rfl
theorem finW_some(v:AV)(H:List ab):W0 (some (v,H))=some (.panic v,H):=rfl
theorem handO_some(dec:Dec)(m:RM)(H0 H:List ab)(v:AV):Tg dec m H0 H (some v)=u6 dec m H0 H v:=rfl
theorem handV_keep(dec:Dec)(H0 H:List ab)(v:AV):u6 dec .keep H0 H v=some (v,H):=rfl
theorem handV_drop{H0 H:List ab}{v:AV}(h1:dL H0 H)(h2:Wk H0.length v (Ci v)):u6 cU .drop H0 H v=some (Ci v,H.take H0.length):=by
 unfold u6
 simp only [RV h1 h2]
theorem rres_one(a:Env)(H:List ab)(r:yy):Nn a H [r]=Db a H r:=rfl
theorem rres1_t(a:Env)(H:List ab)(n:Nat):Db a H (.t n)=some (iu a n):=rfl
theorem rres1_cell(a:Env)(H:List ab)(x:Nat)(g:Option Nat):Db a H (.cell x g)=pw g H (iu a x):=rfl
def Th(x:Option AV)(l:Option (List AV)):Option (List AV):=
 match x,l with
 |some v,some l=>some (v::l)
 |_,_=>none
def W1(l:Option (List AV)):Option AV:=
 match l with
 |some l=>some (.tuple l)
 |none=>none
theorem consO_some(v:AV)(l:List AV):Th (some v) (some l)=some (v::l):=rfl
theorem tupO_some(l:List AV):W1 (some l)=some (.tuple l):=rfl
theorem rresL_nil(a:Env)(H:List ab):ym a H []=some []:=rfl
theorem rresL_cons(a:Env)(H:List ab)(r:yy)(l:List yy):ym a H (r::l)=Th (Db a H r) (ym a H l):=by
 simp only [ym,Th]
 cases Db a H r<;>cases ym a H l<;>rfl
theorem rres_two(a:Env)(H:List ab)(r r':yy)(l:List yy):Nn a H (r::r'::l)=W1 (ym a H (r::r'::l)):=rfl
theorem rres_none(a:Env)(H:List ab):Nn a H []=some (.tuple []):=rfl
theorem cut_refl(H:List ab):dL H H:=⟨Nat.le_refl _,fun _ _ _ h=>.inl h⟩
theorem cut_app(H L:List ab):dL H (H++L):=⟨by simp,fun i x hi h=>.inl (by rwa [List.getElem?_append_left hi] at h)⟩
theorem yn{n:Nat}{v v':AV}(h:∀ (K K':aJ) (x:Value),V K v x→V K' v' x):Wk n v v':=fun K x _ hv=>h K _ x hv
theorem wk_int(n:Nat)(k:IntKind)(i:Int):Wk n (.int k i) (.int k i):=yn fun _ _ _ h=>by cases h;exact .int _ _
theorem wk_bool(n:Nat)(b:Bool):Wk n (.bool b) (.bool b):=yn fun _ _ _ h=>by cases h;exact .bool _
theorem wk_str(n:Nat)(s:List UInt8):Wk n (.str s) (.str s):=yn fun _ _ _ h=>by cases h;exact .str _
theorem wk_unk(n:Nat):Wk n .unk .unk:=yn fun _ _ _ _=>.unk _
theorem wk_nilp(n:Nat):Wk n .nilp .nilp:=yn fun _ _ _ h=>by cases h;exact .nilp
theorem wk_nilif(n:Nat):Wk n .nilif .nilif:=yn fun _ _ _ h=>by cases h;exact .nilif
theorem wk_nilfn(n:Nat):Wk n .nilfn .nilfn:=yn fun _ _ _ h=>by cases h;exact .nilfn
theorem R0(n:Nat):Wk n .nilmap .nilmap:=yn fun _ _ _ h=>by cases h;exact .nilmap
section
variable(a:Env)(H:List ab)
theorem rop_nw(cs:List AV)(e:TypeId):rop a H (.nw cs e)=some (.ptr H.length 0,H++[.cells cs e]):=rfl
theorem Wi(z:List AV)(pl:List (Nat×Nat))(ps:List (Nat×RX)):rop a H (.bd z pl ps)=cB H ((pG (pl[·]?) z (ps.map fun p=>(p.1,rx a p.2))).map .agg):=rfl
theorem rop_bs(sz:Nat)(z:List AV)(len:Nat)(ps:List (Nat×RX)):rop a H (.bs sz z len ps)=cB H ((pG (fun i=>some (i*sz,sz)) (Gk len z) (ps.map fun p=>(p.1,rx a p.2))).map fun cs=>.slice .full sz (yh sz len (cs.map AV.strip))):=rfl
theorem rop_ld(g:Option Nat)(x:RX):rop a H (.ld g x)=cB H (pw g H (rx a x)):=rfl
theorem rop_st(sz:Nat)(x v:RX):rop a H (.st sz x v)=E6 (HB sz H (rx a x) (rx a v)):=rfl
theorem rop_ar(op:BinOp)(x y:RX):rop a H (.ar op x y)=cB H (rar op (rx a x) (rx a y)):=rfl
theorem rop_sh(op:BinOp)(x y:RX):rop a H (.sh op x y)=cB H (rsh op (rx a x) (rx a y)):=rfl
theorem rop_an(x y:RX):rop a H (.an x y)=cB H (ran (rx a x) (rx a y)):=rfl
theorem rop_eq(neg:Bool)(k:EK)(x y:RX):rop a H (.eq neg k x y)=cB H ((req k (rx a x) (rx a y)).map fun b=>.bool (if neg then !b else b)):=rfl
theorem rop_un(op:UnOp)(x:RX):rop a H (.un op x)=cB H (L9 op (rx a x)):=rfl
theorem rop_cvi(k:IntKind)(x:RX):rop a H (.cvi k x)=cB H (V6 k (rx a x)):=rfl
theorem rop_cvs(x:RX):rop a H (.cvs x)=cB H (V7 (rx a x)):=rfl
theorem Ti(x:RX):rop a H (.cvbs x)=cB H (Oa H (rx a x)):=rfl
theorem rop_cvsb(x:RX):rop a H (.cvsb x)=cB H (SZ (rx a x)):=rfl
theorem rop_mi(t:TypeId)(x:RX):rop a H (.mi t x)=some (.iface t (rx a x),H):=rfl
theorem rop_ta(T:TypeId)(z:Option AV)(ok:Bool)(x:RX):rop a H (.ta T z ok x)=cB H (rta T z ok (rx a x)):=rfl
theorem rop_mf(f:Fn)(xs ys:List RX):rop a H (.mf f xs ys)=some (.fn f (xs.map (rx a)) (ys.map (rx a)),H):=rfl
theorem rop_sls(x:RX)(l h:Option RX):rop a H (.sls x l h)=cB H (Ng (rx a x) (l.map (rx a)) (h.map (rx a))):=rfl
theorem rop_sll(sz:Nat)(x:RX)(l h m:Option RX):rop a H (.sll sz x l h m)=cB H (Cf sz (rx a x) (l.map (rx a)) (h.map (rx a)) (m.map (rx a))):=rfl
theorem rop_sla(n sz:Nat)(x:RX)(l h:Option RX):rop a H (.sla n sz x l h)=cB H (V5 n sz (rx a x) (l.map (rx a)) (h.map (rx a))):=rfl
theorem rop_fa(o:Nat)(x:RX):rop a H (.fa o x)=cB H (rfa o (rx a x)):=rfl
theorem rop_fd(g:Option Nat)(o:Nat)(x:RX):rop a H (.fd g o x)=cB H (rfd g o (rx a x)):=rfl
theorem rop_ias(sz:Nat)(x i:RX):rop a H (.ias sz x i)=cB H (A8 sz (rx a x) (rx a i)):=rfl
theorem U1(n sz:Nat)(x i:RX):rop a H (.iaa n sz x i)=cB H (V3 n sz (rx a x) (rx a i)):=rfl
theorem rop_ixs(x i:RX):rop a H (.ixs x i)=cB H (N9 (rx a x) (rx a i)):=rfl
theorem rop_ixa(n:Nat)(g:Option Nat)(sz:Nat)(x i:RX):rop a H (.ixa n g sz x i)=cB H (V4 n g sz (rx a x) (rx a i)):=rfl
theorem rop_ex(x:RX)(i:Nat):rop a H (.ex x i)=cB H (tV (rx a x) i):=rfl
theorem rop_mm:rop a H (.mm)=some (.map H.length,H++[.map []]):=rfl
theorem rop_ms(e:TypeId)(bytes:Nat)(cs:List AV)(l c:RX):rop a H (.ms e bytes cs l c)=rms H e bytes cs (rx a l) (rx a c):=rfl
theorem rop_mu(kk:CK)(m k v:RX):rop a H (.mu kk m k v)=E6 (rmu H kk (rx a m) (rx a k) (rx a v)):=rfl
theorem rop_lk(kk:CK)(z:Option AV)(ok:Bool)(x k:RX):rop a H (.lk kk z ok x k)=cB H (rlk H kk z ok (rx a x) (rx a k)):=rfl
theorem rop_rg(x:RX):rop a H (.rg x)=rrg H (rx a x):=rfl
theorem rop_nx(x:RX):rop a H (.nx x)=N6 H (rx a x):=rfl
theorem rop_len(k:LK)(x:RX):rop a H (.len k x)=cB H (A9 H k (rx a x)):=rfl
theorem U2(x:RX):rop a H (.cap x)=cB H (Ob (rx a x)):=rfl
theorem rop_ap(m:Bool)(e:TypeId)(sz bytes:Nat)(str:Bool)(s x:RX):rop a H (.ap m e sz bytes str s x)=rap m H e sz bytes str (rx a s) (rx a x):=rfl
theorem rop_cp(sz:Nat)(str:Bool)(d s:RX):rop a H (.cp sz str d s)=rcp H sz str (rx a d) (rx a s):=rfl
theorem rop_mx(x y:RX):rop a H (.mx x y)=cB H (N0 (rx a x) (rx a y)):=rfl
theorem rop_mn(x y:RX):rop a H (.mn x y)=cB H (N1 (rx a x) (rx a y)):=rfl
def rbx(H:List ab)(e:TypeId)(x:Option (List AV)):Option (AV×List ab):=
 match x with
 |some cs=>some (.ptr H.length 0,H++[.cells cs e])
 |none=>none
theorem rop_bx(e:TypeId)(x:RX):rop a H (.bx e x)=rbx H e (gq (rx a x)):=by
 simp only [rop,rbx]
 cases gq (rx a x)<;>rfl
theorem rbx_some(e:TypeId)(cs:List AV):rbx H e (some cs)=some (.ptr H.length 0,H++[.cells cs e]):=rfl
def rnc(H:List ab)(x:AV):Option (AV×List ab):=
 match x with
 |.ptr i o=>some (.ptr i o,H)
 |.vptr e r i o=>some (.vptr e r i o,H)
 |.fn (.func f) x y=>some (.fn (.func f) x y,H)
 |_=>none
theorem rop_nc(x:RX):rop a H (.nc x)=rnc H (rx a x):=rfl
end
theorem rar_int(op:BinOp)(k:IntKind)(m n:Int):rar op (.int k m) (.int k n)=rO op k m n:=by simp [rar]
theorem rar_str(op:BinOp)(s t:List UInt8):rar op (.str s) (.str t)=rP op s t:=rfl
end Go.Am
end
section
namespace Go.Am
open Go.RowKit
def WkL(n:Nat):List AV→List AV→Prop
 |[],[]=>True
 |x::xs,y::ys=>Wk n x y∧WkL n xs ys
 |_,_=>False
theorem WkL.len{n:Nat}:∀ {xs ys:List AV},WkL n xs ys→xs.length=ys.length
 |[],[],_=>rfl
 |_::_,_::_,h=>by simp [WkL.len h.2]
 |[],_::_,h=>h.elim
 |_::_,[],h=>h.elim
theorem WkL.get{n:Nat}:∀ {xs ys:List AV},WkL n xs ys→∀ (i:Nat) (y:AV),ys[i]?=some y→∃ x,xs[i]?=some x∧Wk n x y
 |[],[],_,i,y,h=>by simp at h
 |x::xs,z::ys,h,0,y,hy=>by simp at hy;subst hy;exact ⟨x,rfl,h.1⟩
 |x::xs,z::ys,h,i+1,y,hy=>by simpa using WkL.get h.2 i y (by simpa using hy)
 |[],_::_,h,_,_,_=>h.elim
 |_::_,[],h,_,_,_=>h.elim
theorem WkL.vs{n:Nat}{xs ys:List AV}(h:WkL n xs ys){K:aJ}(hn:n≤K.loc.length){vs:Array Value}(hv:Vs K xs vs):Vs (K.trunc n) ys vs:=
 ⟨by rw [← h.len];exact hv.size,fun i av hi=>by
  obtain ⟨x,h1,h2⟩:=h.get i av hi
  exact h2 K _ hn (hv.at_ i x h1)⟩
theorem wk_tuple{n:Nat}{xs ys:List AV}(h:WkL n xs ys):Wk n (.tuple xs) (.tuple ys):=fun K x hn hv=>by
 obtain ⟨vs,rfl,hvs⟩:=hv.tuple_inv
 have:=h.vs hn hvs
 exact .tuple _ _ this.size this.at_
theorem wk_agg{n:Nat}{xs ys:List AV}(h:WkL n xs ys):Wk n (.agg xs) (.agg ys):=fun K x hn hv=>by
 obtain ⟨vs,rfl,hvs⟩:=hv.agg_inv
 have:=h.vs hn hvs
 exact .agg _ _ this.size this.at_
theorem wk_iface{n:Nat}{t:TypeId}{v:AV}(h:Wk n v v):Wk n (.iface t v) (.iface t v):=fun K x hn hv=>by
 cases hv with | iface _ _ y hy=>exact .iface _ _ _ (h K y hn hy)
theorem wk_fn{n:Nat}{f:Fn}{xs ys:List AV}(h1:WkL n xs xs)(h2:WkL n ys ys):Wk n (.fn f xs ys) (.fn f xs ys):=fun K x hn hv=>by
 obtain ⟨vs,us,rfl,h3,h4⟩:=hv.fn_inv
 exact Vs.fn (h1.vs hn h3) (h2.vs hn h4)
theorem wk_ptr{n id off:Nat}(h:id<n):Wk n (.ptr id off) (.ptr id off):=fun K x hn hv=>by
 cases hv with | ptr _ _ b hb=>exact .ptr _ _ b (nS hb h)
theorem wk_map{n id:Nat}(h:id<n):Wk n (.map id) (.map id):=fun K x hn hv=>by
 cases hv with | map _ b hb=>exact .map _ b (nS hb h)
theorem wk_rslice{n id off len esz:Nat}{room:Bool}(h:id<n):Wk n (.rslice id off len esz room) (.rslice id off len esz room):=fun K x hn hv=>by
 cases hv with | rslice _ _ _ _ _ b cap hb hc hs=>exact .rslice _ _ _ _ _ b cap (nS hb h) hc hs
def mA(n:Nat)(rows:List (List AV)):Prop:=∀ r∈rows,WkL n r r
theorem mA.get{n:Nat}{rows:List (List AV)}(h:mA n rows){K:aJ}(hn:n≤K.loc.length){i j:Nat}{r:List AV}{av:AV}(h1:rows[i]?=some r)(h2:r[j]?=some av){v:Value}(hv:V K av v):V (K.trunc n) av v:=by
 obtain ⟨x,h3,h4⟩:=(h r (List.mem_of_getElem? h1)).get j av h2
 rw [h2] at h3;cases h3
 exact h4 K v hn hv
def qa(n:Nat):Tag→Prop
 |.own t=>t<n
 |_=>True
theorem wk_slice{n esz:Nat}{tag:Tag}{rows:List (List AV)}(ht:qa n tag)(h:mA n rows):Wk n (.slice tag esz rows) (.slice tag esz rows):=fun K x hn hv=>by
 cases hv with
 |slice0 _ _ a ha=>
  refine .slice0 _ _ a ⟨fun t e => ?_,ha.2⟩
  subst e
  have h1:t<n:=ht
  have h2:=ha.1 t rfl
  refine ⟨?_,h2.2⟩
  show t<(_:List Nat).length
  simp only [aJ.trunc,List.length_take];omega
 |sliceAny _ a cap=>exact .sliceAny _ a cap
 |slice _ _ _ b o cap vs hl hi hv hc htag=>
  exact .slice _ _ _ b o cap vs hl hi (fun i j r av h1 h2=>h.get hn h1 h2 (hv i j r av h1 h2)) hc (CT htag fun t e=>by subst e;exact ht)
theorem wk_any{n esz:Nat}{tag:Tag}{rows:List (List AV)}(h:mA n rows):Wk n (.slice tag esz rows) (.slice .any esz rows):=fun K x hn hv=>by
 cases hv with
 |slice0 _ _ a ha=>exact .sliceAny _ a 0
 |sliceAny _ a cap=>exact .sliceAny _ a cap
 |slice _ _ _ b o cap vs hl hi hv hc htag=>
  exact .slice _ _ _ b o cap vs hl hi (fun i j r av h1 h2=>h.get hn h1 h2 (hv i j r av h1 h2)) hc trivial
theorem wk_vptr{n esz i off:Nat}{rows:List (List AV)}(h:mA n rows):Wk n (.vptr esz rows i off) (.vptr esz rows i off):=fun K x hn hv=>by
 cases hv with
 |vptr _ _ _ _ b o vs hl hi hv=>exact .vptr _ _ _ _ b o vs hl hi (fun i j r av h1 h2=>h.get hn h1 h2 (hv i j r av h1 h2))
theorem kU(n:Nat):mA n []:=fun _ h=>by cases h
theorem rowsWk_cons(n:Nat)(r:List AV)(rows:List (List AV)):mA n (r::rows)=(WkL n r r∧mA n rows):=by simp [mA]
theorem rowsWk_append(n:Nat)(r rows:List (List AV)):mA n (r++rows)=(mA n r∧mA n rows):=by
 simp only [mA,List.mem_append,eq_iff_iff]
 exact ⟨fun h=>⟨fun x hx=>h x (.inl hx),fun x hx=>h x (.inr hx)⟩,fun h x hx=>hx.elim (h.1 x) (h.2 x)⟩
theorem rowsWk_map{α:Type}(n:Nat)(l:List α)(f:α→List AV):mA n (l.map f) = ∀ x∈l,WkL n (f x) (f x):=by simp [mA]
theorem wkL_nil(n:Nat):WkL n [] []:=trivial
theorem wkL_cons(n:Nat)(x y:AV)(xs ys:List AV):WkL n (x::xs) (y::ys)=(Wk n x y∧WkL n xs ys):=rfl
theorem anyV_bool(b:Bool):Ci (.bool b) = .bool b:=rfl
theorem anyV_int(k:IntKind)(n:Int):Ci (.int k n) = .int k n:=rfl
theorem anyV_str(s:List UInt8):Ci (.str s) = .str s:=rfl
theorem anyV_slice(t:Tag)(n:Nat)(r:List (List AV)):Ci (.slice t n r) = .slice .any n r:=rfl
theorem anyV_agg(l:List AV):Ci (.agg l) = .agg (l.map Bd):=rfl
theorem anyV_tuple(l:List AV):Ci (.tuple l) = .tuple (l.map Bd):=rfl
theorem anyV_iface(t:TypeId)(v:AV):Ci (.iface t v) = .iface t v:=rfl
theorem anyV_nilif:Ci .nilif = .nilif:=rfl
theorem anyV_nilp:Ci .nilp = .nilp:=rfl
theorem Tj(i o:Nat):Ci (.ptr i o) = .ptr i o:=rfl
theorem anyV_fn(f:Fn)(x y:List AV):Ci (.fn f x y) = .fn f x y:=rfl
theorem anyV_undef:Ci iY=iY:=rfl
theorem anyS_bool(b:Bool):Bd (.bool b) = .bool b:=rfl
theorem anyS_int(k:IntKind)(n:Int):Bd (.int k n) = .int k n:=rfl
theorem anyS_str(s:List UInt8):Bd (.str s) = .str s:=rfl
theorem anyS_slice(t:Tag)(n:Nat)(r:List (List AV)):Bd (.slice t n r) = .slice .any n r:=rfl
theorem anyS_agg(l:List AV):Bd (.agg l) = .agg l:=rfl
theorem anyS_iface(t:TypeId)(v:AV):Bd (.iface t v) = .iface t v:=rfl
theorem anyS_nilif:Bd .nilif = .nilif:=rfl
theorem R1:Bd .nilp = .nilp:=rfl
theorem anyS_ptr(i o:Nat):Bd (.ptr i o) = .ptr i o:=rfl
theorem anyS_fn(f:Fn)(x y:List AV):Bd (.fn f x y) = .fn f x y:=rfl
def WkE(n:Nat)(a:Env):List Nat→Prop
 |[]=>True
 |t::l=>Wk n (iu a t) (iu a t)∧WkE n a l
theorem WkE.all{n:Nat}{a:Env}:∀ {l:List Nat},WkE n a l→∀ t∈l,Wk n (iu a t) (iu a t)
 |[],_,t,h=>by cases h
 |x::l,h,t,ht=>by
  rcases List.mem_cons.1 ht with rfl | ht
  ·exact h.1
  ·exact WkE.all h.2 t ht
theorem wkE_nil(n:Nat)(a:Env):WkE n a []:=trivial
theorem wkE_cons(n:Nat)(a:Env)(t:Nat)(l:List Nat):WkE n a (t::l)=(Wk n (iu a t) (iu a t)∧WkE n a l):=rfl
theorem fkeep_nil(a:Env):rT a [] = .leaf:=rfl
theorem fkeep_cons(a:Env)(t:Nat)(l:List Nat):rT a (t::l)=uB (rT a l) t (iu a t):=rfl
theorem back_no(dec:Dec)(l:List Nat)(t:List (Nat×Nat×TypeId))(He:List ab)(a:Env)(H:List ab):rU dec ⟨some l,t,false⟩ He a H=some (rT a l,H):=rfl
theorem Tk(l:List Nat)(t:List (Nat×Nat×TypeId)){He:List ab}{a:Env}{H:List ab}(h1:dL He H)(h2:WkE He.length a l):rU cU ⟨some l,t,true⟩ He a H=some (rT a l,H.take He.length):=by
 unfold rU
 simp only [if_true,RW h1 h2.all]
theorem in_no(l:List Nat)(c:Bool)(a:Env)(H:List ab):rV ⟨some l,[],c⟩ a H=(rT a l,H):=rfl
def VT(l:List Nat)(r:Env×List ab):Env×List ab:=(rT r.1 l,r.2)
theorem in_tok(l:List Nat)(t:Nat×Nat×TypeId)(ts:List (Nat×Nat×TypeId))(c:Bool)(a:Env)(H:List ab):rV ⟨some l,t::ts,c⟩ a H=VT l (zL (t::ts) a H):=rfl
theorem reliv_mk(l:List Nat)(a:Env)(H:List ab):VT l (a,H)=(rT a l,H):=rfl
def Tl(l:List (Nat×Nat×TypeId))(a:Env)(H:List ab)(t sz:Nat)(e:TypeId)(v:AV):Env×List ab:=
 match v with
 |.slice .nil _ []=>zL l (uB a t (.slice (.own H.length) sz [])) (H++[.tok 0 e])
 |.slice .full n rows=>if Jz rows=false then zL l (uB a t (.slice (.own H.length) n rows)) (H++[.tok (rows.length*n) e]) else zL l a H
 |_=>zL l a H
theorem tokz_nil(a:Env)(H:List ab):zL [] a H=(a,H):=rfl
theorem tokz_cons(t sz:Nat)(e:TypeId)(l:List (Nat×Nat×TypeId))(a:Env)(H:List ab):zL ((t,sz,e)::l) a H=Tl l a H t sz e (iu a t):=rfl
theorem tokV_nil(l:List (Nat×Nat×TypeId))(a:Env)(H:List ab)(t sz:Nat)(e:TypeId)(n:Nat):Tl l a H t sz e (.slice .nil n [])=zL l (uB a t (.slice (.own H.length) sz [])) (H++[.tok 0 e]):=rfl
theorem tokV_full(l:List (Nat×Nat×TypeId))(a:Env)(H:List ab)(t sz:Nat)(e:TypeId)(n:Nat)(rows:List (List AV)):Tl l a H t sz e (.slice .full n rows)=if Jz rows=false then zL l (uB a t (.slice (.own H.length) n rows)) (H++[.tok (rows.length*n) e]) else zL l a H:=rfl
theorem tokV_own(l:List (Nat×Nat×TypeId))(a:Env)(H:List ab)(t sz:Nat)(e:TypeId)(n t':Nat)(rows:List (List AV)):Tl l a H t sz e (.slice (.own t') n rows)=zL l a H:=rfl
theorem tokV_any(l:List (Nat×Nat×TypeId))(a:Env)(H:List ab)(t sz:Nat)(e:TypeId)(n:Nat)(rows:List (List AV)):Tl l a H t sz e (.slice .any n rows)=zL l a H:=rfl
def kv:List (Nat×AV)→Env
 |[]=>.leaf
 |(t,v)::l=>uB (kv l) t v
theorem kv_nil:kv [] = .leaf:=rfl
theorem kv_cons(t:Nat)(v:AV)(l:List (Nat×AV)):kv ((t,v)::l)=uB (kv l) t v:=rfl
theorem aw{dec:Dec}{E:bt}(M:cK dec E){fn:AFn}{H0:List ab}{x y:AC}(h:x=y){k:List Fra}{a:Env}{H:List ab}:M.go fn H0 (.c x::k) a H=M.go fn H0 (.c y::k) a H:=by rw [h]
def U3(b:Bool)(id:Nat)(k:List Fra):Option (List Fra):=
 match b with
 |true=>some k
 |false=>unw id k
theorem unw_c(id:Nat)(x:AC)(k:List Fra):unw id (.c x::k)=unw id k:=rfl
theorem unw_lp(id:Nat)(h:LH)(x:AC)(He:List ab)(k:List Fra):unw id (.lp h x He::k)=unw id k:=rfl
theorem unw_blk(id j:Nat)(k:List Fra):unw id (.blk j::k)=U3 (j == id) id k:=by
 simp only [unw,U3]
 by_cases h:j=id
 ·subst h;simp
 ·rw [if_neg h,show (j == id)=false by simpa using h]
theorem unwB_true(id:Nat)(k:List Fra):U3 true id k=some k:=rfl
theorem P8(id:Nat)(k:List Fra):U3 false id k=unw id k:=rfl
theorem lx_map0(f:RX→AV):List.map f []=[]:=rfl
theorem lx_map1(f:RX→AV)(x:RX)(l:List RX):List.map f (x::l)=f x::List.map f l:=rfl
theorem lx_any0:List.map Bd []=[]:=rfl
theorem lx_any1(x:AV)(l:List AV):List.map Bd (x::l)=Bd x::List.map Bd l:=rfl
theorem lx_str0:List.map AV.strip []=[]:=rfl
theorem lx_str1(x:AV)(l:List AV):List.map AV.strip (x::l)=AV.strip x::List.map AV.strip l:=rfl
theorem lx_app0(l:List AV):[]++l=l:=rfl
theorem lx_app1(x:AV)(l l':List AV):(x::l)++l'=x::(l++l'):=rfl
theorem lx_app2(l:List AV):l++[]=l:=List.append_nil l
theorem lx_app3(l l' l2:List AV):(l++l')++l2=l++(l'++l2):=List.append_assoc l l' l2
theorem Ny(x:ab)(l l':List ab):(x::l)++l'=x::(l++l'):=rfl
theorem lo_app0(l:List ab):[]++l=l:=rfl
theorem lo_app2(l:List ab):l++[]=l:=List.append_nil l
theorem lo_app3(l l' l2:List ab):(l++l')++l2=l++(l'++l2):=List.append_assoc l l' l2
theorem lo_len(l l':List ab):(l++l').length=l.length+l'.length:=List.length_append
theorem lo_len0:([]:List ab).length=0:=rfl
theorem lo_len1(x:ab)(l:List ab):(x::l).length=l.length+1:=rfl
theorem lo_get0(x:ab)(l:List ab):(x::l)[0]?=some x:=rfl
theorem lo_get1(x:ab)(l:List ab)(n:Nat):(x::l)[n+1]?=l[n]? := rfl
theorem lo_set0(x y:ab)(l:List ab):(x::l).set 0 y=y::l:=rfl
theorem lo_set1(x y:ab)(l:List ab)(n:Nat):(x::l).set (n+1) y=x::l.set n y:=rfl
theorem U4(x:AV)(l:List AV):(x::l)[0]?=some x:=rfl
theorem lv_get1(x:AV)(l:List AV)(n:Nat):(x::l)[n+1]?=l[n]? := rfl
theorem lv_set0(x y:AV)(l:List AV):(x::l).set 0 y=y::l:=rfl
theorem lv_set1(x y:AV)(l:List AV)(n:Nat):(x::l).set (n+1) y=x::l.set n y:=rfl
theorem lv_len0:([]:List AV).length=0:=rfl
theorem lv_len1(x:AV)(l:List AV):(x::l).length=l.length+1:=rfl
theorem ln_lt(i j:Nat):((i:Int)<(j:Int))=(i<j):=by rw [Int.ofNat_lt]
theorem ln_le(i j:Nat):((i:Int)≤(j:Int))=(i≤j):=by rw [Int.ofNat_le]
theorem ln_eq(i j:Nat):((i:Int) == (j:Int))=(i == j):=by
 rw [Bool.eq_iff_iff];simp [Int.ofNat_inj]
theorem lr_row0(cs:List AV)(o:Nat):aO cs o []=cs:=by cases cs<;>rfl
theorem lr_row1(cs:List AV)(o:Nat)(v:AV)(r:List AV):aO cs o (v::r)=aO (cs.set o v) (o+1) r:=rfl
theorem ej(H L:List ab):(H++L)[H.length]?=L[0]? := by rw [List.getElem?_append_right (Nat.le_refl _)];simp
theorem hp_getk(H L:List ab)(k:Nat):(H++L)[H.length+k]?=L[k]? := by rw [List.getElem?_append_right (by omega)];congr 1;omega
theorem dE{H L:List ab}{i:Nat}{x:ab}(h:H[i]?=some x):(H++L)[i]?=some x:=by
 rw [List.getElem?_append_left (List.getElem?_eq_some_iff.1 h).1];exact h
theorem hp_set0(H L:List ab)(x:ab):(H++L).set H.length x=H++L.set 0 x:=by rw [List.set_append_right _ _ (Nat.le_refl _)];simp
theorem hp_setk(H L:List ab)(k:Nat)(x:ab):(H++L).set (H.length+k) x=H++L.set k x:=by
 rw [List.set_append_right _ _ (by omega)];congr 2;omega
theorem hp_take(H L:List ab):(H++L).take H.length=H:=List.take_left' rfl
theorem hp_self(H:List ab):H.take H.length=H:=List.take_length
theorem ep{n:Int}(h1 : -9223372036854775808≤n)(h2:n≤9223372036854775807):IntKind.i64.wrap n=n:=IntWalk.i64_in n ⟨h1,h2⟩
theorem R2{i:Nat}(h:i<4611686018427387904):IntKind.i64.wrap ((i:Int)+1)=((i+1:Nat):Int):=by
 rw [ep (by omega) (by omega)];rfl
theorem R3{i:Nat}(h1:i<4611686018427387904):IntKind.i64.wrap (((i+1:Nat):Int)-1)=(i:Int):=by
 rw [ep (by omega) (by omega)];omega
def IF(x:Option UInt8):Option AV:=
 match x with
 |some c=>some (.int .u8 c.toNat)
 |none=>none
theorem byteO_some(c:UInt8):IF (some c)=some (.int .u8 c.toNat):=rfl
theorem rixs_i(s:List UInt8)(k:IntKind)(i:Nat):N9 (.str s) (.int k (i:Int))=IF s[i]? := by
 simp [N9,IF];cases s[i]? <;> rfl
theorem rixs_l0(s:List UInt8)(k:IntKind):N9 (.str s) (.int k 0)=IF s[0]? := rixs_i s k 0
theorem rixs_l1(s:List UInt8)(k:IntKind):N9 (.str s) (.int k 1)=IF s[1]? := rixs_i s k 1
theorem rixs_l2(s:List UInt8)(k:IntKind):N9 (.str s) (.int k 2)=IF s[2]? := rixs_i s k 2
theorem rias_nat{tag:Tag}{sz esz:Nat}{rows:List (List AV)}{k:IntKind}{i:Nat}(h:i<rows.length):A8 sz (.slice tag sz rows) (.int k (i:Int))=some (.vptr sz rows i 0):=by
 simp [A8,h]
theorem Tm(H:List ab)(s:List UInt8):A9 H .str (.str s)=some (.int .i64 s.length):=rfl
theorem rlen_sl(H:List ab)(t:Tag)(n:Nat)(r:List (List AV)):A9 H .sl (.slice t n r)=some (.int .i64 r.length):=rfl
theorem rlen_rs(H:List ab)(i o l n:Nat)(b:Bool):A9 H .sl (.rslice i o l n b)=some (.int .i64 l):=rfl
theorem aun_not(b:Bool):L9 .not (.bool b)=some (.bool (!b)):=rfl
theorem ar_add(k:IntKind)(m n:Int):rO .add k m n=some (.int k (k.wrap (m+n))):=rfl
theorem ar_sub(k:IntKind)(m n:Int):rO .sub k m n=some (.int k (k.wrap (m-n))):=rfl
theorem ar_mul(k:IntKind)(m n:Int):rO .mul k m n=some (.int k (k.wrap (m*n))):=rfl
theorem ar_eql(k:IntKind)(m n:Int):rO .eql k m n=some (.bool (m == n)):=rfl
theorem ar_neq(k:IntKind)(m n:Int):rO .neq k m n=some (.bool (!(m == n))):=rfl
theorem ar_lss(k:IntKind)(m n:Int):rO .lss k m n=some (.bool (decide (m<n))):=rfl
theorem ar_leq(k:IntKind)(m n:Int):rO .leq k m n=some (.bool (decide (m≤n))):=rfl
theorem Wj(k:IntKind)(m n:Int):rO .gtr k m n=some (.bool (decide (n<m))):=rfl
theorem ar_geq(k:IntKind)(m n:Int):rO .geq k m n=some (.bool (decide (n≤m))):=rfl
theorem st_eql(s t:List UInt8):rP .eql s t=some (.bool (s == t)):=rfl
theorem st_neq(s t:List UInt8):rP .neq s t=some (.bool (!(s == t))):=rfl
theorem st_lss(s t:List UInt8):rP .lss s t=some (.bool (Op.bytesLess s t)):=rfl
theorem st_leq(s t:List UInt8):rP .leq s t=some (.bool (Op.bytesLess s t||s == t)):=rfl
theorem st_gtr(s t:List UInt8):rP .gtr s t=some (.bool (!(Op.bytesLess s t||s == t))):=rfl
theorem st_geq(s t:List UInt8):rP .geq s t=some (.bool (!Op.bytesLess s t)):=rfl
theorem Wl{s t:List UInt8}(h:s.length+t.length<9223372036854775808):rP .add s t=some (.str (s++t)):=by simp [rP,h]
def W2(g:Option Nat)(off:Nat)(r:Option (List AV)):Option AV:=
 match r with
 |some r=>cD g r off
 |none=>none
def objO(g:Option Nat)(off:Nat)(x:Option ab):Option AV:=
 match x with
 |some (.cells cs _)=>cD g cs off
 |_=>none
theorem ld_ptr(g:Option Nat)(H:List ab)(i o:Nat):pw g H (.ptr i o)=objO g o H[i]? := rfl
theorem ld_vptr(g:Option Nat)(H:List ab)(n:Nat)(rows:List (List AV))(i o:Nat):pw g H (.vptr n rows i o)=W2 g o rows[i]? := rfl
theorem rowO_some(g:Option Nat)(o:Nat)(r:List AV):W2 g o (some r)=cD g r o:=rfl
theorem P9(g:Option Nat)(o:Nat)(cs:List AV)(T:TypeId):objO g o (some (.cells cs T))=cD g cs o:=rfl
def Q8(x:AV)(l:Option (List AV)):Option (List AV):=
 match l with
 |some l=>some (x::l)
 |none=>none
def o2:Nat→List AV→Option (List AV)
 |0,_=>some []
 |_+1,[]=>none
 |n+1,x::l=>Q8 x (o2 n l)
def Wm(l:Option (List AV)):Option AV:=
 match l with
 |some l=>some (.agg l)
 |none=>none
theorem Oy:∀ (n:Nat) (l:List AV),o2 n l=if n≤l.length then some (l.take n) else none
 |0,l=>by simp [o2]
 |n+1,[]=>by simp [o2]
 |n+1,x::l=>by
  rw [o2,Oy n l]
  by_cases h:n≤l.length<;>simp [Q8,h]
theorem rl_agg0(n:Nat)(cs:List AV):cD (some n) cs 0=Wm (o2 n cs):=by
 rw [Oy]
 simp only [cD,Nat.zero_add,List.drop_zero]
 by_cases h:n≤cs.length<;>simp [Wm,h]
theorem rl_agg1(n:Nat)(x:AV)(cs:List AV)(o:Nat):cD (some n) (x::cs) (o+1)=cD (some n) cs o:=by
 simp only [cD,List.length_cons,List.drop_succ_cons]
 by_cases h:o+n≤cs.length
 ·rw [if_pos h,if_pos (by omega)]
 ·rw [if_neg h,if_neg (by omega)]
theorem rl_one0(x:AV)(cs:List AV):cD none (x::cs) 0=some x:=rfl
theorem rl_one1(x:AV)(cs:List AV)(o:Nat):cD none (x::cs) (o+1)=cD none cs o:=rfl
theorem takeO_0(l:List AV):o2 0 l=some []:=by cases l<;>rfl
theorem takeO_1(n:Nat)(x:AV)(l:List AV):o2 (n+1) (x::l)=Q8 x (o2 n l):=rfl
theorem consL_some(x:AV)(l:List AV):Q8 x (some l)=some (x::l):=rfl
theorem aggO_some(l:List AV):Wm (some l)=some (.agg l):=rfl
theorem fa_ptr(o i off:Nat):rfa o (.ptr i off)=some (.ptr i (off+o)):=rfl
theorem fa_vptr(o n:Nat)(rows:List (List AV))(i off:Nat):rfa o (.vptr n rows i off)=some (.vptr n rows i (off+o)):=rfl
theorem Wn(g:Option Nat)(o:Nat)(cs:List AV):rfd g o (.agg cs)=cD g cs o:=rfl
theorem ex_0(x:AV)(l:List AV):tV (.tuple (x::l)) 0=some x:=rfl
theorem ex_1(x y:AV)(l:List AV):tV (.tuple (x::y::l)) 1=some y:=rfl
theorem ex_2(x y z:AV)(l:List AV):tV (.tuple (x::y::z::l)) 2=some z:=rfl
theorem ac_int(k:IntKind)(n:Int):gq (.int k n)=some [.int k n]:=rfl
theorem ac_bool(b:Bool):gq (.bool b)=some [.bool b]:=rfl
theorem ac_str(s:List UInt8):gq (.str s)=some [.str s]:=rfl
theorem ac_agg(l:List AV):gq (.agg l)=some l:=rfl
theorem ac_slice(t:Tag)(n:Nat)(r:List (List AV)):gq (.slice t n r)=some [.slice t n r]:=rfl
theorem ac_rslice(i o l n:Nat)(b:Bool):gq (.rslice i o l n b)=some [.rslice i o l n b]:=rfl
theorem ac_fn(f:Fn)(x y:List AV):gq (.fn f x y)=some [.fn f x y]:=rfl
theorem ac_ptr(i o:Nat):gq (.ptr i o)=some [.ptr i o]:=rfl
theorem ac_nilp:gq .nilp=some [.nilp]:=rfl
theorem ac_nilfn:gq .nilfn=some [.nilfn]:=rfl
theorem ac_nilif:gq .nilif=some [.nilif]:=rfl
theorem ac_iface(t:TypeId)(v:AV):gq (.iface t v)=some [.iface t v]:=rfl
def stO(sz:Nat)(H:List ab)(id off:Nat)(cs:List AV)(x:Option ab):Option (List ab):=
 match x with
 |some (.cells old T)=>if cs.length=sz∧off+sz≤old.length∧cs.all AV.cell=true then some (H.set id (.cells (aO old off cs) T)) else none
 |_=>none
def stA(sz:Nat)(H:List ab)(id off:Nat)(cs:Option (List AV)):Option (List ab):=
 match cs with
 |some cs=>stO sz H id off cs H[id]?
 |none=>none
theorem st_ptr(sz:Nat)(H:List ab)(id off:Nat)(v:AV):HB sz H (.ptr id off) v=stA sz H id off (gq v):=by
 unfold HB stA
 cases gq v<;>rfl
theorem stA_some(sz:Nat)(H:List ab)(id off:Nat)(cs:List AV):stA sz H id off (some cs)=stO sz H id off cs H[id]? := rfl
theorem stO_cells{sz:Nat}{H:List ab}{id off:Nat}{cs old:List AV}{T:TypeId}(h1:cs.length=sz)(h2:off+sz≤old.length)(h3:cs.all AV.cell=true):stO sz H id off cs (some (.cells old T))=some (H.set id (.cells (aO old off cs) T)):=by
 simp only [stO];rw [if_pos ⟨h1,h2,h3⟩]
end Go.Am
end
section
set_option linter.defProp false
namespace Go.Am
open Go.RowKit
def am1{dec:Dec}{E:bt}(M:cK dec E):=And.intro (@go_nil dec E M) (And.intro (@go_blk dec E M) (And.intro (@go_lp dec E M) (And.intro (@go_skip dec E M) (And.intro (@go_exit dec E M) (And.intro (@go_ret dec E M) (And.intro (@go_seq dec E M) (And.intro (@WZ dec E M) (And.intro (@go_cond dec E M) (And.intro (@go_block dec E M) (And.intro (@go_loop dec E M) (And.intro (@go_ops0 dec E M) (And.intro (@go_op dec E M) (And.intro (@go_opg dec E M) (And.intro (@go_call dec E M) (And.intro (@go_panic dec E M) (And.intro (@go_dops0 dec E M) (And.intro (@go_dop dec E M) (And.intro (@go_dopg dec E M) (And.intro (@go_dcall dec E M) (And.intro (@stepR_op dec E M) (And.intro (@stepR_call dec E M) (And.intro (@stepR_panic dec E M) (And.intro (@stepD_op dec E M) (And.intro (@stepD_call dec E M) (And.intro (@aft_ret dec E M) (And.intro (@aft_panic dec E M) (And.intro (@aftD_some dec E M) (And.intro (@P7 dec E M) (And.intro (@unwR_some dec E M) (And.intro (@backR_some dec E M) (And.intro (@inR_mk dec E M) ((@runV_fn dec E M)))))))))))))))))))))))))))))))))
def am2:=And.intro @dsel_none (And.intro @dsel_some (And.intro @retO_some (And.intro @ronly_mk (And.intro @runit_mk (And.intro @gsel_bool (And.intro @gsel_tuple (And.intro @gsel_undef (And.intro @gsel_sel (And.intro @Ml (And.intro @dynW_some (And.intro @dynV_some (And.intro @sel_true (And.intro @sel_false (And.intro @sel_self (And.intro @sel_some (And.intro @sel_pair (And.intro @sel_ret (And.intro @sel_bool (And.intro @sel_not (And.intro @sel_and (And.intro @sel_b1 (And.intro @sel_b2 (And.intro @sel_b3 (And.intro @sel_b4 (And.intro @aput_some (And.intro @aput_none (And.intro @rx_t (And.intro @rx_c (And.intro @rpk_bool (And.intro @Wg (And.intro @rop_mv (And.intro @at2_true (And.intro @at2_false (And.intro @fin_e (And.intro @finP_e (And.intro @finV_some (And.intro @finW_some (And.intro @handO_some (And.intro @handV_keep (And.intro @rres_one (And.intro @rres1_t (And.intro @rres1_cell (And.intro @consO_some (And.intro @tupO_some (And.intro @rresL_nil (And.intro @rresL_cons (And.intro @rres_two (And.intro @rres_none (And.intro @rop_nw (And.intro @Wi (And.intro @rop_bs (And.intro @rop_ld (And.intro @rop_st (And.intro @rop_ar (And.intro @rop_sh (And.intro @rop_an (And.intro @rop_eq (And.intro @rop_un (And.intro @rop_cvi (And.intro @rop_cvs (And.intro @Ti (And.intro @rop_cvsb (And.intro @rop_mi (And.intro @rop_ta (And.intro @rop_mf (And.intro @rop_sls (And.intro @rop_sll (And.intro @rop_sla (And.intro @rop_fa (And.intro @rop_fd (And.intro @rop_ias (And.intro @U1 (And.intro @rop_ixs (And.intro @rop_ixa (And.intro @rop_ex (And.intro @rop_mm (And.intro @rop_ms (And.intro @rop_mu (And.intro @rop_lk (And.intro @rop_rg (And.intro @rop_nx (And.intro @rop_len (And.intro @U2 (And.intro @rop_ap (And.intro @rop_cp (And.intro @rop_mx (And.intro @rop_mn (And.intro @rop_bx (And.intro @rbx_some (And.intro @rop_nc (And.intro @rar_int (@rar_str))))))))))))))))))))))))))))))))))))))))))))))))))))))))))))))))))))))))))))))))))))))))))))
def am3:=And.intro @anyV_bool (And.intro @anyV_int (And.intro @anyV_str (And.intro @anyV_slice (And.intro @anyV_agg (And.intro @anyV_tuple (And.intro @anyV_iface (And.intro @anyV_nilif (And.intro @anyV_nilp (And.intro @Tj (And.intro @anyV_fn (And.intro @anyV_undef (And.intro @anyS_bool (And.intro @anyS_int (And.intro @anyS_str (And.intro @anyS_slice (And.intro @anyS_agg (And.intro @anyS_iface (And.intro @anyS_nilif (And.intro @R1 (And.intro @anyS_ptr (And.intro @anyS_fn (And.intro @fkeep_nil (And.intro @fkeep_cons (And.intro @back_no (And.intro @in_no (And.intro @in_tok (And.intro @reliv_mk (And.intro @tokz_nil (And.intro @tokz_cons (And.intro @tokV_nil (And.intro @tokV_full (And.intro @tokV_own (And.intro @tokV_any (And.intro @kv_nil (And.intro @kv_cons (And.intro @unw_c (And.intro @unw_lp (And.intro @unw_blk (And.intro @unwB_true (And.intro @P8 (And.intro @lx_map0 (And.intro @lx_map1 (And.intro @lx_any0 (And.intro @lx_any1 (And.intro @lx_str0 (And.intro @lx_str1 (And.intro @lx_app0 (And.intro @lx_app1 (And.intro @lx_app2 (And.intro @lx_app3 (And.intro @Ny (And.intro @lo_app0 (And.intro @lo_app2 (And.intro @lo_app3 (And.intro @lo_len (And.intro @lo_len0 (And.intro @lo_len1 (And.intro @lo_get0 (And.intro @lo_get1 (And.intro @lo_set0 (And.intro @lo_set1 (And.intro @U4 (And.intro @lv_get1 (And.intro @lv_set0 (And.intro @lv_set1 (And.intro @lv_len0 (And.intro @lv_len1 (And.intro @ln_lt (And.intro @ln_le (And.intro @ln_eq (And.intro @lr_row0 (And.intro @lr_row1 (And.intro @ej (And.intro @hp_getk (And.intro @hp_set0 (And.intro @hp_setk (And.intro @hp_take (And.intro @hp_self (And.intro @byteO_some (And.intro @rixs_i (And.intro @rixs_l0 (And.intro @rixs_l1 (And.intro @rixs_l2 (And.intro @Tm (And.intro @rlen_sl (And.intro @rlen_rs (And.intro @aun_not (And.intro @ar_add (And.intro @ar_sub (And.intro @ar_mul (And.intro @ar_eql (And.intro @ar_neq (And.intro @ar_lss (And.intro @ar_leq (And.intro @Wj (And.intro @ar_geq (And.intro @st_eql (And.intro @st_neq (And.intro @st_lss (And.intro @st_leq (And.intro @st_gtr (And.intro @st_geq (And.intro @ld_ptr (And.intro @ld_vptr (And.intro @rowO_some (And.intro @P9 (And.intro @rl_agg0 (And.intro @rl_agg1 (And.intro @rl_one0 (And.intro @rl_one1 (And.intro @takeO_0 (And.intro @takeO_1 (And.intro @consL_some (And.intro @aggO_some (And.intro @fa_ptr (And.intro @fa_vptr (And.intro @Wn (And.intro @ex_0 (And.intro @ex_1 (And.intro @ex_2 (And.intro @ac_int (And.intro @ac_bool (And.intro @ac_str (And.intro @ac_agg (And.intro @ac_slice (And.intro @ac_rslice (And.intro @ac_fn (And.intro @ac_ptr (And.intro @ac_nilp (And.intro @ac_nilfn (And.intro @ac_nilif (And.intro @ac_iface (And.intro @st_ptr (@stA_some))))))))))))))))))))))))))))))))))))))))))))))))))))))))))))))))))))))))))))))))))))))))))))))))))))))))))))))))))))))))))))))))))))))
def am4:=And.intro @cut_refl (And.intro @cut_app (And.intro @handV_drop (And.intro @wk_int (And.intro @wk_bool (And.intro @wk_str (And.intro @wk_unk (And.intro @wk_nilp (And.intro @wk_nilif (And.intro @wk_nilfn (And.intro @R0 (And.intro @wk_tuple (And.intro @wk_agg (And.intro @wk_iface (And.intro @wk_fn (And.intro @wk_ptr (And.intro @wk_map (And.intro @wk_rslice (And.intro @wk_slice (And.intro @wk_any (And.intro @wk_vptr (And.intro @kU (And.intro @rowsWk_cons (And.intro @rowsWk_append (And.intro @rowsWk_map (And.intro @wkL_nil (And.intro @wkL_cons (And.intro @wkE_nil (And.intro @wkE_cons (And.intro @rias_nat (And.intro @stO_cells (And.intro @Tk (@stO_cells))))))))))))))))))))))))))))))))
end Go.Am
end
section
namespace Go.Am
open Go.RowKit
theorem Qa(s:Bool)(a:Env)(op:ROp)(T L:List Nat):tY s .pure a op T L=some (T,L):=rfl
theorem Oz(a:Env)(op:ROp)(T L:List Nat):tY false .wide a op T L=some (T,L):=rfl
theorem R4(s:Bool)(a:Env)(op:ROp)(T L:List Nat):tY s .eff a op T L=some (T,L):=rfl
theorem Tn(s:Bool)(a:Env)(cs:List AV)(e:TypeId)(T L:List Nat):tY s .keep a (.nw cs e) T L=some (T,L):=rfl
theorem To(s:Bool)(a:Env)(e:TypeId)(x:RX)(T L:List Nat):tY s .keep a (.bx e x) T L=some (T,L):=rfl
theorem R5(E:bt)(x:AV)(args:List AV)(H:List ab):vW E .eff x args H=none:=by unfold vW;split<;>rfl
theorem Qb(E:bt)(x:AV)(args:List AV)(H:List ab):vW E .keep x args H=none:=by unfold vW;split<;>rfl
theorem OA(E:bt)(x:AV)(args:List AV)(H:List ab):vW E .quiet x args H=none:=by unfold vW;split<;>rfl
theorem Tp(dec:Dec)(E:bt)(g:FuncId)(first cap args:List AV)(H:List ab)(T L:List Nat)(v:AV)(H':List ab):Ck dec E .eff (.fn (.func g) first cap) args H T L (some (.ret v,H'))=some (v,H',T,L):=rfl
theorem R6(E:bt)(g:FuncId)(first cap args:List AV)(H:List ab)(T L:List Nat)(v:AV):Ck cU E .keep (.fn (.func g) first cap) args H T L (some (.ret v,H))=some (v,H,T,L):=by
 unfold Ck vg
 simp only [HC (List.take_length (l:=H)),Cj.b,if_true]
theorem Qd(T:List Nat)(r:Option Out):yz cU T [] r=r:=by
 unfold yz
 rw [Q7 (fun x hx=>by cases hx)]
theorem OB(L:List Nat)(r:Option Out):yz cU [] L r=r:=by
 unfold yz
 rw [Q7 (fun x _ hx=>by cases hx)]
theorem am5 :
 (∀ (s:Bool) (a:Env) (op:ROp) (T L:List Nat),tY s .pure a op T L=some (T,L)) ∧
 (∀ (a:Env) (op:ROp) (T L:List Nat),tY false .wide a op T L=some (T,L)) ∧
 (∀ (s:Bool) (a:Env) (op:ROp) (T L:List Nat),tY s .eff a op T L=some (T,L)) ∧
 (∀ (s:Bool) (a:Env) (cs:List AV) (e:TypeId) (T L:List Nat),tY s .keep a (.nw cs e) T L=some (T,L)) ∧
 (∀ (s:Bool) (a:Env) (e:TypeId) (x:RX) (T L:List Nat),tY s .keep a (.bx e x) T L=some (T,L)) ∧
 (∀ (E:bt) (x:AV) (args:List AV) (H:List ab),vW E .eff x args H=none) ∧
 (∀ (E:bt) (x:AV) (args:List AV) (H:List ab),vW E .keep x args H=none) ∧
 (∀ (E:bt) (x:AV) (args:List AV) (H:List ab),vW E .quiet x args H=none) ∧
 (∀ (H:List ab) (T L:List Nat) (r:Option IV),Nw none H T L r=r) ∧
 (∀ (dec:Dec) (E:bt) (g:FuncId) (first cap args:List AV) (H:List ab) (T L:List Nat) (v:AV) (H':List ab),Ck dec E .eff (.fn (.func g) first cap) args H T L (some (.ret v,H'))=some (v,H',T,L)) ∧
 (∀ (E:bt) (g:FuncId) (first cap args:List AV) (H:List ab) (T L:List Nat) (v:AV),Ck cU E .keep (.fn (.func g) first cap) args H T L (some (.ret v,H))=some (v,H,T,L)) ∧
 (∀ (T:List Nat) (r:Option Out),yz cU T [] r=r) ∧
 (∀ (L:List Nat) (r:Option Out),yz cU [] L r=r) ∧
 (Jz []=true)∧(∀ (s:List UInt8) (r:List (List AV)),Jz ([.str s]::r)=false)∧(∀ (a b:AV) (c:List AV) (r:List (List AV)),Jz ((a::b::c)::r)=false)∧(∀ (k:IntKind) (n:Int) (r:List (List AV)),Jz ([.int k n]::r)=true) ∧
 (∀ (i o:Nat) (r:List (List AV)),Jz ([.ptr i o]::r)=false)∧(∀ (t:Tag) (n:Nat) (x r:List (List AV)),Jz ([.slice t n x]::r)=false) ∧
 (∀ (α:Type) (x y:α),(if true=false then x else y)=y)∧(∀ (α:Type) (x y:α),(if false=false then x else y)=x):=
 ⟨Qa,Oz,R4,Tn,To,R5,Qb,OA,Ml,Tp,R6,Qd,OB,rfl,fun _ _=>rfl,fun a _ _ _=>(by cases a<;>rfl),fun _ _ _=>rfl,fun _ _ _=>rfl,fun _ _ _ _=>rfl,fun _ _ _=>rfl,fun _ _ _=>rfl⟩
def Wo(o:Option Nat)(T L:List Nat):Option (List Nat×List Nat):=
 match o with
 |some id=>some (id::T,L)
 |none=>some (T,L)
theorem amZ :
 (∀ (a:Env) (H:List ab) (e:TypeId) (sz bytes:Nat) (z:List AV) (s n:RX),rop a H (.apz e sz bytes z s n)=PU H e sz bytes z (rx a s) (rx a n)) ∧
 (∀ (a:Env) (H:List ab) (sz:Nat) (z:List AV) (x:RX),rop a H (.cl sz z x)=E6 (rcl H sz z (rx a x))) ∧
 (∀ (s:Bool) (a:Env) (m:Bool) (e:TypeId) (sz bytes:Nat) (str:Bool) (x y:RX) (T L:List Nat),tY s .keep a (.ap m e sz bytes str x y) T L=Wo (o1 (rx a x)) T L) ∧
 (∀ T L:List Nat,Wo none T L=some (T,L))∧(∀ (id:Nat) (T L:List Nat),Wo (some id) T L=some (id::T,L)) ∧
 (∀ (n:Nat) (r:List (List AV)),o1 (.slice .nil n r)=none)∧(∀ (n:Nat) (r:List (List AV)),o1 (.slice .any n r)=none)∧(∀ (n:Nat) (r:List (List AV)),o1 (.slice .full n r)=none) ∧
 (∀ (t n:Nat) (r:List (List AV)),o1 (.slice (.own t) n r)=some t)∧(∀ (id off len esz:Nat) (room:Bool),o1 (.rslice id off len esz room)=some id):=
 ⟨fun _ _ _ _ _ _ _ _=>rfl,fun _ _ _ _ _=>rfl,fun _ _ _ _ _ _ _ _ _ _ _=>rfl,fun _ _=>rfl,fun _ _ _=>rfl,fun _ _=>rfl,fun _ _=>rfl,fun _ _=>rfl,fun _ _ _=>rfl,fun _ _ _ _ _=>rfl⟩
theorem setRow_nil(cs:List AV)(o:Nat):aO cs o []=cs:=by cases cs<;>rfl
theorem setRow_cons(cs:List AV)(o:Nat)(v:AV)(r:List AV):aO cs o (v::r)=aO (cs.set o v) (o+1) r:=by cases cs<;>rfl
end Go.Am
end
section
namespace Go.Am
structure WdE {E:bt} (M:cK cU E):Prop where
 wo:∀ f a H,E.wo f a H=none
 wide:∀ {g:FuncId}{args:List AV}{v:AV},(∀ H,M.run g args H=some (.ret v,H))→GB E g args v
theorem WdE.of{E:bt}(M:cK cU E)(h:E.Ok)(hw:∀ f a H,E.wo f a H=none):WdE M:=⟨hw,fun hr H=>M.sound h (hr H)⟩
theorem zP{E:bt}{M:cK cU E}(hW:WdE M)(g:FuncId)(first cap args:List AV)(H:List ab):vW E .wide (.fn (.func g) first cap) args H=none:=by
 unfold vW Oo
 exact hW.wo _ _ _
theorem Nz{E:bt}{M:cK cU E}(hW:WdE M){g:FuncId}{first cap args:List AV}{v:AV}(h:∀ H,M.run g (first++args++cap) H=some (.ret v,H))(H:List ab)(T L:List Nat) :
  Ck cU E .wide (.fn (.func g) first cap) args H T L (some (.ret v,H))=some (v,H,T,L):=by
 have:vg cU E .wide g (first++args++cap) H v H=true:=by
  unfold vg
  simp only [RY rfl (hW.wide h)]
  rfl
 unfold Ck
 simp only [this,if_true]
end Go.Am
end
section
namespace Go.Am
open Go.RowKit
end Go.Am
end
section
namespace Go.Am
open Go.RowKit
theorem Mm{H0 H:List ab}{v v':AV}(e:UQ H0.length H v=v')(h:On H0 H v v'):u6 cU .frz H0 H v=some (v',H.take H0.length):=by
 subst e
 unfold u6
 simp only [Tc h]
end Go.Am
end
section
namespace Go.Am
open Go.RowKit
end Go.Am
end
section
namespace Go.Am
open Go.RowKit
theorem Qe{H0 H1:List ab}{cs:List AV}{T:TypeId}{id off len esz:Nat}{room:Bool}(hid:H0.length≤id)(hx:H1[id]?=some (.cells cs T))(hlen:H0.length≤H1.length)(htake:H1.take H0.length=H0)(hsz:off+len*esz≤cs.length)(hw:∀ c∈cs,Wk H0.length c c) :
  On H0 H1 (.rslice id off len esz room) (.slice .any esz (kS esz len (cs.drop off))):=by
 intro K K' w w' x hi hi' hk hv
 have hcut:dL H0 H1:=⟨hlen,fun i x hlt h=>.inl (by rw [← htake,List.getElem?_take_of_lt hlt];exact h)⟩
 obtain ⟨hc1,hc2⟩:=hi.cut hi' hk hcut
 rw [htake] at hc1 ⊢
 cases hv with
 |rslice _ _ _ _ _ b cap hb hcap hro=>
  obtain ⟨b2,vs,T2,h1,h2,h3,h4,h5,h6,h7,h8,h9⟩:=hi'.obj _ _ hx
  rw [hb] at h1;cases h1
  let K2:aJ := { K'.trunc H0.length with imm:=fun b' o=>if b'=b then vs[o]? else K'.imm b' o }
  have hle:(K'.trunc H0.length).le K2:=⟨fun b' o v h=>by
   show (if b'=b then _ else _)=_
   have h':K'.imm b' o=some v:=h
   rw [if_neg (fun e=>by subst e;rw [h6] at h';cases h')];exact h',fun _ _ h=>h,fun _ _ h=>h,rfl,rfl,rfl,fun b' s h=>h,fun b' hb'=>⟨fun o=>if_neg (fun e=>hb' (by rw [e];exact h2)),rfl⟩⟩
  have hn:H0.length≤K'.loc.length:=by rw [hi'.len];exact hlen
  have row:∀ (i j:Nat) (r:List AV) (av:AV),(kS esz len (cs.drop off))[i]?=some r→r[j]?=some av→i<len∧j<esz∧cs[off+i*esz+j]?=some av:=fun i j r av hr hj=>by
   obtain ⟨g1,rfl⟩:=qP esz len (cs.drop off) i r hr
   rw [List.getElem?_take] at hj
   split at hj
   ·rename_i hlt
    rw [List.getElem?_drop,List.getElem?_drop] at hj
    exact ⟨g1,hlt,by rw [← hj];congr 1;omega⟩
   ·cases hj
  refine ⟨K2,hc2.trans hle, ?_, ?_⟩
  ·have:=V.slice (K:=K2) .any esz (kS esz len (cs.drop off)) b off cap (fun i j=>vs.getD (off+i*esz+j) undef) (fun r hr => ?_) (fun i j r av hr hj => ?_) (fun i j r av hr hj => ?_) (by rw [nT];exact hcap) trivial
   ·rwa [nT] at this
   ·obtain ⟨i,hi1⟩:=List.mem_iff_getElem?.1 hr
    obtain ⟨g1,rfl⟩:=qP esz len (cs.drop off) i r hi1
    have:i*esz+esz≤len*esz:=by rw [← Nat.succ_mul];exact Nat.mul_le_mul_right _ g1
    simp;omega
   ·obtain ⟨g1,g2,g3⟩:=row i j r av hr hj
    have hlt:off+i*esz+j<vs.size:=Nat.lt_of_lt_of_le (List.getElem?_eq_some_iff.1 g3).1 h4
    show (if b=b then _ else _)=_
    rw [if_pos rfl,Array.getElem?_eq_getElem hlt]
    simp [Array.getD,hlt]
   ·obtain ⟨g1,g2,g3⟩:=row i j r av hr hj
    exact (hw _ (List.mem_of_getElem? g3) K' _ hn (h5 _ _ g3)).mono hle
  ·refine ⟨hc1.below,hc1.base,fun b' o v h => ?_,hc1.len,fun i y hy => ?_,hc1.inj,fun b' t n h => ?_,fun g cs hg=>(hc1.glob g cs hg).mono hle,hc1.shape⟩
   ·have h':(if b'=b then vs[o]? else K'.imm b' o)=some v:=h
    split at h'
    ·rename_i e;subst e;rw [cell_of_heap h3];exact h'
    ·exact hc1.imm b' o v h'
   ·by_cases ly:y.live=true
    ·obtain ⟨by',hy1,_,_⟩:=hc1.live_block hy ly
     have hne2:by'≠b:=fun e=>by
      subst e
      have hi0:i<H0.length:=(List.getElem?_eq_some_iff.1 hy).1
      have hy':H1[i]?=some y:=by rw [← List.getElem?_take_of_lt hi0,htake];exact hy
      have hl:K'.loc[i]?=some by':=by
       have:(K'.loc.take H0.length)[i]?=some by':=hy1
       rwa [List.getElem?_take_of_lt hi0] at this
      exact hi'.inj i id y _ hy' hx ly rfl (by omega) (by rw [hl,hb])
     refine (hc1.obj i y hy).mono hle (fun _ _ _ _=>rfl) (fun b'' hb'' _=>⟨fun o h => ?_,fun h=>h,fun h=>h⟩)
     rw [hy1] at hb'';cases hb''
     show (if _=b then _ else _)=_
     rw [if_neg hne2];exact h
    ·cases y<;>first | exact absurd rfl ly | trivial
   ·obtain ⟨g1,fr,us,T',lo,hh,g2,g3,g4,g5,g6⟩:=hc1.own b' t n h
    refine ⟨g1,fr,us,T',lo,hh,g2,g3,g4,g5,fun o v hv=>g6 o v ?_⟩
    have h':(if b'=b then vs[o]? else K'.imm b' o)=some v:=hv
    split at h'
    ·rename_i e
     subst e
     obtain ⟨g7,_⟩:=aJ.trunc_own h
     rw [h7] at g7;cases g7
    ·exact h'
theorem HD{H0 H1:List ab}{cs:List AV}{T:TypeId}{id off len esz:Nat}{room:Bool}(hid:H0.length≤id)(hx:H1[id]?=some (.cells cs T))(hlen:H0.length≤H1.length)(htake:H1.take H0.length=H0)(hsz:off+len*esz≤cs.length)(hw:∀ c∈cs,Wk H0.length c c) :
  u6 cU .frz H0 H1 (.rslice id off len esz room)=some (.slice .any esz (kS esz len (cs.drop off)),H0):=by
 have hlt:¬ id<H0.length:=by omega
 rw [Mm (by simp [UQ,Wa,hid,hx]) (Qe hid hx hlen htake hsz hw),htake]
end Go.Am
end
section
namespace Go.Am
open Go.RowKit
theorem HE{a b:Nat}(h:Nat.blt a b=true):a<b:=by rwa [Nat.blt_eq] at h
mutual
def wkb(n:Nat):AV→Bool
 |.unk | .bool _ | .int _ _ | .str _ | .nilp | .nilmap | .nilfn | .nilif=>true
 |.ptr i _=>Nat.blt i n
 |.rslice i _ _ _ _=>Nat.blt i n
 |.map i=>Nat.blt i n
 |.vptr _ r _ _=>wkbR n r
 |.slice (.own t) _ r=>Nat.blt t n&&wkbR n r
 |.slice _ _ r=>wkbR n r
 |.vmap es=>wkbE n es
 |.sdp t r=>Nat.blt t n&&wkbR n r
 |.fn _ a b=>wkbL n a&&wkbL n b
 |.iface _ v=>wkb n v
 |.agg l=>wkbL n l
 |.tuple l=>wkbL n l
def wkbL(n:Nat):List AV→Bool
 |[]=>true
 |x::l=>wkb n x&&wkbL n l
def wkbR(n:Nat):List (List AV)→Bool
 |[]=>true
 |x::l=>wkbL n x&&wkbR n l
def wkbE(n:Nat):List (AV×AV)→Bool
 |[]=>true
 |x::l=>wkbP n x&&wkbE n l
def wkbP(n:Nat):AV×AV→Bool
 |(x,y)=>wkb n x&&wkb n y
end
theorem o3{n:Nat}:∀ {l:List AV}{i:Nat}{x:AV},wkbL n l=true→l[i]?=some x→wkb n x=true
 |[],_,_,_,h=>by simp at h
 |y::l,0,x,h,e=>by simp only [wkbL,Bool.and_eq_true] at h;simp at e;subst e;exact h.1
 |y::l,i+1,x,h,e=>by simp only [wkbL,Bool.and_eq_true] at h;simp at e;exact o3 h.2 e
theorem GE{n:Nat}:∀ {l:List (List AV)}{i:Nat}{x:List AV},wkbR n l=true→l[i]?=some x→wkbL n x=true
 |[],_,_,_,h=>by simp at h
 |y::l,0,x,h,e=>by simp only [wkbR,Bool.and_eq_true] at h;simp at e;subst e;exact h.1
 |y::l,i+1,x,h,e=>by simp only [wkbR,Bool.and_eq_true] at h;simp at e;exact GE h.2 e
theorem tZ{n:Nat}:∀ {l:List (AV×AV)}{i:Nat}{x y:AV},wkbE n l=true→l[i]?=some (x,y)→wkb n x=true∧wkb n y=true
 |[],_,_,_,_,h=>by simp at h
 |e0::l,0,x,y,h,e=>by simp only [wkbE,Bool.and_eq_true] at h;simp at e;subst e;simpa [wkbP] using h.1
 |e0::l,i+1,x,y,h,e=>by simp only [wkbE,Bool.and_eq_true] at h;simp at e;exact tZ h.2 e
def Tq(n:Nat):ab→Bool
 |.cells cs _=>wkbL n cs
 |.map es=>wkbE n es
 |_=>true
structure VLe (K K':aJ):Prop where
 imm:∀ b o v,K.imm b o=some v→K'.imm b o=some v
 own:∀ b x,K.own b=some x→K'.own b=some x
 loc:∀ (i b:Nat),K.loc[i]?=some b→K'.loc[i]?=some b
 shape:∀ b s,K.shape b=some s→K'.shape b=some s
theorem VLe.lt{K K':aJ}(h:VLe K K'){i:Nat}(hi:i<K.loc.length):i<K'.loc.length:=
 (List.getElem?_eq_some_iff.1 (h.loc i _ (List.getElem?_eq_getElem hi))).1
theorem V.vle{K K':aJ}(h:VLe K K'){a:AV}{v:Value}(hv:V K a v):V K' a v:=by
 induction hv with
 |unk v=>exact .unk v
 |bool b=>exact .bool b
 |int k n=>exact .int k n
 |str s=>exact .str s
 |nilp=>exact .nilp
 |ptr id off b hb=>exact .ptr id off b (h.loc _ _ hb)
 |vptr esz rows i off b o vs hl hi hv ih=>exact .vptr esz rows i off b o vs hl (fun i j r av h1 h2=>h.imm _ _ _ (hi i j r av h1 h2)) ih
 |slice0 tag esz a ht=>exact .slice0 tag esz a ⟨fun t e=>⟨h.lt (ht.1 t e).1,(ht.1 t e).2⟩,ht.2⟩
 |sliceAny esz a cap=>exact .sliceAny esz a cap
 |slice tag esz rows b o cap vs hl hi hv hc ht ih=>
  refine .slice tag esz rows b o cap vs hl (fun i j r av h1 h2=>h.imm _ _ _ (hi i j r av h1 h2)) ih hc ?_
  cases tag with
  |any=>trivial
  |full=>exact ht
  |nil=>exact ht
  |own t=>exact ⟨h.lt ht.1,ht.2.imp id fun h2=>⟨h2.1,h.own _ _ h2.2⟩⟩
 |rslice id off len esz room b cap hb hc hs=>exact .rslice id off len esz room b cap (h.loc _ _ hb) hc (fun hr=>let ⟨n,h1,h2⟩:=hs hr;⟨n,h.shape _ _ h1,h2⟩)
 |vmap es b mes hb hl hk hv ih1 ih2=>exact .vmap es b mes (h.shape _ _ hb) hl ih1 ih2
 |nilmap=>exact .nilmap
 |map id b hb=>exact .map id b (h.loc _ _ hb)
 |sdp0 t p=>exact .sdp0 t p
 |sdp t rows b cap vs htl ho hl hi hv hc ih=>exact .sdp t rows b cap vs (h.lt htl) (h.own _ _ ho) hl (fun i j r av h1 h2=>h.imm _ _ _ (hi i j r av h1 h2)) ih hc
 |fn f first captured vs us h1 h2 hv hu ih1 ih2=>exact .fn f first captured vs us h1 h2 ih1 ih2
 |nilfn=>exact .nilfn
 |iface t v x hx ih=>exact .iface t v x ih
 |nilif=>exact .nilif
 |agg cs vs h1 hv ih=>exact .agg cs vs h1 ih
 |tuple cs vs h1 hv ih=>exact .tuple cs vs h1 ih
theorem Bh{K:aJ}{n b t m:Nat}(h:K.own b=some (t,m))(hlt:t<n):(K.trunc n).own b=some (t,m):=by
 simp [aJ.trunc,h,hlt]
theorem Mn{K:aJ}{n:Nat}(hn:n≤K.loc.length){a:AV}{v:Value}(hv:V K a v)(hw:wkb n a=true):V (K.trunc n) a v:=by
 have hlen:(K.trunc n).loc.length=n:=by simp [aJ.trunc,Nat.min_eq_left hn]
 induction hv with
 |unk v=>exact .unk v
 |bool b=>exact .bool b
 |int k n=>exact .int k n
 |str s=>exact .str s
 |nilp=>exact .nilp
 |ptr id off b hb=>exact .ptr id off b (nS hb (HE hw))
 |vptr esz rows i off b o vs hl hi hv ih=>exact .vptr esz rows i off b o vs hl (fun i j r av h1 h2=>hi i j r av h1 h2) fun i j r av h1 h2=>ih i j r av h1 h2 (o3 (GE hw h1) h2)
 |slice0 tag esz a ht=>
  refine .slice0 tag esz a ⟨fun t e=>⟨?_,(ht.1 t e).2⟩,ht.2⟩
  subst e
  simp only [wkb,Bool.and_eq_true] at hw
  rw [hlen];exact HE hw.1
 |sliceAny esz a cap=>exact .sliceAny esz a cap
 |slice tag esz rows b o cap vs hl hi hv hc ht ih=>
  have hr:wkbR n rows=true:=by cases tag<;>simp only [wkb,Bool.and_eq_true] at hw<;>first | exact hw.2 | exact hw
  refine .slice tag esz rows b o cap vs hl (fun i j r av h1 h2=>hi i j r av h1 h2) (fun i j r av h1 h2=>ih i j r av h1 h2 (o3 (GE hr h1) h2)) hc (CT ht fun t e => ?_)
  subst e
  simp only [wkb,Bool.and_eq_true] at hw
  exact HE hw.1
 |rslice id off len esz room b cap hb hc hs=>exact .rslice id off len esz room b cap (nS hb (HE hw)) hc hs
 |vmap es b mes hb hl hk hv ih1 ih2=>exact .vmap es b mes hb hl (fun i k v he=>ih1 i k v he (tZ hw he).1) fun i k v he=>ih2 i k v he (tZ hw he).2
 |nilmap=>exact .nilmap
 |map id b hb=>exact .map id b (nS hb (HE hw))
 |sdp0 t p=>exact .sdp0 t p
 |sdp t rows b cap vs htl ho hl hi hv hc ih=>
  simp only [wkb,Bool.and_eq_true] at hw
  have ht:=HE hw.1
  exact .sdp t rows b cap vs (by rw [hlen];exact ht) (Bh ho ht) hl hi (fun i j r av h1 h2=>ih i j r av h1 h2 (o3 (GE hw.2 h1) h2)) hc
 |fn f first captured vs us h1 h2 hv hu ih1 ih2=>
  simp only [wkb,Bool.and_eq_true] at hw
  exact .fn f first captured vs us h1 h2 (fun i av h=>ih1 i av h (o3 hw.1 h)) fun i av h=>ih2 i av h (o3 hw.2 h)
 |nilfn=>exact .nilfn
 |iface t v x hx ih=>exact .iface t v x (ih hw)
 |nilif=>exact .nilif
 |agg cs vs h1 hv ih=>exact .agg cs vs h1 fun i av h=>ih i av h (o3 hw h)
 |tuple cs vs h1 hv ih=>exact .tuple cs vs h1 fun i av h=>ih i av h (o3 hw h)
def Kb{α β:Type}(f:α→Option β):List α→Option (List β)
 |[]=>some []
 |x::l=>match f x,Kb f l with
  |some y,some l'=>some (y::l')
  |_,_=>none
theorem Dh{α β:Type}{f:α→Option β}:∀ {l:List α}{l':List β},Kb f l=some l'→l'.length=l.length∧∀ (i:Nat) (y:β),l'[i]?=some y→∃ x,l[i]?=some x∧f x=some y
 |[],l',h=>by cases h;exact ⟨rfl,fun i y h=>by simp at h⟩
 |x::l,l',h=>by
  simp only [Kb] at h
  split at h
  ·rename_i a' l2 e1 e2
   cases h
   obtain ⟨g1,g2⟩:=Dh e2
   refine ⟨by simp [g1],fun i av h => ?_⟩
   cases i with
   |zero=>simp at h;subst h;exact ⟨x,rfl,e1⟩
   |succ i=>simp at h;simpa using g2 i av h
  ·cases h
def Tag.fz:Tag→Tag
 |.nil=>.nil
 |_=>.any
def fzD:Nat→Nat→List ab→AV→Option AV
 |0,_,_,_=>none
 |k+1,n,H,v=>
  match v with
  |.rslice id off len esz _=>bif Nat.blt id n then none else (match H[id]? with
    |some (.cells cs _)=>bif Nat.ble (off+len*esz) cs.length then (match Kb (Kb (fzD k n H)) (kS esz len (cs.drop off)) with
     |some rows=>some (.slice .any esz rows)
     |none=>none) else none
    |_=>none)
  |.map id=>bif Nat.blt id n then none else (match H[id]? with
    |some (.map es)=>bif wkbE n es then some (.vmap es) else none
    |_=>none)
  |.slice tag esz rows=>(match Kb (Kb (fzD k n H)) rows with
    |some rows=>some (.slice tag.fz esz rows)
    |none=>none)
  |.agg cs=>(match Kb (fzD k n H) cs with
    |some cs=>some (.agg cs)
    |none=>none)
  |.tuple cs=>(match Kb (fzD k n H) cs with
    |some cs=>some (.tuple cs)
    |none=>none)
  |v=>bif wkb n v then some v else none
def fzV(n:Nat)(H:List ab)(v:AV):Option AV:=fzD 12 n H v
theorem Inv.live_own{K:aJ}{H:List ab}{w:World}(hi:Inv K H w){id b:Nat}{x:ab}(hx:H[id]?=some x)(hl:x.live=true)(hb:K.loc[id]?=some b):K.own b=none:=by
 cases ho:K.own b with
 |none=>rfl
 |some p=>
  obtain ⟨_,fr,us,T,lo,hh,_,g2,_⟩:=hi.own b p.1 p.2 ho
  have:=hi.obj id x hx
  cases x with
  |dead=>cases hl
  |tok=>cases hl
  |cells cs T0=>
   obtain ⟨b2,vs,T2,h1,h2,h3,h4,h5,h6,h7,h8,h9⟩:=this
   rw [hb] at h1;cases h1;rw [ho] at h7;cases h7
  |siter s p=>obtain ⟨b2,h1,h2,h3⟩:=this;rw [hb] at h1;cases h1;rw [g2] at h3;cases h3
  |map es=>obtain ⟨b2,me,cl,h1,h2,h3,_⟩:=this;rw [hb] at h1;cases h1;rw [g2] at h3;cases h3
def GF(w:World)(b:Nat):Option Shp:=
 match w.heap[b]? with
 |some (.cells vs _ _)=>some (.rows vs.size)
 |some (.map es _)=>some (.mapv es)
 |_=>none
theorem OC{w:World}{b:Nat}{s:Shp}(h:GF w b=some s):L7 w b s:=by
 unfold GF at h
 split at h
 ·rename_i vs T f hb;cases h;exact ⟨vs,T,f,hb,rfl⟩
 ·rename_i es c hb;cases h;exact ⟨c,hb⟩
 ·cases h
theorem Tr{w:World}{b:Nat}{s:Shp}(h:L7 w b s):GF w b=some s:=by
 cases s with
 |rows n=>obtain ⟨vs,T,f,h1,h2⟩:=h;simp [GF,h1,h2]
 |mapv es=>obtain ⟨c,h1⟩:=h;simp [GF,h1]
section
variable{P:Program}{G:Nat→Option (List AV)}
theorem Inv.unsee{K:aJ}{H H':List ab}{w:World}(hi:Inv K H w)(hl:H'.length=H.length)(hs:∀ (i:Nat) (x:ab),H'[i]?=some x→x = .dead∨H[i]?=some x)
  (ht:∀ (t fr:Nat) (T:TypeId),H[t]?=some (.tok fr T)→H'[t]?=some (.tok fr T)):Inv K H' w:=by
 refine ⟨hi.below,hi.base,hi.imm,by rw [hi.len,hl],fun id x hx => ?_,fun i j x y hx hy lx ly hij => ?_,fun b t n ho => ?_,hi.glob,hi.shape⟩
 ·rcases hs id x hx with rfl | h
  ·trivial
  ·exact hi.obj id x h
 ·rcases hs i x hx with rfl | h1
  ·cases lx
  ·rcases hs j y hy with rfl | h2
   ·cases ly
   ·exact hi.inj i j x y h1 h2 lx ly hij
 ·obtain ⟨hb,fr,us,T,lo,hh,g1,g2⟩:=hi.own b t n ho
  exact ⟨hb,fr,us,T,lo,hh,ht t fr T g1,g2⟩
theorem eS.frame{He H1:List ab}{f:FuncId}{args:List AV}{v0 v:AV}(h:eS P G f args He fun r H'=>r = .ret v0∧H'=H1)(hk1:H1.take He.length=He)
  (hG:∀ n g cs,G g=some cs→wkbL n cs=true) (ha:∀ a∈args,wkb He.length a=true) (hH:∀ x∈He,Tq He.length x=true) (hf:fzV He.length H1 v0=some v)
  (H2:List ab) (hm2:He.length≤H2.length) (hag:∀ (i:Nat) (x:ab),He[i]?=some x→x = .dead∨H2[i]?=some x)
  (htok:∀ (t fr:Nat) (T:TypeId),t<He.length→H2[t]?=some (.tok fr T)→He[t]?=some (.tok fr T)):eS P G f args H2 fun r H'=>r = .ret v∧H'=H2:=by
 classical
 intro K w cargs hg hi hv
 generalize hm:He.length=m at *
 have hlen:m≤K.loc.length:=by rw [hi.len];exact hm2
 have hkill:Inv K (He++H2.drop m) w:=by
  refine hi.unsee (by simp [hm];omega) (fun i x hx => ?_) (fun t fr T ht => ?_)
  ·by_cases hlt:i<m
   ·rw [List.getElem?_append_left (by omega)] at hx;exact hag i x hx
   ·rw [List.getElem?_append_right (by omega),List.getElem?_drop,hm,Nat.add_sub_cancel' (by omega)] at hx;exact .inr hx
  ·by_cases hlt:t<m
   ·rw [List.getElem?_append_left (by omega)];exact htok t fr T hlt ht
   ·rw [List.getElem?_append_right (by omega),List.getElem?_drop,hm,Nat.add_sub_cancel' (by omega)];exact ht
 have htk:(He++H2.drop m).take m=He:=by rw [← hm];simp
 have hkl:∀ {i:Nat},i<m→(He++H2.drop m)[i]?=He[i]? := fun h=>List.getElem?_append_left (by omega)
 have hvis:∀ {i:Nat}{x:ab},He[i]?=some x→x.live=true→H2[i]?=some x:=fun h hl=>by
  rcases hag _ _ h with rfl | h
  ·cases hl
  ·exact h
 let M2:Nat→Prop:=fun b=>w.heap.size≤b∨(∃ (i:Nat) (x:ab),He[i]?=some x∧x.live=true∧K.loc[i]?=some b)∨∃ t n,K.own b=some (t,n)∧t<m
 have hlt_of:∀ {i:Nat}{x:ab},He[i]?=some x→i<m:=fun h=>by have:=(List.getElem?_eq_some_iff.1 h).1;omega
 have hM:∀ b,M2 b→K.base b:=fun b hb=>by
  rcases hb with hb | ⟨i,x,h1,h2,h3⟩ | ⟨t,n,h1,_⟩
  ·exact hi.base b hb
  ·obtain ⟨b',h4,h5,_⟩:=hi.live_block (hvis h1 h2) h2
   rw [h3] at h4;cases h4;exact h5
  ·exact (hi.own b t n h1).1
 have hno:∀ {i b:Nat}{x:ab},He[i]?≠some x→H2[i]?=some x→x.live=true→K.loc[i]?=some b→¬ M2 b:=fun {i b x} h1 h2 h3 h4 hb=>by
  rcases hb with hb | ⟨j,y,g1,g2,g3⟩ | ⟨t,n,g1,_⟩
  ·obtain ⟨b',h5,_,h6⟩:=hi.live_block h2 h3
   rw [h4] at h5;cases h5;omega
  ·have hj:=hvis g1 g2
   exact hi.inj i j x y h2 hj h3 g2 (fun e=>by subst e;rw [hj] at h2;cases h2;exact h1 g1) (h4.trans g3.symm)
  ·rw [hi.live_own h2 h3 h4] at g1;cases g1
 let K2:aJ := { K.trunc m with base:=M2,w0:=w }
 have hv2:VLe (K.trunc m) K2:=⟨fun _ _ _ h=>h,fun _ _ h=>h,fun _ _ h=>h,fun _ _ h=>h⟩
 have hglw:∀ (g:Nat) (cs:List AV),K.glob g=some cs→wkb m (.vptr cs.length [cs] 0 0)=true:=fun g cs hgc=>by
  have:=hG m g cs (by rw [← hg];exact hgc)
  simp [wkb,wkbR,this]
 have hit:Inv (K.trunc m) He w:=by
  have:=hkill.trunc m (fun i cs T0 hlt hcs j av x hj hx=>by
   have h1:He[i]?=some (.cells cs T0):=(hkl hlt).symm.trans hcs
   exact Mn hlen hx (o3 (hH _ (List.mem_of_getElem? h1)) hj)) (fun i es hlt hes j x y z hj=>by
   have h1:He[i]?=some (.map es):=(hkl hlt).symm.trans hes
   have h2:=tZ (hH _ (List.mem_of_getElem? h1)) hj
   exact ⟨fun hx=>Mn hlen hx h2.1,fun hy=>Mn hlen hy h2.2⟩)
   (fun g cs hgc=>Mn hlen (hi.glob g cs hgc) (hglw g cs hgc))
  rwa [htk] at this
 have hi2:Inv K2 He w:=by
  refine ⟨tT.refl _ _,fun b hb=>.inl hb,hit.imm,hit.len,fun id x hx => ?_,hit.inj,fun b t n ho => ?_,fun g cs hgc=>(hit.glob g cs hgc).vle hv2,hit.shape⟩
  ·have:=hit.obj id x hx
   have hMb:∀ b,x.live=true→(K.trunc m).loc[id]?=some b→M2 b:=fun b hl hb=>.inr (.inl ⟨id,x,hx,hl,by
    have h':(K.loc.take m)[id]?=some b:=hb
    rwa [List.getElem?_take,if_pos (hlt_of hx)] at h'⟩)
   cases x with
   |dead=>trivial
   |tok=>trivial
   |cells cs T0=>
    obtain ⟨b,vs,T,h1,h2,h3,h4,h5,h6,h7,h8,h9⟩:=this
    exact ⟨b,vs,T,h1,hMb b rfl h1,h3,h4,fun i av hh=>(h5 i av hh).vle hv2,h6,h7,h8,h9⟩
   |siter s p=>obtain ⟨b,h1,h2,h3⟩:=this;exact ⟨b,h1,hMb b rfl h1,h3⟩
   |map es=>
    obtain ⟨b,me,cl,h1,h2,h3,h4,h5,h6⟩:=this
    exact ⟨b,me,cl,h1,hMb b rfl h1,h3,h4,fun i k v hh=>let ⟨e,g1,g2,g3⟩:=h5 i k v hh;⟨e,g1,g2.vle hv2,g3.vle hv2⟩,h6⟩
  ·obtain ⟨_,h2⟩:=hit.own b t n ho
   obtain ⟨h3,h4⟩:=aJ.trunc_own ho
   exact ⟨.inr (.inr ⟨t,n,h3,h4⟩),h2⟩
 have hargs:Vs K2 args cargs:=⟨hv.size,fun i av hh=>(Mn hlen (hv.at_ i av hh) (ha av (List.mem_of_getElem? hh))).vle hv2⟩
 have back:∀ e w',Ir K2 (fun r H'=>r = .ret v0∧H'=H1) e w'→Ir K (fun r H'=>r = .ret v∧H'=H2) e w':=by
  rintro e w' ⟨K3,r,H',hle,hend,hi3,rfl,rfl⟩
  have hb3:K3.base=M2:=hle.base
  have hm3:m≤K3.loc.length:=by
   rw [hi3.len]
   have:=congrArg List.length hk1
   simp at this;omega
  have hH1:∀ {i:Nat},i<m→H'[i]?=He[i]? := fun {i} hlt=>by rw [← hk1,List.getElem?_take,if_pos hlt]
  have hloc3:∀ {i b:Nat},i<m→K.loc[i]?=some b→K3.loc[i]?=some b:=fun {i b} hlt hb=>hle.loc i b (by
   show (K.loc.take m)[i]?=_
   rw [List.getElem?_take,if_pos hlt];exact hb)
  have hloc3':∀ {i b:Nat},i<m→K3.loc[i]?=some b→K.loc[i]?=some b:=fun {i b} hlt hb=>by
   have h1:K.loc[i]?=some K.loc[i]:=List.getElem?_eq_getElem (by omega)
   rw [hloc3 hlt h1] at hb;rw [h1];exact hb
  let NB:Nat→Prop:=fun b => ∃ (id:Nat) (x:ab),m≤id∧H'[id]?=some x∧x.live=true∧K3.loc[id]?=some b
  have hNM:∀ b,NB b→M2 b:=fun b ⟨id,x,h1,h2,h3,h4⟩=>by
   obtain ⟨b',h5,h6,_⟩:=hi3.live_block h2 h3
   rw [h4] at h5;cases h5;rw [hb3] at h6;exact h6
  have hNO:∀ b,NB b→K3.own b=none:=fun b ⟨id,x,h1,h2,h3,h4⟩=>hi3.live_own h2 h3 h4
  have hNI:∀ {i b:Nat}{x:ab},i<m→H'[i]?=some x→x.live=true→K3.loc[i]?=some b→¬ NB b:=fun {i b x} h1 h2 h3 h4 ⟨id,y,g1,g2,g3,g4⟩=>
   hi3.inj i id x y h2 g2 h3 g3 (by omega) (h4.trans g4.symm)
  let K4:aJ := { imm:=fun b o=>if NB b then w'.cell? ⟨b,o,none⟩ else K3.imm b o,own:=fun b=>if M2 b then (K3.trunc m).own b else K.own b,loc:=K.loc,base:=K.base,w0:=K.w0,glob:=K.glob,shape:=fun b=>if NB b then GF w' b else K3.shape b }
  have imm4:∀ {b o:Nat},¬ NB b→K4.imm b o=K3.imm b o:=fun h=>if_neg h
  have hv4:VLe (K3.trunc m) K4:=by
   refine ⟨fun b o x hx => ?_,fun b x hx => ?_,fun i b hb => ?_,fun b s hs => ?_⟩
   ·have hx':K3.imm b o=some x:=hx
    show (if NB b then _ else _)=_
    split
    ·exact hi3.imm b o x hx'
    ·exact hx'
   ·obtain ⟨t,n⟩:=x
    have h1:=(aJ.trunc_own hx).1
    have h2:=(hi3.own b t n h1).1
    rw [hb3] at h2
    show (if M2 b then _ else _)=_
    rw [if_pos h2];exact hx
   ·have h':(K3.loc.take m)[i]?=some b:=hb
    rw [List.getElem?_take] at h'
    split at h'
    ·rename_i hlt;exact hloc3' hlt h'
    ·cases h'
   ·have hs':K3.shape b=some s:=hs
    show (if NB b then _ else _)=_
    split
    ·exact Tr (hi3.shape b s hs')
    ·exact hs'
  have low4:∀ b,¬ M2 b→(∀ o,K4.imm b o=K.imm b o)∧K4.shape b=K.shape b:=fun b hb=>by
   have hnb:¬ NB b:=fun e=>hb (hNM b e)
   have:=hle.low b hb
   exact ⟨fun o=>(if_neg hnb).trans (this.1 o),(if_neg hnb).trans this.2⟩
  have hle4:K.le K4:=by
   refine ⟨fun b o x hx=>hv4.imm b o x (hle.imm b o x hx),fun b x hx => ?_,fun _ _ h=>h,rfl,rfl,rfl,fun b s hs=>hv4.shape b s (hle.shape b s hs),fun b hb=>low4 b fun e=>hb (hM b e)⟩
   obtain ⟨t,n⟩:=x
   show (if M2 b then _ else _)=_
   split
   ·rename_i hb
    have hlt:t<m:=by
     rcases hb with hb | ⟨i,x,h1,h2,h3⟩ | ⟨t',n',h1,h2⟩
     ·have:=hi.own_lt hx;omega
     ·rw [hi.live_own (hvis h1 h2) h2 h3] at hx;cases hx
     ·rw [hx] at h1;cases h1;exact h2
    exact Bh (hle.own b _ (Bh hx hlt)) hlt
   ·exact hx
  have vback:∀ {a:AV}{x:Value},V K3 a x→wkb m a=true→V K4 a x:=fun hx hw=>(Mn hm3 hx hw).vle hv4
  have hk3:tT M2 w w':=by
   have:=hi3.below
   rw [hb3,hle.w0] at this;exact this
  have hi4:Inv K4 H2 w':=by
   refine ⟨hi.below.trans (hk3.mono hM),fun b hb=>hi.base b (Nat.le_trans hk3.size hb),fun b o x hx => ?_,hi.len,fun id x hx => ?_,hi.inj,fun b t n ho => ?_,fun g cs hgc=>(hi.glob g cs hgc).mono hle4,fun b s hs => ?_⟩
   ·have hx':(if NB b then w'.cell? ⟨b,o,none⟩ else K3.imm b o)=some x:=hx
    split at hx'
    ·exact hx'
    ·exact hi3.imm b o x hx'
   ·by_cases hx1:He[id]?=some x
    ·have hlt:=hlt_of hx1
     have hx3:H'[id]?=some x:=(hH1 hlt).trans hx1
     have hcl:=hH x (List.mem_of_getElem? hx1)
     have:=hi3.obj id x hx3
     have hMb:∀ b,K3.base b→M2 b:=fun b hb=>by rwa [hb3] at hb
     cases x with
     |dead=>trivial
     |tok=>trivial
     |cells cs T0=>
      obtain ⟨b,vs,T,h1,h2,h3,h4,h5,h6,h7,h8,h9⟩:=this
      have hnb:=hNI hlt hx3 rfl h1
      refine ⟨b,vs,T,hloc3' hlt h1,hM b (hMb b h2),h3,h4,fun i av hh=>vback (h5 i av hh) (o3 hcl hh),fun o=>(imm4 hnb).trans (h6 o), ?_,(if_neg hnb).trans h8,h9⟩
      show (if M2 b then _ else _)=_
      rw [if_pos (hMb b h2)];simp [aJ.trunc,h7]
     |siter s p=>obtain ⟨b,h1,h2,h3⟩:=this;exact ⟨b,hloc3' hlt h1,hM b (hMb b h2),h3⟩
     |map es=>
      obtain ⟨b,me,cl,h1,h2,h3,h4,h5,h6⟩:=this
      have hnb:=hNI hlt hx3 rfl h1
      exact ⟨b,me,cl,hloc3' hlt h1,hM b (hMb b h2),h3,h4,fun i k v hh=>let ⟨e,g1,g2,g3⟩:=h5 i k v hh;⟨e,g1,vback g2 (tZ hcl hh).1,vback g3 (tZ hcl hh).2⟩,(if_neg hnb).trans h6⟩
    ·by_cases ly:x.live=true
     ·refine (hi.obj id x hx).mono hle4 (fun b hb _ _=>hk3.block b (hno hx1 hx ly hb)) (fun b hb _ => ?_)
      have hnm:=hno hx1 hx ly hb
      have hl:=low4 b hnm
      exact ⟨fun o h=>(hl.1 o).trans h,fun h=>(if_neg hnm).trans h,fun h=>hl.2.trans h⟩
     ·cases x<;>first | exact absurd rfl ly | trivial
   ·have ho':(if M2 b then (K3.trunc m).own b else K.own b)=some (t,n):=ho
    split at ho'
    ·rename_i hb
     obtain ⟨h1,h2⟩:=aJ.trunc_own ho'
     obtain ⟨_,fr,us,T,lo,hh,g1,g2,g3,g4,g5⟩:=hi3.own b t n h1
     have hnb:¬ NB b:=fun e=>by rw [hNO b e] at h1;cases h1
     exact ⟨hM b hb,fr,us,T,lo,hh,by
      rcases hag t _ ((hH1 h2).symm.trans g1) with h | h
      ·cases h
      ·exact h,g2,g3,g4,fun o x hx=>g5 o x (by rw [← imm4 hnb];exact hx)⟩
    ·rename_i hb
     obtain ⟨h0,fr,us,T,lo,hh,g1,g2,g3,g4,g5⟩:=hi.own b t n ho'
     exact ⟨h0,fr,us,T,lo,hh,g1,by rw [hk3.block b hb];exact g2,g3,g4,fun o x hx=>g5 o x (by rw [← (low4 b hb).1 o];exact hx)⟩
   ·have hs':(if NB b then GF w' b else K3.shape b)=some s:=hs
    split at hs'
    ·exact OC hs'
    ·exact hi3.shape b s hs'
  have fzD_ok:∀ (k:Nat) {a a':AV}{x:Value},V K3 a x→fzD k m H' a=some a'→V K4 a' x:=by
   intro k
   induction k with
   |zero=>intro a a' x _ he;cases he
   |succ k ih=>
   intro a a' x hx he
   have other:∀ {a'':AV},V K3 a x→(bif wkb m a then some a else none)=some a''→V K4 a'' x:=fun hx he=>by
    cases hw:wkb m a with
    |false=>rw [hw] at he;cases he
    |true=>rw [hw] at he;cases he;exact vback hx hw
   have two:∀ {rows rows':List (List AV)},Kb (Kb (fzD k m H')) rows=some rows'→rows'.length=rows.length∧(∀ (i:Nat) (r:List AV),rows'[i]?=some r→∃ r0,rows[i]?=some r0∧r.length=r0.length∧∀ (j:Nat) (av:AV),r[j]?=some av→∃ a0,r0[j]?=some a0∧fzD k m H' a0=some av):=fun h=>by
    obtain ⟨g1,g2⟩:=Dh h
    refine ⟨g1,fun i r hr => ?_⟩
    obtain ⟨r0,e1,e2⟩:=g2 i r hr
    obtain ⟨e3,e4⟩:=Dh e2
    exact ⟨r0,e1,e3,e4⟩
   cases hx with
   |rslice id off len esz room b cap hb hcap hro=>
    simp only [fzD] at he
    cases hlt:Nat.blt id m with
    |true=>rw [hlt] at he;cases he
    |false=>
     rw [hlt,cond_false] at he
     have hge:m≤id:=by
      refine Nat.le_of_not_lt fun e => ?_
      rw [← Nat.blt_eq,hlt] at e;cases e
     split at he
     ·rename_i cs T0 hc
      cases hcnd:Nat.ble (off+len*esz) cs.length with
      |false=>rw [hcnd] at he;cases he
      |true=>
       rw [hcnd,cond_true] at he
       have hsz:=Nat.le_of_ble_eq_true hcnd
       split at he
       ·rename_i rows' hrows
        cases he
        obtain ⟨t1,t2⟩:=two hrows
        rw [nT] at t1
        obtain ⟨b2,vs,T2,h1,h2,h3,h4,h5,h6,h7,h8,h9⟩:=hi3.obj _ _ hc
        rw [hb] at h1;cases h1
        have hnb:NB b:=⟨id,_,hge,hc,rfl,hb⟩
        have row:∀ (i j:Nat) (r:List AV) (av:AV),(kS esz len (cs.drop off))[i]?=some r→r[j]?=some av→i<len∧j<esz∧cs[off+i*esz+j]?=some av:=fun i j r av hr hj=>by
         obtain ⟨g1,rfl⟩:=qP esz len (cs.drop off) i r hr
         rw [List.getElem?_take] at hj
         split at hj
         ·rename_i hlt
          rw [List.getElem?_drop,List.getElem?_drop] at hj
          exact ⟨g1,hlt,by rw [← hj];congr 1;omega⟩
         ·cases hj
        have:=V.slice (K:=K4) .any esz rows' b off cap (fun i j=>vs.getD (off+i*esz+j) undef) (fun r hr => ?_) (fun i j r av hr hj => ?_) (fun i j r av hr hj => ?_) (by rw [t1];exact hcap) trivial
        ·rwa [t1] at this
        ·obtain ⟨i,hi1⟩:=List.mem_iff_getElem?.1 hr
         obtain ⟨r0,e1,e2,_⟩:=t2 i r hi1
         obtain ⟨g1,rfl⟩:=qP esz len (cs.drop off) i r0 e1
         have:i*esz+esz≤len*esz:=by rw [← Nat.succ_mul];exact Nat.mul_le_mul_right _ g1
         rw [e2];simp;omega
        ·obtain ⟨r0,e1,_,e3⟩:=t2 i r hr
         obtain ⟨a0,e4,e5⟩:=e3 j av hj
         obtain ⟨g1,g2,g3⟩:=row i j r0 a0 e1 e4
         have hlt:off+i*esz+j<vs.size:=Nat.lt_of_lt_of_le (List.getElem?_eq_some_iff.1 g3).1 h4
         show (if NB b then _ else _)=_
         rw [if_pos hnb,cell_of_heap h3,Array.getElem?_eq_getElem hlt]
         simp [Array.getD,hlt]
        ·obtain ⟨r0,e1,_,e3⟩:=t2 i r hr
         obtain ⟨a0,e4,e5⟩:=e3 j av hj
         obtain ⟨g1,g2,g3⟩:=row i j r0 a0 e1 e4
         exact ih (h5 _ _ g3) e5
       ·cases he
     ·cases he
   |map id b hb=>
    simp only [fzD] at he
    cases hlt:Nat.blt id m with
    |true=>rw [hlt] at he;cases he
    |false=>
     rw [hlt,cond_false] at he
     have hge:m≤id:=by
      refine Nat.le_of_not_lt fun e => ?_
      rw [← Nat.blt_eq,hlt] at e;cases e
     split at he
     ·rename_i es hc
      cases hw:wkbE m es with
      |false=>rw [hw] at he;cases he
      |true=>
       rw [hw] at he;cases he
       obtain ⟨b2,mes,clock,h1,h2,h3,h4,h5,h6⟩:=hi3.obj _ _ hc
       rw [hb] at h1;cases h1
       have hnb:NB b:=⟨id,_,hge,hc,rfl,hb⟩
       refine .vmap es b mes ((if_pos hnb).trans (by simp [GF,h3])) h4 (fun i k v he => ?_) (fun i k v he => ?_)
       ·obtain ⟨e,g1,g2,g3⟩:=h5 i k v he
        rw [show mes.getD i ⟨undef,undef,0⟩=e by simp [Array.getD_eq_getD_getElem?,g1]]
        exact vback g2 (tZ hw he).1
       ·obtain ⟨e,g1,g2,g3⟩:=h5 i k v he
        rw [show mes.getD i ⟨undef,undef,0⟩=e by simp [Array.getD_eq_getD_getElem?,g1]]
        exact vback g3 (tZ hw he).2
     ·cases he
   |slice0 tag esz a h=>
    cases he
    cases tag with
    |nil=>rw [h.2 rfl];exact .slice0 .nil esz none ⟨fun _ e=>(by cases e),fun _=>rfl⟩
    |any=>exact .slice0 .any esz a ⟨fun _ e=>(by cases e),fun e=>(by cases e)⟩
    |full=>exact .slice0 .any esz a ⟨fun _ e=>(by cases e),fun e=>(by cases e)⟩
    |own t=>exact .slice0 .any esz a ⟨fun _ e=>(by cases e),fun e=>(by cases e)⟩
   |sliceAny esz a cap=>cases he;exact .sliceAny esz a cap
   |slice tag esz rows b o cap vs hl him hvv hc ht=>
    simp only [fzD] at he
    split at he
    ·rename_i rows' hrows
     cases he
     obtain ⟨t1,t2⟩:=two hrows
     have htag:tag.fz = .any:=by cases tag<;>first | rfl | exact (ht:False).elim
     have:=V.slice (K:=K4) .any esz rows' b o cap vs (fun r hr => ?_) (fun i j r av hr hj => ?_) (fun i j r av hr hj => ?_) (by rw [t1];exact hc) trivial
     ·rw [htag];rwa [t1] at this
     ·obtain ⟨i,hi1⟩:=List.mem_iff_getElem?.1 hr
      obtain ⟨r0,e1,e2,_⟩:=t2 i r hi1
      rw [e2];exact hl r0 (List.mem_of_getElem? e1)
     ·obtain ⟨r0,e1,_,e3⟩:=t2 i r hr
      obtain ⟨a0,e4,e5⟩:=e3 j av hj
      exact hv4.imm _ _ _ (him i j r0 a0 e1 e4)
     ·obtain ⟨r0,e1,_,e3⟩:=t2 i r hr
      obtain ⟨a0,e4,e5⟩:=e3 j av hj
      exact ih (hvv i j r0 a0 e1 e4) e5
    ·cases he
   |unk=>exact other (.unk _) he
   |bool b=>exact other (.bool b) he
   |int k n=>exact other (.int k n) he
   |str s=>exact other (.str s) he
   |nilp=>exact other .nilp he
   |ptr id off b hb=>exact other (.ptr id off b hb) he
   |vptr esz rows i off b o vs hl hi hv=>exact other (.vptr esz rows i off b o vs hl hi hv) he
   |vmap es b mes hb hl hk hv=>exact other (.vmap es b mes hb hl hk hv) he
   |nilmap=>exact other .nilmap he
   |sdp0 t p=>exact other (.sdp0 t p) he
   |sdp t rows b cap vs htl ho hl hi hv hc=>exact other (.sdp t rows b cap vs htl ho hl hi hv hc) he
   |fn f first captured vs us h1 h2 hv hu=>exact other (.fn f first captured vs us h1 h2 hv hu) he
   |nilfn=>exact other .nilfn he
   |iface t v x hx=>exact other (.iface t v x hx) he
   |nilif=>exact other .nilif he
   |agg cs vs h1 hv=>
    simp only [fzD] at he
    split at he
    ·rename_i cs' hcs
     cases he
     obtain ⟨g1,g2⟩:=Dh hcs
     exact .agg _ _ (g1.trans h1) fun i av h=>by
      obtain ⟨a0,e1,e2⟩:=g2 i av h
      exact ih (hv i a0 e1) e2
    ·cases he
   |tuple cs vs h1 hv=>
    simp only [fzD] at he
    split at he
    ·rename_i cs' hcs
     cases he
     obtain ⟨g1,g2⟩:=Dh hcs
     exact .tuple _ _ (g1.trans h1) fun i av h=>by
      obtain ⟨a0,e1,e2⟩:=g2 i av h
      exact ih (hv i a0 e1) e2
    ·cases he
  refine ⟨K4,.ret v,H2,hle4, ?_,hi4,rfl,rfl⟩
  cases e with
  |panicked c=>exact hend.elim
  |outgrown=>exact hend.elim
  |returned x=>
   have hx:V K3 v0 x:=hend
   show V K4 v x
   exact fzD_ok 12 hx hf
 rcases h K2 w cargs hg hi2 hargs with ⟨h1,h2⟩ | ⟨cv,w',h1,h2⟩
 ·exact .inl ⟨h1,h2.mono back⟩
 ·exact .inr ⟨cv,w',h1,back _ _ h2⟩
end
end Go.Am
end
section
namespace Go.Am
open Go.RowKit
structure B1 (P:Program) (f:FuncId) (e:Array Value→Sem Value):Prop where
 run:∀ (args:Array Value) (w:World),(callFunc f args).run P w=((e args).run P w).andThen fun v w'=>.ok (.value v) w'
theorem B1.of {P:Program}{f:FuncId}{fn:Func}{e:Array Value→Sem Value} (hf:P.funcs[f]?=some fn) (hname:(fn.name == "runtime.NumGoroutine")=false)
  (hb:fn.body.isNone=true) (hn:Extern.findNext fn=none) (he:Extern.find fn=some e):B1 P f e:=⟨fun args w=>run_callFunc_extern hf hname hb hn he args w⟩
section
variable{P:Program}{G:Nat→Option (List AV)}{f:FuncId}{e:Array Value→Sem Value}
theorem B1.calls(h:B1 P f e){args:List AV}{H:List ab}{R:vN→List ab→Prop}
  (hr:∀ (K:aJ) (w:World) (cargs:Array Value),Inv K H w→Vs K args cargs→∃ cv w',(e cargs).run P w = .ok cv w'∧Ir K R (.returned cv) w'):eS P G f args H R:=fun K w cargs _ hi hv=>by
 obtain ⟨cv,w',h1,h2⟩:=hr K w cargs hi hv
 exact .inr ⟨cv,w',by rw [h.run,h1];rfl,h2⟩
theorem R7(h:B1 P f Extern.BytealgCount.count)(s:List UInt8)(c:Int)(H:List ab) :
  eS P G f [.str s,.int .u8 c] H fun r H'=>r = .ret (.int .i64 (Lib.countByte s c.toNat.toUInt8:Nat))∧H'=H:=h.calls fun K w cargs hi hv=>by
 obtain ⟨x,y,rfl,hx,hy⟩:=tW hv
 cases hx;cases hy
 exact ⟨_,_,Lib.run_countString _ _ _,K,.ret (.int .i64 (Lib.countByte s c.toNat.toUInt8:Nat)),H,.refl K,V.int _ _,hi,rfl,rfl⟩
theorem R8(h:B1 P f Extern.BytealgIndexByte.indexByte)(s:List UInt8)(c:Int)(H:List ab) :
  eS P G f [.str s,.int .u8 c] H fun r H'=>r = .ret (.int .i64 (Lib.indexByte s c.toNat.toUInt8))∧H'=H:=h.calls fun K w cargs hi hv=>by
 obtain ⟨x,y,rfl,hx,hy⟩:=tW hv
 cases hx;cases hy
 exact ⟨_,_,Lib.run_indexByteString _ _ _,K,.ret (.int .i64 (Lib.indexByte s c.toNat.toUInt8)),H,.refl K,V.int _ _,hi,rfl,rfl⟩
theorem Ts(h:B1 P f Extern.AbiNoEscape.same)(v:AV)(H:List ab):eS P G f [v] H fun r H'=>r = .ret v∧H'=H:=h.calls fun K w cargs hi hv=>by
 obtain ⟨x,rfl,hx⟩:=Jp hv
 exact ⟨_,_,Lib.run_noEscape _ x,K,.ret v,H,.refl K,hx,hi,rfl,rfl⟩
theorem Qf{ps:Array TypeId}{t e:TypeId}(h:B1 P f (Extern.BytealgMakeNoZero.makeNoZero ps #[t]))(ht:P.underlying t=some (.slice e))(n:Nat)(hn:n≤281474976710656)(H:List ab) :
  eS P G f [.int .i64 n] H fun r H'=>r = .ret (.rslice H.length 0 n 1 true)∧H'=H++[.cells (List.replicate n .unk) e]:=h.calls fun K w cargs hi hv=>by
 obtain ⟨x,rfl,hx⟩:=Jp hv
 cases hx
 obtain ⟨cs,h1,h2,_⟩:=Lib.run_makeNoZero w ps t e ht n hn
 have hi2:=hi.drew.drew
 have hal:=hi2.allocObj (.cells (List.replicate n .unk) e) (.cells cs e) rfl (some (.rows cs.size)) (fun s h=>by cases h;exact ⟨cs,e,(0,0),by rw [heap_alloc,if_pos rfl],rfl⟩) fun w' hw' g1 g2=>
  ⟨w.drew.drew.heap.size,cs,e,by simp [aJ.pushS],hi2.new,hw',by simpa using h2,fun k av hk=>by
   have:=List.mem_replicate.1 (List.mem_of_getElem? hk)
   rw [this.2];exact .unk _,g1,g2,by simp [aJ.pushS],rfl⟩
 refine ⟨_,_,h1,K.pushS w.drew.drew.heap.size (some (.rows cs.size)),.ret (.rslice H.length 0 n 1 true),_,K.le_pushS _ _ hi2.shape_base, ?_,hal,rfl,rfl⟩
 exact V.rslice _ _ _ _ _ _ _ (by simp [aJ.pushS,← hi.len]) h2 (fun _=>⟨cs.size,by simp [aJ.pushS],by omega⟩)
end
def woK(E0:bt)(n:Nat)(f:FuncId)(args:List AV)(H:List ab):Option (AV×List Nat):=
 bif wkbL 0 args then (match E9 UW E0 n f args [] with
  |some (.ret v0,H1)=>match fzV 0 H1 v0 with
   |some v=>some (v,[])
   |none=>none
  |_=>none)
 else bif wkbL H.length args&&H.all (Tq H.length) then (match E9 UW E0 n f args H with
  |some (.ret v0,H1)=>bif Bf H H1 then (match fzV H.length H1 v0 with
   |some v=>some (v,List.range H.length)
   |none=>none) else none
  |_=>none)
 else none
theorem Kc{n:Nat}{l:List AV}(h:wkbL n l=true):∀ a∈l,wkb n a=true:=fun a ha=>by
 obtain ⟨i,hi⟩:=List.mem_iff_getElem?.1 ha
 exact o3 h hi
theorem R9{α:Type}{H H2:List α}(h:∀ i,i<H.length→H2[i]?=H[i]?):H.length≤H2.length:=by
 refine Nat.le_of_not_lt fun e => ?_
 have h1:=h H2.length e
 rw [List.getElem?_eq_none (Nat.le_refl _),List.getElem?_eq_getElem e] at h1
 cases h1
theorem Tt{E0:bt}(h0:E0.Ok)(hG:∀ n g cs,E0.G g=some cs→wkbL n cs=true){n:Nat}{f:FuncId}{args:List AV}{H:List ab}{v:AV}{L:List Nat}(h:woK E0 n f args H=some (v,L)) :
  ∀ H2:List ab,(∀ id∈L,id<H.length→H2[id]?=H[id]?)→eS E0.P E0.G f args H2 fun r H'=>r = .ret v∧H'=H2:=by
 intro H2 hag
 unfold woK at h
 cases hw:wkbL 0 args with
 |true=>
  rw [hw,cond_true] at h
  split at h
  ·rename_i v0 H1 hc
   split at h
   ·rename_i v' hf
    cases h
    exact eS.frame (He:=[]) ((zN h0 n).2 _ _ _ _ _ hc |>.mono fun r H' e=>e) (by simp) hG (Kc hw) (fun x hx=>by simp at hx) hf H2 (by simp) (fun i x hx=>by simp at hx) (fun t fr T ht=>by simp at ht)
   ·cases h
  ·cases h
 |false=>
  rw [hw,cond_false] at h
  cases hw2:wkbL H.length args&&H.all (Tq H.length) with
  |false=>rw [hw2] at h;cases h
  |true=>
   rw [hw2,cond_true] at h
   simp only [Bool.and_eq_true] at hw2
   split at h
   ·rename_i v0 H1 hc
    cases hb:Bf H H1 with
    |false=>rw [hb] at h;cases h
    |true=>
     rw [hb,cond_true] at h
     split at h
     ·rename_i v' hf
      cases h
      exact eS.frame ((zN h0 n).2 _ _ _ _ _ hc |>.mono fun r H' e=>e) (zO hb) hG (Kc hw2.1) (fun x hx=>List.all_eq_true.1 hw2.2 x hx) hf H2 (R9 fun i hi=>hag i (by simpa using hi) hi) (fun i x hx=>.inr ((hag i (by simpa using (List.getElem?_eq_some_iff.1 hx).1) (List.getElem?_eq_some_iff.1 hx).1).trans hx)) (fun t fr T hlt ht=>(hag t (by simpa using hlt) hlt).symm.trans ht)
     ·cases h
   ·cases h
def Kd:List ab→List ab→Bool
 |[],_=>true
 |.dead::_,.tok _ _::_=>false
 |.dead::l,_::m=>Kd l m
 |x::l,y::m=>ab.eqb x y&&Kd l m
 |_,_=>false
theorem Q9:∀ {H H2:List ab},Kd H H2=true→H.length≤H2.length∧(∀ (i:Nat) (x:ab),H[i]?=some x→x = .dead∨H2[i]?=some x) ∧
  (∀ (t fr:Nat) (T:TypeId),t<H.length→H2[t]?=some (.tok fr T)→H[t]?=some (.tok fr T))
 |[],_,_=>⟨by simp,fun i x h=>by simp at h,fun t fr T h=>by simp at h⟩
 |x::l,[],h=>by cases x<;>simp [Kd] at h
 |x::l,y::m,h=>by
  have key:(x = .dead∧∀ fr T,y≠.tok fr T)∨x=y:=by
   cases x<;>cases y<;>simp only [Kd,Bool.and_eq_true] at h<;>first | (cases h;done) | exact .inr (ab.eqb_eq h.1) | exact .inl ⟨rfl,fun _ _ e=>by cases e⟩
  have hr:Kd l m=true:=by
   cases x<;>cases y<;>simp only [Kd,Bool.and_eq_true] at h<;>first | (cases h;done) | exact h.2 | exact h
  obtain ⟨h1,h2,h3⟩:=Q9 hr
  refine ⟨by simpa using h1,fun i z hz => ?_,fun t fr T ht hz => ?_⟩
  ·cases i with
   |zero=>simp at hz;subst hz;rcases key with ⟨h,_⟩ | h
          ·exact .inl h
          ·exact .inr (by simp [h])
   |succ i=>simp at hz;simpa using h2 i z hz
  ·cases t with
   |zero=>simp at hz;subst hz;rcases key with ⟨_,h⟩ | h
          ·exact absurd rfl (h fr T)
          ·simp [h]
   |succ t=>simp at hz ht;simpa using h3 t fr T ht hz
def Mo(E0:bt)(n:Nat)(f:FuncId)(args:List AV)(H:List ab):Option AV:=
 bif wkbL H.length args&&H.all (Tq H.length) then (match E9 UW E0 n f args H with
  |some (.ret v0,H1)=>bif Bf H H1 then fzV H.length H1 v0 else none
  |_=>none)
 else none
theorem OD{E0:bt}(h0:E0.Ok)(hG:∀ n g cs,E0.G g=some cs→wkbL n cs=true){n:Nat}{f:FuncId}{args:List AV}{He:List ab}{v:AV}
  (h:Mo E0 n f args He=some v) {H2:List ab} (hb:Kd He H2=true):eS E0.P E0.G f args H2 fun r H'=>r = .ret v∧H'=H2:=by
 unfold Mo at h
 cases hw2:wkbL He.length args&&He.all (Tq He.length) with
 |false=>rw [hw2] at h;cases h
 |true=>
  rw [hw2,cond_true] at h
  simp only [Bool.and_eq_true] at hw2
  split at h
  ·rename_i v0 H1 hc
   cases hb2:Bf He H1 with
   |false=>rw [hb2] at h;cases h
   |true=>
    rw [hb2,cond_true] at h
    obtain ⟨h1,h2,h3⟩:=Q9 hb
    exact eS.frame ((zN h0 n).2 _ _ _ _ _ hc |>.mono fun r H' e=>e) (zO hb2) hG (Kc hw2.1) (fun x hx=>List.all_eq_true.1 hw2.2 x hx) h H2 h1 h2 h3
  ·cases h
end Go.Am
end
section
namespace Go.Am
def aa(P:Program)(G:Nat→Option (List AV))(f:FuncId)(af:AFn):Prop:=S3 P G af.muts f=some (af.c.strip,af.n,af.res,af.dfr.map fun x=>(x.1,x.2.1,x.2.2.strip))
def AFn.k(a:AFn):AFn:=⟨a.c.strip,a.n,a.res,.keep,a.muts,none⟩
def Ra(P:Program)(G:Nat→Option (List AV))(f:FuncId)(x:Nat×AFn):Prop:=Om P G f=some (x.1,x.2.c.strip,x.2.n,x.2.res)∧x.2.dfr=none
theorem ag{α:Type}{C:Nat→α→Prop}{f k:Nat}{a af:α}(hc:C k a)(h:(bif Nat.beq f k then some a else none)=some af):C f af:=by
 cases hb:Nat.beq f k with
 |false=>rw [hb] at h;cases h
 |true=>rw [hb] at h;cases h;rw [Nat.eq_of_beq_eq_true hb];exact hc
theorem ah{α:Type}{C:Prop}{b:Bool}{x y:Option α}{af:α}(h1:x=some af→C)(h2:y=some af→C)(h:(bif b then x else y)=some af):C:=by
 cases b
 ·exact h2 h
 ·exact h1 h
end Go.Am
end
section
namespace Go.Am
structure rX where
 f:FuncId
 args:List AV
 heap:List ab
 v:AV
def dd(n:Nat)(l:List ab):List ab:=List.replicate n .dead++l
def Rb(f:FuncId)(args:List AV)(H:List ab):List rX→Option AV
 |[]=>none
 |p::ps=>bif Nat.beq f p.f&&AV.eqbL args p.args&&Kd p.heap H then some p.v else Rb f args H ps
def pin(f:FuncId):List rX→Bool
 |[]=>false
 |p::ps=>bif Nat.beq f p.f then true else pin f ps
def rX.Ok(P:Program)(G:Nat→Option (List AV))(p:rX):Prop:=∀ H2,Kd p.heap H2=true→eS P G p.f p.args H2 fun r H'=>r = .ret p.v∧H'=H2
def W3(E0:bt):bt := { E0 with wo:=woK E0 100000 }
def Wp(E0:bt)(ps:List rX)(f:FuncId)(args:List AV)(H:List ab):Option Out:=
 match Rb f args H ps with
 |some v=>some (.ret v,H)
 |none=>bif pin f ps then E9 UW (W3 E0) 100000 f args H else E0.orc f args H
def EPo(E0:bt)(ps:List rX):bt := { E0 with fn:=fun f=>bif pin f ps then none else E0.fn f,orc:=Wp E0 ps }
def EP(E0:bt)(ps:List rX):bt := { EPo E0 ps with wo:=woK (EPo E0 ps) 100000 }
theorem OE{P:Program}{G:Nat→Option (List AV)}{f:FuncId}{args:List AV}{H:List ab}{v:AV}:∀ {ps:List rX},(∀ p∈ps,p.Ok P G)→Rb f args H ps=some v→eS P G f args H fun r H'=>r = .ret v∧H'=H
 |[],_,h=>by cases h
 |p::ps,hp,h=>by
  unfold Rb at h
  cases hb:(Nat.beq f p.f&&AV.eqbL args p.args&&Kd p.heap H) with
  |true=>
   rw [hb] at h;cases h
   simp only [Bool.and_eq_true] at hb
   rw [Nat.eq_of_beq_eq_true hb.1.1,AV.eqbL_eq hb.1.2]
   exact hp p (by simp) H hb.2
  |false=>rw [hb] at h;exact OE (fun q hq=>hp q (by simp [hq])) h
section
variable{E0:bt}(h0:E0.Ok)(hG:∀ n g cs,E0.G g=some cs→wkbL n cs=true)
include h0 hG in
theorem U5:(W3 E0).Ok:=⟨h0.mixed,h0.fn,h0.dfn,fun _ _ _ _ _ h=>Tt h0 hG h,h0.orc⟩
include h0 hG in
theorem Wq{ps:List rX}(hp:∀ p∈ps,p.Ok E0.P E0.G)(hw:∀ f args H,E0.wo f args H=none):(EPo E0 ps).Ok:=⟨h0.mixed,fun f af h=>by
  have h':(bif pin f ps then none else E0.fn f)=some af:=h
  cases hb:pin f ps with
  |true=>rw [hb] at h';cases h'
  |false=>rw [hb] at h';exact h0.fn f af h',h0.dfn,(fun f args H v L h=>by
  have h':E0.wo f args H=some (v,L):=h
  rw [hw] at h';cases h'),fun f args H r H' h=>by
  have h':Wp E0 ps f args H=some (r,H'):=h
  unfold Wp at h'
  split at h'
  ·rename_i v hv
   cases h'
   exact OE hp hv
  ·cases hb:pin f ps with
   |true=>
    rw [hb] at h'
    exact ((zN (U5 h0 hG) 100000).2 _ _ _ _ _ h').mono fun r H' e=>e
   |false=>rw [hb] at h';exact h0.orc _ _ _ _ _ h'⟩
include h0 hG in
theorem VU{ps:List rX}(hp:∀ p∈ps,p.Ok E0.P E0.G)(hw:∀ f args H,E0.wo f args H=none):(EP E0 ps).Ok:=
 have h:=Wq h0 hG hp hw
 ⟨h.mixed,h.fn,h.dfn,fun _ _ _ _ _ e=>Tt h hG e,h.orc⟩
include h0 hG in
theorem Di{ps:List rX}(hp:∀ p∈ps,p.Ok E0.P E0.G)(hw:∀ f args H,E0.wo f args H=none){p:rX}(h:Mo (EP E0 ps) 100000 p.f p.args p.heap=some p.v):∀ q∈p::ps,q.Ok E0.P E0.G:=fun q hq=>by
 rcases List.mem_cons.1 hq with rfl | hq
 ·exact fun H2 hs=>OD (VU h0 hG hp hw) hG h hs
 ·exact hp q hq
end
end Go.Am
end
section
namespace Go.Am
open Go.RowKit Go.ChangeShapes
def aJ.start(W:World)(G:Nat→Option (List AV)):aJ:=
 {imm:=fun b o=>W.cell? ⟨b,o,none⟩,own:=fun _=>none,loc:=[],base:=fun b=>W.heap.size≤b,w0:=W,glob:=G,shape:=GF W }
theorem Inv.start(W:World)(G:Nat→Option (List AV))(hG:∀ (g:Nat) (cs:List AV),G g=some cs→V (aJ.start W G) (.vptr cs.length [cs] 0 0) (.pointer (some ⟨g,0,none⟩))):Inv (aJ.start W G) [] W:=
 ⟨tT.refl _ _,fun _ h=>h,fun _ _ _ h=>h,rfl,(fun id x h=>by simp at h),(fun i j x y h=>by simp at h),(fun b t n h=>by cases h),hG,fun b s h=>OC h⟩
section
variable{P:Program}
theorem Sa{G:Nat→Option (List AV)}{f:FuncId}{args:List AV}{W:World}{cargs:Array Value}(h:eS P G f args [] fun r H'=>r = .ret (.bool true)∧H'=[])
  (hG:∀ (g:Nat) (cs:List AV),G g=some cs→V (aJ.start W G) (.vptr cs.length [cs] 0 0) (.pointer (some ⟨g,0,none⟩)))
  (hb:(callFunc f cargs).run P W = .ok (.enter f cargs) W) (hv:Vs (aJ.start W G) args cargs):Calls P f cargs W fun e w'=>e = .returned (.bool true)∧Below W.heap.size W w':=by
 rcases h (aJ.start W G) W cargs rfl (Inv.start W G hG) hv with ⟨_,h2⟩ | ⟨cv,w',h1,_⟩
 ·refine h2.mono ?_
  rintro e w' ⟨K',r,H',hk,he,hi,rfl,rfl⟩
  have hkept:=hi.below
  rw [hk.base,hk.w0] at hkept
  refine ⟨?_,hkept.below fun b hb=>hb⟩
  cases e with
  |panicked c=>exact he.elim
  |outgrown=>exact he.elim
  |returned x=>
   have hx:V K' (.bool true) x:=he
   cases hx;rfl
 ·rw [hb] at h1;cases h1
theorem Fa{H:Type}{enc:TypeId×Value→H}(hl:laidOutB P=true){W W':World}(hb:Below W.heap.size W W'):∀ (ts:List TypeId) (vs:List Value) (ds:List (DataW H)) (ps:List MemPlace),
  (∀ t∈ts,P.readableRec t=true∧t<P.types.size)→DataW.TrodAll enc P W 0 (fun _=>true) true ts vs ds ps→(∀ x∈ps,x.block<W.heap.size) →
  DataW.TrodAll enc P W' 0 (fun b=>decide (b<W.heap.size)) true ts vs ds ps
 |[],_,_,_,_,h,_=>by
  obtain ⟨rfl,rfl,rfl⟩:=trodAll_nil h
  rfl
 |t::ts,_,_,_,hr,h,hlt=>by
  obtain ⟨v,vs1,d,ds1,a,b,rfl,rfl,rfl,h1,h2⟩:=trodAll_cons h
  exact ⟨a,b,Below.trod hl (hr t (by simp)).1 (hr t (by simp)).2 h1 hb (fun x hx=>hlt x (by simp [hx])),Fa hl hb ts vs1 ds1 b (fun u hu=>hr u (by simp [hu])) h2 (fun x hx=>hlt x (by simp [hx])),rfl⟩
end
end Go.Am
end
section
namespace Go.Am.Sh
open Go.RowKit
abbrev t(n:Nat):RX:=.t n
abbrev i(n:Int):RX:=.c (.int .i64 n)
abbrev u(n:Int):RX:=.c (.int .u8 n)
abbrev T:RX:=.c (.bool true)
abbrev F:RX:=.c (.bool false)
abbrev s(x:List UInt8):RX:=.c (.str x)
abbrev f(n:Nat):RX:=.c (.fn (.func n) [] [])
abbrev o(d:Nat)(x:ROp):RO:=⟨some d,none,.op x⟩
abbrev n(x:ROp):RO:=⟨none,none,.op x⟩
abbrev g(d q:Nat)(x:ROp):RO:=⟨some d,some (q,true),.op x⟩
abbrev h(d q:Nat)(x:ROp):RO:=⟨some d,some (q,false),.op x⟩
abbrev k(d:Nat)(x:RX)(l:List RX):RO:=⟨some d,none,.call x l⟩
abbrev m(d x:Nat):RO:=⟨some d,none,.op (.mv (.t x))⟩
abbrev mc(d:Nat)(x:RX):RO:=⟨some d,none,.op (.mv x)⟩
abbrev ld(d x:Nat):RO:=⟨some d,none,.op (.ld none (.t x))⟩
abbrev la(d j x:Nat):RO:=⟨some d,none,.op (.ld (some j) (.t x))⟩
abbrev fa(d j x:Nat):RO:=⟨some d,none,.op (.fa j (.t x))⟩
abbrev ia(d j x y:Nat):RO:=⟨some d,none,.op (.ias j (.t x) (.t y))⟩
abbrev ls(d x:Nat):RO:=⟨some d,none,.op (.len .sl (.t x))⟩
abbrev lt(d x:Nat):RO:=⟨some d,none,.op (.len .str (.t x))⟩
abbrev ad(d x:Nat):RO:=⟨some d,none,.op (.ar .add (.t x) (.c (.int .i64 1)))⟩
abbrev bl(d x y:Nat):RO:=⟨some d,none,.op (.ar .lss (.t x) (.t y))⟩
abbrev no(d x:Nat):RO:=⟨some d,none,.op (.un .not (.t x))⟩
abbrev ex(d x j:Nat):RO:=⟨some d,none,.op (.ex (.t x) j)⟩
abbrev P(x:RO):RO×Cl:=(x,.pure)
abbrev W(x:RO):RO×Cl:=(x,.wide)
abbrev E(x:RO):RO×Cl:=(x,.eff)
abbrev K(x:RO):RO×Cl:=(x,.keep)
abbrev Q(x y:AC):AC:=.seq x y
abbrev C(c:Nat)(x y:AC):AC:=.cond (.t c) x y
abbrev O(l:List RO):AC:=.ops l
abbrev D(l:List (RO×Cl)):AC:=.dops false [] [] l
abbrev Y(l:List Nat):AC:=.lv l
abbrev R:AC:=.ret
abbrev X:AC:=.skip
end Go.Am.Sh
end
section
set_option linter.defProp false
namespace Go.Am
open Go.RowKit
abbrev Str:=List UInt8
abbrev bE:Nat:=9223372036854775807
def I64(n:Int):Prop := -9223372036854775808≤n∧n≤9223372036854775807
structure Sl (α:Type) where
 tag:Tag
 l:List α
def Tag.strip:Tag→Tag
 |.own _=>.any
 |t=>t
def Sl.strip{α:Type}(s:Sl α):Sl α:=⟨s.tag.strip,s.l⟩
theorem yo(t:Tag)(n:Nat)(r:List (List AV)):AV.strip (.slice t n r) = .slice t.strip n r:=by cases t<;>rfl
theorem jN:(∀ (t:Tag) (n:Nat) (r:List (List AV)),AV.strip (.slice t n r) = .slice t.strip n r)∧(∀ (x:AV) (l:List AV),List.map AV.strip (x::l)=AV.strip x::List.map AV.strip l)∧List.map AV.strip []=[]∧(∀ a b:List AV,List.map AV.strip (a++b)=List.map AV.strip a++List.map AV.strip b):=
 ⟨yo,fun _ _=>rfl,rfl,fun _ _=>List.map_append⟩
structure Sl.ok {α:Type} (s:Sl α) (n:Nat) (p:α→Prop):Prop where
 tag:qa n s.tag
 len:s.l.length≤bE
 all:∀ x∈s.l,p x
theorem qa.mono{n m:Nat}{t:Tag}(h:qa n t)(hn:n≤m):qa m t:=by
 cases t<;>first | trivial | exact Nat.lt_of_lt_of_le h hn
theorem Sl.ok.mono{α:Type}{s:Sl α}{n m:Nat}{p q:α→Prop}(h:s.ok n p)(hn:n≤m)(hp:∀ x,p x→q x):s.ok m q:=
 ⟨h.tag.mono hn,h.len,fun x hx=>hp x (h.all x hx)⟩
theorem Sl.ok.wk{α:Type}{s:Sl α}{n esz:Nat}{p:α→Prop}{row:α→List AV}(h:s.ok n p)(hr:∀ x,p x→WkL n (row x) (row x)):Wk n (.slice s.tag esz (s.l.map row)) (.slice s.tag esz (s.l.map row)):=
 wk_slice h.tag (by rw [rowsWk_map];exact fun x hx=>hr x (h.all x hx))
theorem Ke{n:Nat}:∀ {a b c d:List AV},WkL n a b→WkL n c d→WkL n (a++c) (b++d)
 |[],[],_,_,_,h=>h
 |_::_,_::_,_,_,h,h'=>⟨h.1,Ke h.2 h'⟩
 |[],_::_,_,_,h,_=>h.elim
 |_::_,[],_,_,h,_=>h.elim
def kV(s:Str):List AV:=[.str s]
def Tu(n:Int):List AV:=[.int .i64 n]
theorem Tv:(∀ s:Str,cD none (kV s) 0=some (.str s))∧(∀ n:Int,cD none (Tu n) 0=some (.int .i64 n)):=⟨fun _=>rfl,fun _=>rfl⟩
structure au where
 name:Str
 value:Str
def au.row(x:au):List AV:=[.str x.name,.str x.value]
theorem yp:(∀ x:au,o2 2 (au.row x)=some (au.row x))∧(∀ x:au,cD none (au.row x) 0=some (.str x.name))∧(∀ x:au,cD none (au.row x) 1=some (.str x.value))∧(∀ x:au,(au.row x).length=2)∧(∀ x:au,(au.row x).all AV.cell=true)∧(∀ x:au,∀ c0 c1:AV,aO [c0,c1] 0 (au.row x)=au.row x)∧(∀ x:au,∀ y:au,aO (au.row y) 0 (au.row x)=au.row x)∧(∀ x:au,∀ (y:Str),aO (au.row x) 0 [.str y]=au.row { x with name:=y })∧(∀ x:au,∀ (y:Str),aO (au.row x) 1 [.str y]=au.row { x with value:=y })∧(∀ x:au,(au.row x).map AV.strip=au.row x)∧(∀ x:au,(au.row x).take 2=au.row x)∧(∀ x:au,(au.row x).drop 2=[]):=
 by refine ⟨?_, ?_, ?_, ?_, ?_, ?_, ?_, ?_, ?_, ?_, ?_, ?_⟩<;>(intros;first | rfl | (simp only [au.row];rfl) | (simp only [au.row,jN];rfl))
structure au.ok (n:Nat) (x:au):Prop where
 name:x.name.length≤bE
 value:x.value.length≤bE
theorem au.ok.mono{n m:Nat}{x:au}(h:x.ok n)(hn:n≤m):x.ok m:=⟨h.name,h.value⟩
theorem au.ok.wk{n:Nat}{x:au}(h:x.ok n):WkL n x.row x.row:=⟨wk_str _ _,wk_str _ _,trivial⟩
structure bF where
 name:Str
 values:Sl Str
def bF.row(x:bF):List AV:=[.str x.name,.slice x.values.tag 1 (x.values.l.map kV)]
def bF.strip(x:bF):bF := { x with values:=x.values.strip }
theorem uC:(∀ x:bF,o2 2 (bF.row x)=some (bF.row x))∧(∀ x:bF,cD none (bF.row x) 0=some (.str x.name))∧(∀ x:bF,cD none (bF.row x) 1=some (.slice x.values.tag 1 (x.values.l.map kV)))∧(∀ x:bF,(bF.row x).length=2)∧(∀ x:bF,(bF.row x).all AV.cell=true)∧(∀ x:bF,∀ c0 c1:AV,aO [c0,c1] 0 (bF.row x)=bF.row x)∧(∀ x:bF,∀ y:bF,aO (bF.row y) 0 (bF.row x)=bF.row x)∧(∀ x:bF,∀ (y:Str),aO (bF.row x) 0 [.str y]=bF.row { x with name:=y })∧(∀ x:bF,∀ (t:Tag) (l:List Str),aO (bF.row x) 1 [.slice t 1 (l.map kV)]=bF.row { x with values:=⟨t,l⟩ })∧(∀ x:bF,(bF.row x).map AV.strip=bF.row x.strip)∧(∀ x:bF,(bF.row x).take 2=bF.row x)∧(∀ x:bF,(bF.row x).drop 2=[]):=
 by refine ⟨?_, ?_, ?_, ?_, ?_, ?_, ?_, ?_, ?_, ?_, ?_, ?_⟩<;>(intros;first | rfl | (simp only [bF.row];rfl) | (simp only [bF.row,jN];rfl))
structure bF.ok (n:Nat) (x:bF):Prop where
 name:x.name.length≤bE
 values:x.values.ok n (fun s=>s.length≤bE)
theorem bF.ok.mono{n m:Nat}{x:bF}(h:x.ok n)(hn:n≤m):x.ok m:=⟨h.name,h.values.mono hn (fun _ h=>h)⟩
theorem bF.ok.wk{n:Nat}{x:bF}(h:x.ok n):WkL n x.row x.row:=⟨wk_str _ _,h.values.wk (fun _ _=>⟨wk_str _ _,trivial⟩),trivial⟩
structure bB where
 cut:Int
 pre:Str
 add:Str
 feats:Sl au
def bB.row(x:bB):List AV:=[.int .i64 x.cut,.str x.pre,.str x.add,.slice x.feats.tag 2 (x.feats.l.map au.row)]
def bB.strip(x:bB):bB := { x with feats:=x.feats.strip }
theorem o4:(∀ x:bB,o2 4 (bB.row x)=some (bB.row x))∧(∀ x:bB,cD none (bB.row x) 0=some (.int .i64 x.cut))∧(∀ x:bB,cD none (bB.row x) 1=some (.str x.pre))∧(∀ x:bB,cD none (bB.row x) 2=some (.str x.add))∧(∀ x:bB,cD none (bB.row x) 3=some (.slice x.feats.tag 2 (x.feats.l.map au.row)))∧(∀ x:bB,(bB.row x).length=4)∧(∀ x:bB,(bB.row x).all AV.cell=true)∧(∀ x:bB,∀ c0 c1 c2 c3:AV,aO [c0,c1,c2,c3] 0 (bB.row x)=bB.row x)∧(∀ x:bB,∀ y:bB,aO (bB.row y) 0 (bB.row x)=bB.row x)∧(∀ x:bB,∀ (y:Int),aO (bB.row x) 0 [.int .i64 y]=bB.row { x with cut:=y })∧(∀ x:bB,∀ (y:Str),aO (bB.row x) 1 [.str y]=bB.row { x with pre:=y })∧(∀ x:bB,∀ (y:Str),aO (bB.row x) 2 [.str y]=bB.row { x with add:=y })∧(∀ x:bB,∀ (t:Tag) (l:List au),aO (bB.row x) 3 [.slice t 2 (l.map au.row)]=bB.row { x with feats:=⟨t,l⟩ })∧(∀ x:bB,(bB.row x).map AV.strip=bB.row x.strip)∧(∀ x:bB,(bB.row x).take 4=bB.row x)∧(∀ x:bB,(bB.row x).drop 4=[]):=
 by refine ⟨?_, ?_, ?_, ?_, ?_, ?_, ?_, ?_, ?_, ?_, ?_, ?_, ?_, ?_, ?_, ?_⟩<;>(intros;first | rfl | (simp only [bB.row];rfl) | (simp only [bB.row,jN];rfl))
structure bB.ok (n:Nat) (x:bB):Prop where
 cut:I64 x.cut
 pre:x.pre.length≤bE
 add:x.add.length≤bE
 feats:x.feats.ok n (au.ok n)
theorem bB.ok.mono{n m:Nat}{x:bB}(h:x.ok n)(hn:n≤m):x.ok m:=⟨h.cut,h.pre,h.add,h.feats.mono hn (fun _ h=>h.mono hn)⟩
theorem bB.ok.wk{n:Nat}{x:bB}(h:x.ok n):WkL n x.row x.row:=⟨wk_int _ _ _,wk_str _ _,wk_str _ _,h.feats.wk (fun _ h=>h.wk),trivial⟩
structure a8 where
 name:Str
 slots:Sl bB
def a8.row(x:a8):List AV:=[.str x.name,.slice x.slots.tag 4 (x.slots.l.map bB.row)]
def a8.strip(x:a8):a8 := { x with slots:=x.slots.strip }
theorem ko:(∀ x:a8,o2 2 (a8.row x)=some (a8.row x))∧(∀ x:a8,cD none (a8.row x) 0=some (.str x.name))∧(∀ x:a8,cD none (a8.row x) 1=some (.slice x.slots.tag 4 (x.slots.l.map bB.row)))∧(∀ x:a8,(a8.row x).length=2)∧(∀ x:a8,(a8.row x).all AV.cell=true)∧(∀ x:a8,∀ c0 c1:AV,aO [c0,c1] 0 (a8.row x)=a8.row x)∧(∀ x:a8,∀ y:a8,aO (a8.row y) 0 (a8.row x)=a8.row x)∧(∀ x:a8,∀ (y:Str),aO (a8.row x) 0 [.str y]=a8.row { x with name:=y })∧(∀ x:a8,∀ (t:Tag) (l:List bB),aO (a8.row x) 1 [.slice t 4 (l.map bB.row)]=a8.row { x with slots:=⟨t,l⟩ })∧(∀ x:a8,(a8.row x).map AV.strip=a8.row x.strip)∧(∀ x:a8,(a8.row x).take 2=a8.row x)∧(∀ x:a8,(a8.row x).drop 2=[]):=
 by refine ⟨?_, ?_, ?_, ?_, ?_, ?_, ?_, ?_, ?_, ?_, ?_, ?_⟩<;>(intros;first | rfl | (simp only [a8.row];rfl) | (simp only [a8.row,jN];rfl))
structure a8.ok (n:Nat) (x:a8):Prop where
 name:x.name.length≤bE
 slots:x.slots.ok n (bB.ok n)
theorem a8.ok.mono{n m:Nat}{x:a8}(h:x.ok n)(hn:n≤m):x.ok m:=⟨h.name,h.slots.mono hn (fun _ h=>h.mono hn)⟩
theorem a8.ok.wk{n:Nat}{x:a8}(h:x.ok n):WkL n x.row x.row:=⟨wk_str _ _,h.slots.wk (fun _ h=>h.wk),trivial⟩
structure bW where
 slot:Int
 word:Str
def bW.row(x:bW):List AV:=[.int .i64 x.slot,.str x.word]
theorem HF:(∀ x:bW,o2 2 (bW.row x)=some (bW.row x))∧(∀ x:bW,cD none (bW.row x) 0=some (.int .i64 x.slot))∧(∀ x:bW,cD none (bW.row x) 1=some (.str x.word))∧(∀ x:bW,(bW.row x).length=2)∧(∀ x:bW,(bW.row x).all AV.cell=true)∧(∀ x:bW,∀ c0 c1:AV,aO [c0,c1] 0 (bW.row x)=bW.row x)∧(∀ x:bW,∀ y:bW,aO (bW.row y) 0 (bW.row x)=bW.row x)∧(∀ x:bW,∀ (y:Int),aO (bW.row x) 0 [.int .i64 y]=bW.row { x with slot:=y })∧(∀ x:bW,∀ (y:Str),aO (bW.row x) 1 [.str y]=bW.row { x with word:=y })∧(∀ x:bW,(bW.row x).map AV.strip=bW.row x)∧(∀ x:bW,(bW.row x).take 2=bW.row x)∧(∀ x:bW,(bW.row x).drop 2=[]):=
 by refine ⟨?_, ?_, ?_, ?_, ?_, ?_, ?_, ?_, ?_, ?_, ?_, ?_⟩<;>(intros;first | rfl | (simp only [bW.row];rfl) | (simp only [bW.row,jN];rfl))
structure bW.ok (n:Nat) (x:bW):Prop where
 slot:I64 x.slot
 word:x.word.length≤bE
theorem bW.ok.mono{n m:Nat}{x:bW}(h:x.ok n)(hn:n≤m):x.ok m:=⟨h.slot,h.word⟩
theorem bW.ok.wk{n:Nat}{x:bW}(h:x.ok n):WkL n x.row x.row:=⟨wk_int _ _ _,wk_str _ _,trivial⟩
structure aK where
 lem:Str
 cls:Str
 feats:Sl au
 forms:Sl bW
def aK.row(x:aK):List AV:=[.str x.lem,.str x.cls,.slice x.feats.tag 2 (x.feats.l.map au.row),.slice x.forms.tag 2 (x.forms.l.map bW.row)]
def aK.strip(x:aK):aK := { x with feats:=x.feats.strip,forms:=x.forms.strip }
theorem gS:(∀ x:aK,o2 4 (aK.row x)=some (aK.row x))∧(∀ x:aK,cD none (aK.row x) 0=some (.str x.lem))∧(∀ x:aK,cD none (aK.row x) 1=some (.str x.cls))∧(∀ x:aK,cD none (aK.row x) 2=some (.slice x.feats.tag 2 (x.feats.l.map au.row)))∧(∀ x:aK,cD none (aK.row x) 3=some (.slice x.forms.tag 2 (x.forms.l.map bW.row)))∧(∀ x:aK,(aK.row x).length=4)∧(∀ x:aK,(aK.row x).all AV.cell=true)∧(∀ x:aK,∀ c0 c1 c2 c3:AV,aO [c0,c1,c2,c3] 0 (aK.row x)=aK.row x)∧(∀ x:aK,∀ y:aK,aO (aK.row y) 0 (aK.row x)=aK.row x)∧(∀ x:aK,∀ (y:Str),aO (aK.row x) 0 [.str y]=aK.row { x with lem:=y })∧(∀ x:aK,∀ (y:Str),aO (aK.row x) 1 [.str y]=aK.row { x with cls:=y })∧(∀ x:aK,∀ (t:Tag) (l:List au),aO (aK.row x) 2 [.slice t 2 (l.map au.row)]=aK.row { x with feats:=⟨t,l⟩ })∧(∀ x:aK,∀ (t:Tag) (l:List bW),aO (aK.row x) 3 [.slice t 2 (l.map bW.row)]=aK.row { x with forms:=⟨t,l⟩ })∧(∀ x:aK,(aK.row x).map AV.strip=aK.row x.strip)∧(∀ x:aK,(aK.row x).take 4=aK.row x)∧(∀ x:aK,(aK.row x).drop 4=[]):=
 by refine ⟨?_, ?_, ?_, ?_, ?_, ?_, ?_, ?_, ?_, ?_, ?_, ?_, ?_, ?_, ?_, ?_⟩<;>(intros;first | rfl | (simp only [aK.row];rfl) | (simp only [aK.row,jN];rfl))
structure aK.ok (n:Nat) (x:aK):Prop where
 lem:x.lem.length≤bE
 cls:x.cls.length≤bE
 feats:x.feats.ok n (au.ok n)
 forms:x.forms.ok n (bW.ok n)
theorem aK.ok.mono{n m:Nat}{x:aK}(h:x.ok n)(hn:n≤m):x.ok m:=⟨h.lem,h.cls,h.feats.mono hn (fun _ h=>h.mono hn),h.forms.mono hn (fun _ h=>h.mono hn)⟩
theorem aK.ok.wk{n:Nat}{x:aK}(h:x.ok n):WkL n x.row x.row:=⟨wk_str _ _,wk_str _ _,h.feats.wk (fun _ h=>h.wk),h.forms.wk (fun _ h=>h.wk),trivial⟩
structure bz where
 frm:Str
 to:Str
 left:Str
 right:Str
def bz.row(x:bz):List AV:=[.str x.frm,.str x.to,.str x.left,.str x.right]
theorem yA:(∀ x:bz,o2 4 (bz.row x)=some (bz.row x))∧(∀ x:bz,cD none (bz.row x) 0=some (.str x.frm))∧(∀ x:bz,cD none (bz.row x) 1=some (.str x.to))∧(∀ x:bz,cD none (bz.row x) 2=some (.str x.left))∧(∀ x:bz,cD none (bz.row x) 3=some (.str x.right))∧(∀ x:bz,(bz.row x).length=4)∧(∀ x:bz,(bz.row x).all AV.cell=true)∧(∀ x:bz,∀ c0 c1 c2 c3:AV,aO [c0,c1,c2,c3] 0 (bz.row x)=bz.row x)∧(∀ x:bz,∀ y:bz,aO (bz.row y) 0 (bz.row x)=bz.row x)∧(∀ x:bz,∀ (y:Str),aO (bz.row x) 0 [.str y]=bz.row { x with frm:=y })∧(∀ x:bz,∀ (y:Str),aO (bz.row x) 1 [.str y]=bz.row { x with to:=y })∧(∀ x:bz,∀ (y:Str),aO (bz.row x) 2 [.str y]=bz.row { x with left:=y })∧(∀ x:bz,∀ (y:Str),aO (bz.row x) 3 [.str y]=bz.row { x with right:=y })∧(∀ x:bz,(bz.row x).map AV.strip=bz.row x)∧(∀ x:bz,(bz.row x).take 4=bz.row x)∧(∀ x:bz,(bz.row x).drop 4=[]):=
 by refine ⟨?_, ?_, ?_, ?_, ?_, ?_, ?_, ?_, ?_, ?_, ?_, ?_, ?_, ?_, ?_, ?_⟩<;>(intros;first | rfl | (simp only [bz.row];rfl) | (simp only [bz.row,jN];rfl))
structure bz.ok (n:Nat) (x:bz):Prop where
 frm:x.frm.length≤bE
 to:x.to.length≤bE
 left:x.left.length≤bE
 right:x.right.length≤bE
theorem bz.ok.mono{n m:Nat}{x:bz}(h:x.ok n)(hn:n≤m):x.ok m:=⟨h.frm,h.to,h.left,h.right⟩
theorem bz.ok.wk{n:Nat}{x:bz}(h:x.ok n):WkL n x.row x.row:=⟨wk_str _ _,wk_str _ _,wk_str _ _,wk_str _ _,trivial⟩
structure dH where
 cls:Str
 glue:Str
 feats:Sl au
def dH.row(x:dH):List AV:=[.str x.cls,.str x.glue,.slice x.feats.tag 2 (x.feats.l.map au.row)]
def dH.strip(x:dH):dH := { x with feats:=x.feats.strip }
theorem Fb:(∀ x:dH,o2 3 (dH.row x)=some (dH.row x))∧(∀ x:dH,cD none (dH.row x) 0=some (.str x.cls))∧(∀ x:dH,cD none (dH.row x) 1=some (.str x.glue))∧(∀ x:dH,cD none (dH.row x) 2=some (.slice x.feats.tag 2 (x.feats.l.map au.row)))∧(∀ x:dH,(dH.row x).length=3)∧(∀ x:dH,(dH.row x).all AV.cell=true)∧(∀ x:dH,∀ c0 c1 c2:AV,aO [c0,c1,c2] 0 (dH.row x)=dH.row x)∧(∀ x:dH,∀ y:dH,aO (dH.row y) 0 (dH.row x)=dH.row x)∧(∀ x:dH,∀ (y:Str),aO (dH.row x) 0 [.str y]=dH.row { x with cls:=y })∧(∀ x:dH,∀ (y:Str),aO (dH.row x) 1 [.str y]=dH.row { x with glue:=y })∧(∀ x:dH,∀ (t:Tag) (l:List au),aO (dH.row x) 2 [.slice t 2 (l.map au.row)]=dH.row { x with feats:=⟨t,l⟩ })∧(∀ x:dH,(dH.row x).map AV.strip=dH.row x.strip)∧(∀ x:dH,(dH.row x).take 3=dH.row x)∧(∀ x:dH,(dH.row x).drop 3=[]):=
 by refine ⟨?_, ?_, ?_, ?_, ?_, ?_, ?_, ?_, ?_, ?_, ?_, ?_, ?_, ?_⟩<;>(intros;first | rfl | (simp only [dH.row];rfl) | (simp only [dH.row,jN];rfl))
structure dH.ok (n:Nat) (x:dH):Prop where
 cls:x.cls.length≤bE
 glue:x.glue.length≤bE
 feats:x.feats.ok n (au.ok n)
theorem dH.ok.mono{n m:Nat}{x:dH}(h:x.ok n)(hn:n≤m):x.ok m:=⟨h.cls,h.glue,h.feats.mono hn (fun _ h=>h.mono hn)⟩
theorem dH.ok.wk{n:Nat}{x:dH}(h:x.ok n):WkL n x.row x.row:=⟨wk_str _ _,wk_str _ _,h.feats.wk (fun _ h=>h.wk),trivial⟩
structure Lex where
 vowels:Str
 traits:Sl bF
 classes:Sl a8
 entries:Sl aK
 spells:Sl bz
 links:Sl dH
def Lex.row(x:Lex):List AV:=[.str x.vowels,.slice x.traits.tag 2 (x.traits.l.map bF.row),.slice x.classes.tag 2 (x.classes.l.map a8.row),.slice x.entries.tag 4 (x.entries.l.map aK.row),.slice x.spells.tag 4 (x.spells.l.map bz.row),.slice x.links.tag 3 (x.links.l.map dH.row)]
def Lex.strip(x:Lex):Lex := { x with traits:=x.traits.strip,classes:=x.classes.strip,entries:=x.entries.strip,spells:=x.spells.strip,links:=x.links.strip }
theorem dZ:(∀ x:Lex,o2 6 (Lex.row x)=some (Lex.row x))∧(∀ x:Lex,cD none (Lex.row x) 0=some (.str x.vowels))∧(∀ x:Lex,cD none (Lex.row x) 1=some (.slice x.traits.tag 2 (x.traits.l.map bF.row)))∧(∀ x:Lex,cD none (Lex.row x) 2=some (.slice x.classes.tag 2 (x.classes.l.map a8.row)))∧(∀ x:Lex,cD none (Lex.row x) 3=some (.slice x.entries.tag 4 (x.entries.l.map aK.row)))∧(∀ x:Lex,cD none (Lex.row x) 4=some (.slice x.spells.tag 4 (x.spells.l.map bz.row)))∧(∀ x:Lex,cD none (Lex.row x) 5=some (.slice x.links.tag 3 (x.links.l.map dH.row)))∧(∀ x:Lex,(Lex.row x).length=6)∧(∀ x:Lex,(Lex.row x).all AV.cell=true)∧(∀ x:Lex,∀ c0 c1 c2 c3 c4 c5:AV,aO [c0,c1,c2,c3,c4,c5] 0 (Lex.row x)=Lex.row x)∧(∀ x:Lex,∀ y:Lex,aO (Lex.row y) 0 (Lex.row x)=Lex.row x)∧(∀ x:Lex,∀ (y:Str),aO (Lex.row x) 0 [.str y]=Lex.row { x with vowels:=y })∧(∀ x:Lex,∀ (t:Tag) (l:List bF),aO (Lex.row x) 1 [.slice t 2 (l.map bF.row)]=Lex.row { x with traits:=⟨t,l⟩ })∧(∀ x:Lex,∀ (t:Tag) (l:List a8),aO (Lex.row x) 2 [.slice t 2 (l.map a8.row)]=Lex.row { x with classes:=⟨t,l⟩ })∧(∀ x:Lex,∀ (t:Tag) (l:List aK),aO (Lex.row x) 3 [.slice t 4 (l.map aK.row)]=Lex.row { x with entries:=⟨t,l⟩ })∧(∀ x:Lex,∀ (t:Tag) (l:List bz),aO (Lex.row x) 4 [.slice t 4 (l.map bz.row)]=Lex.row { x with spells:=⟨t,l⟩ })∧(∀ x:Lex,∀ (t:Tag) (l:List dH),aO (Lex.row x) 5 [.slice t 3 (l.map dH.row)]=Lex.row { x with links:=⟨t,l⟩ })∧(∀ x:Lex,(Lex.row x).map AV.strip=Lex.row x.strip)∧(∀ x:Lex,(Lex.row x).take 6=Lex.row x)∧(∀ x:Lex,(Lex.row x).drop 6=[]):=
 by refine ⟨?_, ?_, ?_, ?_, ?_, ?_, ?_, ?_, ?_, ?_, ?_, ?_, ?_, ?_, ?_, ?_, ?_, ?_, ?_, ?_⟩<;>(intros;first | rfl | (simp only [Lex.row];rfl) | (simp only [Lex.row,jN];rfl))
structure Lex.ok (n:Nat) (x:Lex):Prop where
 vowels:x.vowels.length≤bE
 traits:x.traits.ok n (bF.ok n)
 classes:x.classes.ok n (a8.ok n)
 entries:x.entries.ok n (aK.ok n)
 spells:x.spells.ok n (bz.ok n)
 links:x.links.ok n (dH.ok n)
theorem Lex.ok.mono{n m:Nat}{x:Lex}(h:x.ok n)(hn:n≤m):x.ok m:=⟨h.vowels,h.traits.mono hn (fun _ h=>h.mono hn),h.classes.mono hn (fun _ h=>h.mono hn),h.entries.mono hn (fun _ h=>h.mono hn),h.spells.mono hn (fun _ h=>h.mono hn),h.links.mono hn (fun _ h=>h.mono hn)⟩
theorem Lex.ok.wk{n:Nat}{x:Lex}(h:x.ok n):WkL n x.row x.row:=⟨wk_str _ _,h.traits.wk (fun _ h=>h.wk),h.classes.wk (fun _ h=>h.wk),h.entries.wk (fun _ h=>h.wk),h.spells.wk (fun _ h=>h.wk),h.links.wk (fun _ h=>h.wk),trivial⟩
structure aQ where
 entry:Int
 slot:Int
 link:Int
def aQ.row(x:aQ):List AV:=[.int .i64 x.entry,.int .i64 x.slot,.int .i64 x.link]
theorem Fx:(∀ x:aQ,o2 3 (aQ.row x)=some (aQ.row x))∧(∀ x:aQ,cD none (aQ.row x) 0=some (.int .i64 x.entry))∧(∀ x:aQ,cD none (aQ.row x) 1=some (.int .i64 x.slot))∧(∀ x:aQ,cD none (aQ.row x) 2=some (.int .i64 x.link))∧(∀ x:aQ,(aQ.row x).length=3)∧(∀ x:aQ,(aQ.row x).all AV.cell=true)∧(∀ x:aQ,∀ c0 c1 c2:AV,aO [c0,c1,c2] 0 (aQ.row x)=aQ.row x)∧(∀ x:aQ,∀ y:aQ,aO (aQ.row y) 0 (aQ.row x)=aQ.row x)∧(∀ x:aQ,∀ (y:Int),aO (aQ.row x) 0 [.int .i64 y]=aQ.row { x with entry:=y })∧(∀ x:aQ,∀ (y:Int),aO (aQ.row x) 1 [.int .i64 y]=aQ.row { x with slot:=y })∧(∀ x:aQ,∀ (y:Int),aO (aQ.row x) 2 [.int .i64 y]=aQ.row { x with link:=y })∧(∀ x:aQ,(aQ.row x).map AV.strip=aQ.row x)∧(∀ x:aQ,(aQ.row x).take 3=aQ.row x)∧(∀ x:aQ,(aQ.row x).drop 3=[]):=
 by refine ⟨?_, ?_, ?_, ?_, ?_, ?_, ?_, ?_, ?_, ?_, ?_, ?_, ?_, ?_⟩<;>(intros;first | rfl | (simp only [aQ.row];rfl) | (simp only [aQ.row,jN];rfl))
structure aQ.ok (n:Nat) (x:aQ):Prop where
 entry:I64 x.entry
 slot:I64 x.slot
 link:I64 x.link
theorem aQ.ok.mono{n m:Nat}{x:aQ}(h:x.ok n)(hn:n≤m):x.ok m:=⟨h.entry,h.slot,h.link⟩
theorem aQ.ok.wk{n:Nat}{x:aQ}(h:x.ok n):WkL n x.row x.row:=⟨wk_int _ _ _,wk_int _ _ _,wk_int _ _ _,trivial⟩
structure aq where
 firsts:Sl aQ
 entry:Int
 slot:Int
def aq.row(x:aq):List AV:=[.slice x.firsts.tag 3 (x.firsts.l.map aQ.row),.int .i64 x.entry,.int .i64 x.slot]
def aq.strip(x:aq):aq := { x with firsts:=x.firsts.strip }
theorem iO:(∀ x:aq,o2 3 (aq.row x)=some (aq.row x))∧(∀ x:aq,cD none (aq.row x) 0=some (.slice x.firsts.tag 3 (x.firsts.l.map aQ.row)))∧(∀ x:aq,cD none (aq.row x) 1=some (.int .i64 x.entry))∧(∀ x:aq,cD none (aq.row x) 2=some (.int .i64 x.slot))∧(∀ x:aq,(aq.row x).length=3)∧(∀ x:aq,(aq.row x).all AV.cell=true)∧(∀ x:aq,∀ c0 c1 c2:AV,aO [c0,c1,c2] 0 (aq.row x)=aq.row x)∧(∀ x:aq,∀ y:aq,aO (aq.row y) 0 (aq.row x)=aq.row x)∧(∀ x:aq,∀ (t:Tag) (l:List aQ),aO (aq.row x) 0 [.slice t 3 (l.map aQ.row)]=aq.row { x with firsts:=⟨t,l⟩ })∧(∀ x:aq,∀ (y:Int),aO (aq.row x) 1 [.int .i64 y]=aq.row { x with entry:=y })∧(∀ x:aq,∀ (y:Int),aO (aq.row x) 2 [.int .i64 y]=aq.row { x with slot:=y })∧(∀ x:aq,(aq.row x).map AV.strip=aq.row x.strip)∧(∀ x:aq,(aq.row x).take 3=aq.row x)∧(∀ x:aq,(aq.row x).drop 3=[]):=
 by refine ⟨?_, ?_, ?_, ?_, ?_, ?_, ?_, ?_, ?_, ?_, ?_, ?_, ?_, ?_⟩<;>(intros;first | rfl | (simp only [aq.row];rfl) | (simp only [aq.row,jN];rfl))
structure aq.ok (n:Nat) (x:aq):Prop where
 firsts:x.firsts.ok n (aQ.ok n)
 entry:I64 x.entry
 slot:I64 x.slot
theorem aq.ok.mono{n m:Nat}{x:aq}(h:x.ok n)(hn:n≤m):x.ok m:=⟨h.firsts.mono hn (fun _ h=>h.mono hn),h.entry,h.slot⟩
theorem aq.ok.wk{n:Nat}{x:aq}(h:x.ok n):WkL n x.row x.row:=⟨h.firsts.wk (fun _ h=>h.wk),wk_int _ _ _,wk_int _ _ _,trivial⟩
structure Ask where
 lem:Str
 cls:Str
 feats:Sl au
 entry:Int
 slot:Int
def Ask.row(x:Ask):List AV:=[.str x.lem,.str x.cls,.slice x.feats.tag 2 (x.feats.l.map au.row),.int .i64 x.entry,.int .i64 x.slot]
def Ask.strip(x:Ask):Ask := { x with feats:=x.feats.strip }
structure Ask.ok (n:Nat) (x:Ask):Prop where
 lem:x.lem.length≤bE
 cls:x.cls.length≤bE
 feats:x.feats.ok n (au.ok n)
 entry:I64 x.entry
 slot:I64 x.slot
theorem Ask.ok.mono{n m:Nat}{x:Ask}(h:x.ok n)(hn:n≤m):x.ok m:=⟨h.lem,h.cls,h.feats.mono hn (fun _ h=>h.mono hn),h.entry,h.slot⟩
theorem Ask.ok.wk{n:Nat}{x:Ask}(h:x.ok n):WkL n x.row x.row:=⟨wk_str _ _,wk_str _ _,h.feats.wk (fun _ h=>h.wk),wk_int _ _ _,wk_int _ _ _,trivial⟩
theorem bp{α:Type}{row:α→List AV}{l:List α}{tag:Tag}{sz:Nat}{k:IntKind}{i:Nat}(h:i<l.length):A8 sz (.slice tag sz (l.map row)) (.int k (i:Int))=some (.vptr sz (l.map row) i 0):=
 rias_nat (esz:=0) (by simpa using h)
theorem Kf{α:Type}{row:α→List AV}{l:List α}{tag:Tag}{sz:Nat}{k:IntKind}{i:Nat}(h:i<l.length):Cf sz (.slice tag sz (l.map row)) none (some (.int k (i:Int))) none=some (.slice .any sz ((l.take i).map row)):=by
 have h0:l≠[]:=fun e=>by simp [e] at h
 simp [Cf,fm,Nat.le_of_lt h,h0,List.map_take]
theorem de{i n:Nat}(h:i<n)(hn:n≤bE):IntKind.i64.wrap ((i:Int)+1)=((i+1:Nat):Int):=by
 rw [ep (by omega) (by simp only [bE] at hn;omega)];rfl
theorem Tw{i:Nat}(h:i+1≤bE):IntKind.i64.wrap (((i+1:Nat):Int)-1)=(i:Int):=by
 simp only [bE] at h
 rw [ep (by omega) (by omega)];omega
theorem U6{i:Nat}(h0:0<i)(h:i≤bE):IntKind.i64.wrap ((i:Int)-1)=((i-1:Nat):Int):=by
 simp only [bE] at h
 rw [ep (by omega) (by omega)];omega
theorem Tx{α:Type}(row:α→List AV)(l:List α)(i:Nat):(l.map row)[i]?=(l[i]?).map row:=List.getElem?_map ..
def slc{α:Type}(b:Bool)(x y:α):α:=
 match b with
 |true=>x
 |false=>y
theorem ca{α:Type}{b b':Bool}{x y:α}(h:b=b'):sel b x y=sel b' x y:=by rw [h]
theorem bg{α:Type}{b b':Bool}{x x' y y':α}(hb:b=b')(hx:b'=true→x=x')(hy:b'=false→y=y'):slc b x y=slc b' x' y':=by
 subst hb;cases b
 ·exact hy rfl
 ·exact hx rfl
theorem aj{α:Type}(x y:α):slc true x y=x:=rfl
theorem ae{α:Type}(x y:α):slc false x y=y:=rfl
theorem al{α:Type}(b:Bool)(x y:α):slc (!b) x y=slc b y x:=by cases b<;>rfl
theorem amS :
 (∀ (α:Type) (b:Bool) (x y:α),sel b x y=slc b x y) ∧
 (∀ (α:Type) (x y:α),slc true x y=x)∧(∀ (α:Type) (x y:α),slc false x y=y)∧(∀ (α:Type) (b:Bool) (x y:α),slc (!b) x y=slc b y x) ∧
 (∀ (α:Type) (b:Bool) (x:α),slc b x x=x) ∧
 (∀ (α:Type) (b:Bool) (x y:α),slc b (some x) (some y)=some (slc b x y)) ∧
 (∀ (α β:Type) (b:Bool) (x x':α) (y y':β),slc b (x,y) (x',y')=(slc b x x',slc b y y')) ∧
 (∀ (b:Bool) (v v':AV),slc b (vN.ret v) (vN.ret v') = .ret (slc b v v')) ∧
 (∀ (b p q:Bool),slc b (AV.bool p) (AV.bool q) = .bool (slc b p q)) ∧
 (∀ (b:Bool) (k:IntKind) (x y:Int),slc b (AV.int k x) (AV.int k y) = .int k (slc b x y)) ∧
 (∀ (b:Bool) (x y:Str),slc b (AV.str x) (AV.str y) = .str (slc b x y)) ∧
 (∀ (α:Type) (b p:Bool) (x y:α),slc b (slc p x y) y=slc (b&&p) x y) ∧
 (∀ b p:Bool,slc b p false=(b&&p))∧(∀ b p:Bool,slc b true p=(b||p))∧(∀ b p:Bool,slc b p true=(!b||p))∧(∀ b p:Bool,slc b false p=(!b&&p)) ∧
 (∀ (α:Type) (b w:Bool) (v v':AV) (x u:Option α),Dg (slc b v v') w x u=slc b (Dg v w x u) (Dg v' w x u)):=
 ⟨fun _ _ _ _=>rfl,fun _ _ _=>rfl,fun _ _ _=>rfl,fun _=>al,fun _ b _=>by cases b<;>rfl,fun _ b _ _=>by cases b<;>rfl,fun _ _ b _ _ _ _=>by cases b<;>rfl,fun b _ _=>by cases b<;>rfl,fun b _ _=>by cases b<;>rfl,
  fun b _ _ _=>by cases b<;>rfl,fun b _ _=>by cases b<;>rfl,fun _ b p _ _=>by cases b<;>cases p<;>rfl,fun b _=>by cases b<;>rfl,fun b _=>by cases b<;>rfl,fun b _=>by cases b<;>rfl,fun b _=>by cases b<;>rfl,fun _ b _ _ _ _ _=>by cases b<;>rfl⟩
def orE(o:Option AV)(H:List ab)(x:Option Out):Option Out:=
 match o with
 |some v=>some (.ret v,H)
 |none=>x
def orO{α:Type}(o y:Option α):Option α:=
 match o with
 |some v=>some v
 |none=>y
def fD{α:Type}(F:Nat→α→Option AV):Nat→List α→Option AV
 |_,[]=>none
 |i,x::l=>orO (F i x) (fD F (i+1) l)
theorem GG(v:AV)(H:List ab)(x:Option Out):orE (some v) H x=some (.ret v,H):=rfl
theorem Ty(H:List ab)(x:Option Out):orE none H x=x:=rfl
theorem Jr(b:Bool)(o o':Option AV)(H:List ab)(x:Option Out):orE (sel b o o') H x=sel b (orE o H x) (orE o' H x):=by cases b<;>rfl
theorem Rc(o o':Option AV)(H:List ab)(x:Option Out):orE (orO o o') H x=orE o H (orE o' H x):=by cases o<;>rfl
theorem GH{α:Type}(v:α)(y:Option α):orO (some v) y=some v:=rfl
theorem GI{α:Type}(y:Option α):orO none y=y:=rfl
theorem Js{α:Type}(b:Bool)(o o' y:Option α):orO (sel b o o') y=sel b (orO o y) (orO o' y):=by cases b<;>rfl
theorem Qg{α:Type}(F:Nat→α→Option AV)(i:Nat):fD F i []=none:=rfl
theorem ua{α:Type}(F:Nat→α→Option AV)(i:Nat)(x:α)(l:List α):fD F i (x::l)=orO (F i x) (fD F (i+1) l):=rfl
theorem Dj{α:Type}{l:List α}{n:Nat}(h:l.length≤n)(i:Nat):(l.take i).length≤n:=by simp;omega
theorem OF{H0 H:List ab}(h:dL H0 H)(L:List ab):dL H0 (H++L):=
 ⟨by have:=h.1;simp;omega,fun i x hi hx=>h.2 i x hi (by
  have:=h.1
  rwa [List.getElem?_append_left (by omega)] at hx)⟩
theorem Mp{H0 H:List ab}(h:dL H0 H)(L:List ab):(H++L).take H0.length=H.take H0.length:=
 List.take_append_of_le_length h.1
theorem Kg{sz:Nat}{r:List AV}(h1:r.length=sz)(h2:r.all AV.cell=true):nV sz [r]=true:=by simp [nV,h1,h2]
theorem Tz{α:Type}{row:α→List AV}{l:List α}{x:α}{r:List AV}{sz bytes:Nat}{e:TypeId}(H:List ab)(h1:r.length=sz)(h2:r.all AV.cell=true)(h3:r.map AV.strip=row x)
  (hl:(l.length+1)*bytes≤140737488355328) (hl2:l.length+1≤4611686018427387904) :
  rap false (H++[.tok (l.length*sz) e]) e sz bytes false (.slice (.own H.length) sz (l.map row)) (.slice .full sz [r])=some (.slice (.own H.length) sz ((l++[x]).map row),H++[.tok ((l++[x]).length*sz) e]):=by
 have hr:(r.length=sz∧∀ x∈r,x.cell=true):=⟨h1,by simpa using h2⟩
 simp only [rap,C8,Cg,List.length_map,List.length_cons,List.length_nil,Nat.zero_add,or_true,if_true,hl,hl2,Kg h1 h2,and_true,true_and,ej,List.getElem?_cons_zero,hp_set0,List.set_cons_zero,List.map_cons,List.map_nil,h3,List.map_append,List.length_append,Nat.add_mul,Nat.one_mul]
 rw [Nat.add_mul,Nat.one_mul] at hl
 rw [if_pos hl]
def Kh(pl:Nat→Option (Nat×Nat))(cs:List AV)(rest:List (Nat×AV))(o:Option (Nat×Nat))(c:Option (List AV)):Option (List AV):=
 match o,c with
 |some (off,size),some cells=>if cells.length=size∧off+cells.length≤cs.length then pG pl (aO cs off cells) rest else none
 |_,_=>none
theorem Sb(pl:Nat→Option (Nat×Nat))(cs:List AV):pG pl cs []=some cs:=rfl
theorem Qh(pl:Nat→Option (Nat×Nat))(cs:List AV)(i:Nat)(v:AV)(rest:List (Nat×AV)):pG pl cs ((i,v)::rest)=Kh pl cs rest (pl i) (gq v):=by
 rfl
theorem OG(pl:Nat→Option (Nat×Nat))(cs:List AV)(rest:List (Nat×AV))(off size:Nat)(cells:List AV)(h1:cells.length=size)(h2:off+size≤cs.length):Kh pl cs rest (some (off,size)) (some cells)=pG pl (aO cs off cells) rest:=by
 subst h1
 rw [Kh]
 exact if_pos ⟨rfl,h2⟩
theorem W4(f:Nat×RX→Nat×AV):List.map f []=[]:=rfl
theorem W5(f:Nat×RX→Nat×AV)(x:Nat×RX)(l:List (Nat×RX)):List.map f (x::l)=f x::List.map f l:=rfl
theorem amF :
 (∀ (pl:Nat→Option (Nat×Nat)) (cs:List AV),pG pl cs []=some cs) ∧
 (∀ (pl:Nat→Option (Nat×Nat)) (cs:List AV) (i:Nat) (v:AV) (rest:List (Nat×AV)),pG pl cs ((i,v)::rest)=Kh pl cs rest (pl i) (gq v)) ∧
 (∀ (pl:Nat→Option (Nat×Nat)) (cs:List AV) (rest:List (Nat×AV)) (off size:Nat) (cells:List AV),cells.length=size→off+size≤cs.length→Kh pl cs rest (some (off,size)) (some cells)=pG pl (aO cs off cells) rest) ∧
 (∀ (f:Nat×RX→Nat×AV),List.map f []=[]) ∧
 (∀ (f:Nat×RX→Nat×AV) (x:Nat×RX) (l:List (Nat×RX)),List.map f (x::l)=f x::List.map f l) ∧
 (∀ (z:List AV),Gk 0 z=[]) ∧
 (∀ (n:Nat) (z:List AV),Gk (n+1) z=z++Gk n z) ∧
 (∀ (n:Nat) (cs:List AV),yh n 0 cs=[]) ∧
 (∀ (n k:Nat) (cs:List AV),yh n (k+1) cs=cs.take n::yh n k (cs.drop n)) ∧
 (∀ (l:List AV),l.take 0=[])∧(∀ (n:Nat) (x:AV) (l:List AV),(x::l).take (n+1)=x::l.take n) ∧
 (∀ (l:List AV),l.drop 0=l)∧(∀ (n:Nat) (x:AV) (l:List AV),(x::l).drop (n+1)=l.drop n) ∧
 (∀ (s:Str),AV.strip (.str s) = .str s)∧(∀ (k:IntKind) (n:Int),AV.strip (.int k n) = .int k n)∧(∀ (b:Bool),AV.strip (.bool b) = .bool b)∧(∀ (f:Fn) (x y:List AV),AV.strip (.fn f x y) = .fn f x y) ∧
 (∀ (t n:Nat) (r:List (List AV)),AV.strip (.slice (.own t) n r) = .slice .any n r)∧(∀ (n:Nat) (r:List (List AV)),AV.strip (.slice .any n r) = .slice .any n r)∧(∀ (n:Nat) (r:List (List AV)),AV.strip (.slice .nil n r) = .slice .nil n r)∧(∀ (n:Nat) (r:List (List AV)),AV.strip (.slice .full n r) = .slice .full n r) ∧
 (∀ (f:AV→AV),List.map f []=[])∧(∀ (f:AV→AV) (x:AV) (l:List AV),List.map f (x::l)=f x::List.map f l) ∧
 (∀ (x:Nat×Nat) (l:List (Nat×Nat)),(x::l)[0]?=some x)∧(∀ (x:Nat×Nat) (l:List (Nat×Nat)) (n:Nat),(x::l)[n+1]?=l[n]?):=
 ⟨Sb,Qh,OG,W4,W5,fun _=>rfl,fun _ _=>rfl,fun _ _=>rfl,fun _ _ _=>rfl,fun _=>rfl,fun _ _ _=>rfl,fun _=>rfl,fun _ _ _=>rfl,fun _=>rfl,fun _ _=>rfl,fun _=>rfl,fun _ _ _=>rfl,fun _ _ _=>rfl,fun _ _=>rfl,fun _ _=>rfl,fun _ _=>rfl,fun _=>rfl,fun _ _ _=>rfl,fun _ _=>rfl,fun _ _ _=>rfl⟩
theorem amL :
 (∀ (v:AV) (H:List ab) (x:Option Out),orE (some v) H x=some (.ret v,H)) ∧
 (∀ (H:List ab) (x:Option Out),orE none H x=x) ∧
 (∀ (b:Bool) (o o':Option AV) (H:List ab) (x:Option Out),orE (slc b o o') H x=slc b (orE o H x) (orE o' H x)) ∧
 (∀ (o o':Option AV) (H:List ab) (x:Option Out),orE (orO o o') H x=orE o H (orE o' H x)) ∧
 (∀ (v:AV) (y:Option AV),orO (some v) y=some v) ∧
 (∀ (y:Option AV),orO none y=y) ∧
 (∀ (b:Bool) (o o' y:Option AV),orO (slc b o o') y=slc b (orO o y) (orO o' y)) ∧
 (∀ (α:Type) (F:Nat→α→Option AV) (i:Nat),fD F i []=none) ∧
 (∀ (α:Type) (F:Nat→α→Option AV) (i:Nat) (x:α) (l:List α),fD F i (x::l)=orO (F i x) (fD F (i+1) l)) ∧
 (∀ (α:Type) (l:List α) (row:α→List AV),(l.map row).length=l.length) ∧
 (∀ (α:Type) (row:α→List AV) (l:List α) (i:Nat),(l.map row)[i]?=(l[i]?).map row) ∧
 (∀ (α:Type) (f:α→List AV) (x:α),(some x).map f=some (f x)) ∧
 (∀ (H0 H:List ab),dL H0 H→∀ (L:List ab),dL H0 (H++L)) ∧
 (∀ (H0 H:List ab),dL H0 H→∀ (L:List ab),(H++L).take H0.length=H.take H0.length):=
 ⟨GG,Ty,Jr,Rc,GH,GI,Js,fun _=>Qg,fun _=>ua,fun _ l row=>List.length_map ..,fun _ row l i=>Tx row l i,fun _ _ _=>rfl,fun _ _=>OF,fun _ _=>Mp⟩
def amA{E:bt}(M:cK cU E):=And.intro (am1 M) (And.intro am2 (And.intro am3 (And.intro am4 (And.intro am5 (And.intro amL amS)))))
def amB:=And.intro @beq_true (And.intro @beq_false (And.intro @decide_true (And.intro @decide_false (And.intro and_true (And.intro true_and (And.intro Bool.and_true (And.intro Bool.true_and (And.intro Bool.and_false (And.intro Bool.false_and (And.intro Bool.or_false (And.intro Bool.false_or (And.intro Bool.or_true (And.intro Bool.true_or (And.intro Bool.false_eq_true
 (And.intro @if_false.{1} (And.intro @if_true.{1} (And.intro Bool.not_true (And.intro Bool.not_false (And.intro Nat.le_add_right (And.intro @Nat.le_add_right_of_le (And.intro @Option.map_some.{0,0} (And.intro @Option.map_none.{0,0} (And.intro @List.nil_append.{0} (And.intro @List.append_nil.{0} (And.intro @List.map_nil.{0,0} @rias_nat)))))))))))))))))))))))))
def amG:=And.intro amF (And.intro setRow_nil (And.intro setRow_cons (And.intro @List.set_cons_zero.{0} (And.intro @List.length_cons.{0} (And.intro @List.length_nil.{0} (And.intro Nat.zero_add (And.intro Nat.le_refl (And.intro @List.all_cons.{0} (And.intro @List.all_nil.{0} @List.cons_append.{0})))))))))
end Go.Am
end
section
namespace Go.Am
open Go.RowKit Go.ChangeShapes Go.WideShapes
structure VL (K:aJ) (row:List AV) (cs:List Value):Prop where
 len:row.length=cs.length
 at_:∀ (i:Nat) (av:AV),row[i]?=some av→V K av (cs.getD i undef)
theorem VL.nil(K:aJ):VL K [] []:=⟨rfl,fun i av h=>by simp at h⟩
theorem VL.one{K:aJ}{a:AV}{v:Value}(h:V K a v):VL K [a] [v]:=⟨rfl,fun i av hi=>by
 cases i with
 |zero=>obtain rfl:a=av:=by simpa using hi
        simpa using h
 |succ i=>simp at hi⟩
theorem VL.append{K:aJ}{a b:List AV}{c d:List Value}(h:VL K a c)(h':VL K b d):VL K (a++b) (c++d):=⟨by simp [h.len,h'.len],fun i av hi=>by
 have e:=h.len
 by_cases hl:i<a.length
 ·rw [List.getElem?_append_left hl] at hi
  have:=h.at_ i av hi
  rwa [List.getD_eq_getElem?_getD,List.getElem?_append_left (by omega),← List.getD_eq_getElem?_getD]
 ·rw [List.getElem?_append_right (by omega)] at hi
  have:=h'.at_ _ av hi
  rwa [List.getD_eq_getElem?_getD,List.getElem?_append_right (by omega),← e,← List.getD_eq_getElem?_getD]⟩
theorem VL.vs{K:aJ}{row:List AV}{cs:Array Value}(h:VL K row cs.toList):Vs K row cs:=⟨by simpa using h.len,fun i av hi=>by simpa [Array.getD_eq_getD_getElem?] using h.at_ i av hi⟩
theorem VL.agg{K:aJ}{row:List AV}{cs:Array Value}(h:VL K row cs.toList):V K (.agg row) (.agg cs):=.agg _ _ h.vs.size h.vs.at_
section
variable(P:Program)(W:World)(G:Nat→Option (List AV))
def nz(t:TypeId){α:Type}(row:α→List AV)(ok:α→Prop):Prop:=
 ∀ (H:Type) (enc:TypeId×Value→H) (spare:Nat→Bool) (fuel:Nat) (cs:List Value) (x:DataW H×List MemPlace),DataW.trod enc P W 0 spare true fuel t cs=some x→∃ a,ok a∧VL (aJ.start W G) (row a) cs
def NA(fl:List (Nat×TypeId))(off w:Nat){α:Type}(row:α→List AV)(ok:α→Prop):Prop:=
 ∀ (H:Type) (enc:TypeId×Value→H) (spare:Nat→Bool) (fuel:Nat) (cs:List Value),
  (∀ (i:Nat) (f:Nat×TypeId),fl[i]?=some f→∃ x,DataW.trod enc P W 0 spare true fuel f.2 ((cs.drop f.1).take (P.cellsOf f.2))=some x)→cs.length=off+w→∃ a,ok a∧VL (aJ.start W G) (row a) (cs.drop off)
def fieldsOf(t:TypeId):Option (List (Nat×TypeId)):=
 match P.underlying t with
 |some (.struct fs)=>some (fs.toList.map fun f=>(f.offset,f.type))
 |_=>none
end
section
variable{P:Program}{W:World}{G:Nat→Option (List AV)}
theorem fU{t:TypeId}(ht:P.underlying t=some .string):nz P W G t kV (fun s=>s.length≤bE):=fun H enc spare fuel cs x h=>by
 obtain ⟨s,rfl,_,hs⟩:=DataW.trod_string ht h
 exact ⟨s.data.toList,by simpa [maxLen] using hs,VL.one (.str _)⟩
theorem Mq{t:TypeId}(ht:P.underlying t=some (.int .i64)):nz P W G t Tu I64:=fun H enc spare fuel cs x h=>by
 obtain ⟨n,rfl,_,hn⟩:=DataW.trod_int ht h
 refine ⟨n, ?_,VL.one (.int _ _)⟩
 simp only [Lit.wf] at hn
 revert hn
 simp [IntKind.has,IntKind.min,IntKind.max,IntKind.bits,IntKind.signed,I64]
theorem mB(off:Nat):NA P W G [] off 0 (fun _:Unit=>[]) (fun _=>True):=fun H enc spare fuel cs _ hl=>⟨(),trivial,by
 rw [List.drop_of_length_le (by omega)];exact VL.nil _⟩
theorem bI{t:TypeId}{fl:List (Nat×TypeId)}{off w1 w2:Nat}{α β:Type}{row1:α→List AV}{row2:β→List AV}{ok1:α→Prop}{ok2:β→Prop}
  (h1:nz P W G t row1 ok1) (hw:P.cellsOf t=w1) (h2:NA P W G fl (off+w1) w2 row2 ok2):NA P W G ((off,t)::fl) off (w1+w2) (fun a:α×β=>row1 a.1++row2 a.2) (fun a=>ok1 a.1∧ok2 a.2):=fun H enc spare fuel cs hf hl=>by
 obtain ⟨x,hx⟩:=hf 0 (off,t) rfl
 obtain ⟨a,ha,va⟩:=h1 H enc spare fuel _ x hx
 obtain ⟨b,hb,vb⟩:=h2 H enc spare fuel cs (fun i f hi=>hf (i+1) f (by simpa using hi)) (by omega)
 refine ⟨(a,b),⟨ha,hb⟩, ?_⟩
 have:=va.append vb
 simp only [hw] at this
 have e:(cs.drop off).take w1++cs.drop (off+w1)=cs.drop off:=by rw [← List.drop_drop,List.take_append_drop]
 rwa [e] at this
theorem jr{t:TypeId}{fl:List (Nat×TypeId)}{w:Nat}{α S:Type}{row:α→List AV}{ok:α→Prop}{rowS:S→List AV}{okS:S→Prop}(hf:fieldsOf P t=some fl)(hw:P.cellsOf t=w)
  (h:NA P W G fl 0 w row ok) (φ:α→S) (hr:∀ a,rowS (φ a)=row a) (ho:∀ a,ok a→okS (φ a)):nz P W G t rowS okS:=fun H enc spare fuel cs x hx=>by
 unfold fieldsOf at hf
 split at hf
 ·rename_i fs ht
  simp only [Option.some.injEq] at hf
  subst hf
  obtain ⟨xs,n,_,_,hl,hxl,hat⟩:=DataW.trod_struct ht hx
  obtain ⟨a,ha,va⟩:=h H enc spare n cs (fun i f hi=>by
   rw [List.getElem?_map] at hi
   cases hfi:fs.toList[i]? with
   |none=>rw [hfi] at hi;cases hi
   |some g=>
    rw [hfi] at hi
    obtain rfl:(g.offset,g.type)=f:=by simpa using hi
    have hg:fs[i]?=some g:=by simpa using hfi
    have:=hat i g hg
    have hlt:i<xs.length:=by rw [hxl];exact (Array.getElem?_eq_some_iff.1 hg).1
    rw [List.getElem?_eq_getElem hlt] at this
    exact ⟨_,this⟩) (by omega)
  exact ⟨φ a,ho a ha,by rw [hr];simpa using va⟩
 ·cases hf
theorem Re{α:Type}{p:Nat→α→Prop}:∀ (n:Nat),(∀ i,i<n→∃ a,p i a)→∃ l:List α,l.length=n∧∀ i a,l[i]?=some a→p i a
 |0,_=>⟨[],rfl,fun i a h=>by simp at h⟩
 |n+1,h=>by
  obtain ⟨l,h1,h2⟩:=Re n (fun i hi=>h i (by omega))
  obtain ⟨a,ha⟩:=h n (by omega)
  refine ⟨l++[a],by simp [h1],fun i b hi => ?_⟩
  by_cases hl:i<l.length
  ·rw [List.getElem?_append_left hl] at hi;exact h2 i b hi
  ·rw [List.getElem?_append_right (by omega)] at hi
   have:i-l.length=0:=by
    cases hq:i-l.length with
    |zero=>rfl
    |succ k=>rw [hq] at hi;simp at hi
   rw [this] at hi
   obtain rfl:a=b:=by simpa using hi
   have:i=n:=by omega
   subst this;exact ha
theorem kB{t e:TypeId}{α:Type}{row:α→List AV}{ok:α→Prop}{sz:Nat}(ht:P.underlying t=some (.slice e))(hsz:P.cellsOf e=sz)(hpos:0<sz)(hrow:∀ a,(row a).length=sz)(he:nz P W G e row ok) :
  nz P W G t (fun s:Sl α=>[.slice s.tag sz (s.l.map row)]) (fun s=>s.ok 0 ok):=fun H enc spare fuel cs x h=>by
 rcases Go.Deep.open_slice ht h with ⟨rfl,_⟩ | ⟨a,len,cap,m,n,D,Pl,rfl,hb,hl,hcap,hm,_,hel⟩
 ·exact ⟨⟨.any,[]⟩,⟨trivial,by simp,fun x hx=>by cases hx⟩,VL.one (.slice0 _ _ _ (by simp))⟩
 ·rw [hsz] at hel
  have hlm:len≤m:=by rw [hm];split<;>omega
  obtain ⟨l,hll,hat⟩:=Re (α:=α) (p:=fun i a'=>ok a'∧∃ cs',W.cells? 0 (a.add (i*sz)) sz=some cs'∧VL (aJ.start W G) (row a') cs') len (fun i hi=>by
   obtain ⟨cs',h1,h2⟩:=hel i (by omega)
   obtain ⟨a',h3,h4⟩:=he H enc spare n cs' _ h2
   exact ⟨a',h3,cs',h1,h4⟩)
  refine ⟨⟨.any,l⟩,⟨trivial,by rw [hll];simp only [bE,maxLen] at *;omega,fun x hx => ?_⟩,VL.one ?_⟩
  ·obtain ⟨i,hi⟩:=List.getElem?_of_mem hx
   exact (hat i x hi).1
  ·obtain ⟨b,o,spot⟩:=a
   cases l with
   |nil=>
    have:len=0:=by simpa using hll.symm
    subst this
    exact .sliceAny _ _ _
   |cons a0 l0=>
    obtain ⟨_,cs0,hc0,hv0⟩:=hat 0 a0 rfl
    obtain ⟨_,hcl,hcat⟩:=World.cells?_some hc0
    have hsp:spot=none:=by
     have h0:=hcat 0 hpos
     rw [List.getElem?_eq_getElem (by omega)] at h0
     simpa [Addr.add] using World.cell?_spot h0
    subst hsp
    have hlen:len=((a0::l0).map row).length:=by simpa using hll.symm
    rw [hlen]
    have key:∀ (i:Nat) (r:List AV),((a0::l0).map row)[i]?=some r→∃ cs',VL (aJ.start W G) r cs'∧∀ j,j<sz→W.cell? ⟨b,o+i*sz+j,none⟩=cs'[j]? := fun i r hi=>by
     rw [List.getElem?_map] at hi
     cases hai:(a0::l0)[i]? with
     |none=>rw [hai] at hi;cases hi
     |some ai=>
      rw [hai] at hi
      obtain rfl:row ai=r:=by simpa using hi
      obtain ⟨_,cs',hc,hv⟩:=hat i ai hai
      obtain ⟨_,hcl',hcat'⟩:=World.cells?_some hc
      refine ⟨cs',hv,fun j hj => ?_⟩
      rw [← hcat' j hj]
      congr 1
      unfold Addr.add
      by_cases h1:i*sz=0<;>by_cases h2:j=0<;>simp [h1,h2,Nat.add_assoc]
    refine .slice .any sz _ b o cap (fun i j=>(W.cell? ⟨b,o+i*sz+j,none⟩).getD undef) (fun r hr => ?_) (fun i j r av hi hj => ?_) (fun i j r av hi hj => ?_) (by rw [← hlen];exact hl) trivial
    ·obtain ⟨a',_,rfl⟩:=List.mem_map.1 hr
     exact hrow a'
    ·obtain ⟨cs',hv,hc⟩:=key i r hi
     have hjl:j<r.length:=(List.getElem?_eq_some_iff.1 hj).1
     have hrl:r.length=sz:=by
      obtain ⟨a',_,rfl⟩:=List.mem_map.1 (List.mem_of_getElem? hi)
      exact hrow a'
     show W.cell? _=_
     have hcj:=hc j (by omega)
     rw [hcj,List.getElem?_eq_getElem (by rw [← hv.len];omega)]
     rfl
    ·obtain ⟨cs',hv,hc⟩:=key i r hi
     have hjl:j<r.length:=(List.getElem?_eq_some_iff.1 hj).1
     have hrl:r.length=sz:=by
      obtain ⟨a',_,rfl⟩:=List.mem_map.1 (List.mem_of_getElem? hi)
      exact hrow a'
     have:=hv.at_ j av hj
     rw [hc j (by omega),← List.getD_eq_getElem?_getD]
     exact this
theorem U7{t:TypeId}{fl:List (Nat×TypeId)}{r:Reach}{b:Nat}{v:Value}(hf:fieldsOf P t=some fl)(h:Value.okWide P W r b t v):∃ cs,v = .agg cs:=by
 unfold fieldsOf at hf
 split at hf
 ·rename_i fs ht
  simp only [Value.okWide,ht] at h
  obtain ⟨cs,rfl,_⟩:=h
  exact ⟨cs,rfl⟩
 ·cases hf
theorem U8{t:TypeId}{r:Reach}{b:Nat}{v:Value}(ht:P.underlying t=some .string)(h:Value.okWide P W r b t v):∃ s,v = .string s:=by
 simp only [Value.okWide,ht,Cell.okWide,Cell.ok] at h
 split at h<;>first | exact ⟨_,rfl⟩ | (simp_all;done) | cases h
theorem OH{H:Type}{enc:TypeId×Value→H}{spare:Nat→Bool}{t:TypeId}{α:Type}{row:α→List AV}{ok:α→Prop}(ho:nz P W G t row ok){v:Value}{d:DataW H}{ps:List MemPlace}
  (h:DataW.Trod enc P W 0 spare true t v d ps):∃ a,ok a∧VL (aJ.start W G) (row a) v.cells.toList:=by
 obtain ⟨fuel,hf⟩:=h
 exact ho H enc spare fuel _ _ hf
end
end Go.Am
end
section
namespace Go.Am
open Go.RowKit
def jS:FuncId:=3
def iy:FuncId:=7
def bn:FuncId:=8
def iZ:FuncId:=9
def cR:FuncId:=10
def yB:FuncId:=11
def zQ:FuncId:=12
def yC:FuncId:=13
def jO:FuncId:=14
def Bi:FuncId:=15
def tj:FuncId:=19
def gy:FuncId:=21
def LA:FuncId:=22
def kW:FuncId:=23
def vi:FuncId:=24
def kX:FuncId:=25
def rY:FuncId:=26
def Dk:FuncId:=27
def js:FuncId:=28
def dX:FuncId:=29
def eT:FuncId:=30
def gT:FuncId:=31
def dU:FuncId:=32
def yD:FuncId:=33
def bN:FuncId:=34
def mC:FuncId:=35
def fX:FuncId:=36
def o5:FuncId:=37
def yE:FuncId:=38
def El:FuncId:=39
def lD:FuncId:=41
def dM:FuncId:=42
def rZ:FuncId:=43
def rj:FuncId:=44
def rk:FuncId:=45
def fV:FuncId:=46
def jt:FuncId:=47
def B2:FuncId:=49
def Em:FuncId:=50
def yF:FuncId:=51
def ju:FuncId:=52
def qJ:FuncId:=53
def jv:FuncId:=54
def j4:FuncId:=55
def qK:FuncId:=56
def jw:FuncId:=57
def j5:FuncId:=58
def qL:FuncId:=59
def jx:FuncId:=60
def j6:FuncId:=61
def qM:FuncId:=62
def jy:FuncId:=63
def j7:FuncId:=64
def qN:FuncId:=65
def j8:FuncId:=66
def kC:FuncId:=67
def o6:FuncId:=68
def o7:FuncId:=69
def kp:FuncId:=70
def lE:FuncId:=71
def jz:FuncId:=72
def fE:FuncId:=73
def fC:FuncId:=74
def mD:FuncId:=75
def o8:FuncId:=76
def yG:FuncId:=77
def i6:FuncId:=78
def cV:FuncId:=79
def gV:FuncId:=80
def qb:FuncId:=81
def tk:FuncId:=82
def ub:FuncId:=83
def jA:FuncId:=93
def kD:FuncId:=94
def nW:FuncId:=95
def qQ:FuncId:=96
def nX:FuncId:=97
def nY:FuncId:=98
def vY:FuncId:=99
def Cm:FuncId:=100
def LB:FuncId:=101
def iJ:FuncId:=102
def HG:FuncId:=103
def cE:FuncId:=104
def r3:FuncId:=105
def dh:FuncId:=106
def iP:FuncId:=107
def di:FuncId:=108
def iQ:FuncId:=109
def j9:FuncId:=110
def iR:FuncId:=111
def iF:FuncId:=112
def tM:FuncId:=113
def dj:FuncId:=114
def iS:FuncId:=115
def dF:FuncId:=116
def iT:FuncId:=117
def yH:FuncId:=118
def b5:FuncId:=119
def iU:FuncId:=120
def lF:FuncId:=121
def o9:FuncId:=122
def dm:FuncId:=123
def pM:FuncId:=124
def ka:FuncId:=125
def iG:FuncId:=126
def bQ:FuncId:=127
def gW:FuncId:=128
def bR:FuncId:=129
def kE:FuncId:=130
def jB:FuncId:=131
def mE:FuncId:=132
def r4:FuncId:=133
def eK:FuncId:=134
def bm:FuncId:=135
def gm:FuncId:=136
def GJ:FuncId:=137
def ey:FuncId:=138
def Bj:FuncId:=139
def r5:FuncId:=140
def kF:FuncId:=141
def tl:FuncId:=142
def GK:FuncId:=143
def ku:FuncId:=144
def nA:FuncId:=145
def IW:FuncId:=146
def jC:FuncId:=147
def IX:FuncId:=148
def IY:FuncId:=149
def IZ:FuncId:=150
def vZ:FuncId:=151
def yI:FuncId:=152
def I0:FuncId:=153
def I1:FuncId:=154
def I2:FuncId:=155
def I3:FuncId:=156
def fY:FuncId:=157
def lG:FuncId:=158
def cF:FuncId:=159
def cW:FuncId:=160
def qO:FuncId:=161
def oP:FuncId:=162
def bK:FuncId:=163
def gX:FuncId:=164
def pN:FuncId:=165
def nZ:FuncId:=166
def mF:FuncId:=167
def aR:FuncId:=168
def fb:FuncId:=169
def db:FuncId:=170
def n4:FuncId:=171
def jD:FuncId:=172
def kf:FuncId:=173
def fk:FuncId:=174
def r6:FuncId:=177
def qc:FuncId:=178
def rl:FuncId:=179
def kG:FuncId:=180
def ea:FuncId:=181
def gn:FuncId:=182
def Ki:FuncId:=183
def v7:FuncId:=184
def LC:FuncId:=185
def fc:FuncId:=186
def jE:FuncId:=187
def cj:FuncId:=188
def mG:FuncId:=189
def px:FuncId:=190
def GL:FuncId:=200
def l9:FuncId:=201
def rm:FuncId:=202
def cL:FuncId:=203
def lH:FuncId:=204
def v8:FuncId:=205
def n5:FuncId:=206
def zR:FuncId:=207
def GM:FuncId:=208
def zS:FuncId:=209
def wa:FuncId:=210
def pO:FuncId:=211
def gz:FuncId:=212
def dz:FuncId:=213
def lI:FuncId:=219
def dn:FuncId:=220
def rJ:FuncId:=221
def vj:FuncId:=222
def Cn:FuncId:=223
def Dl:FuncId:=224
def En:FuncId:=225
def Bk:FuncId:=226
def uD:FuncId:=227
def uE:FuncId:=229
def gp:FuncId:=230
def GN:FuncId:=231
def yJ:FuncId:=232
def uF:FuncId:=233
def sV:FuncId:=234
def uc:FuncId:=235
def bC:FuncId:=236
def sW:FuncId:=237
def uG:FuncId:=238
def uH:FuncId:=239
def sX:FuncId:=240
def xp:FuncId:=241
def vk:FuncId:=242
def vl:FuncId:=243
def zT:TypeId:=3
def TA:TypeId:=4
def dG:TypeId:=5
def bu:TypeId:=9
def r7:TypeId:=22
def r8:TypeId:=23
def r9:TypeId:=24
def sa:TypeId:=25
def tN:TypeId:=26
def az:TypeId:=28
def wb:TypeId:=35
def aI:TypeId:=37
def dJ:TypeId:=39
def dB:TypeId:=45
def pP:TypeId:=47
def rn:TypeId:=48
def mH:TypeId:=51
def dY:TypeId:=53
def a7:TypeId:=66
def iq:TypeId:=69
def tO:TypeId:=70
def cq:TypeId:=72
def bH:TypeId:=74
def eG:TypeId:=76
def eQ:TypeId:=78
def kY:TypeId:=80
def aE:TypeId:=85
def dC:TypeId:=113
def Kj:TypeId:=118
def br:TypeId:=119
def GO:TypeId:=133
def yK:TypeId:=165
def NC:TypeId:=168
def dk:TypeId:=188
def bq:TypeId:=218
def Fy:TypeId:=261
def bU:TypeId:=272
def kH:TypeId:=275
def mI:TypeId:=285
def Qi:TypeId:=287
def Bl:TypeId:=292
def Dm:TypeId:=294
def Qj:TypeId:=297
end Go.Am
end
