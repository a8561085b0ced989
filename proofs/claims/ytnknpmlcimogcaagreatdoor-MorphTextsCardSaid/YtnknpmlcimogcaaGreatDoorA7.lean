import Derived.Test.YtnknpmlcimogcaaGreatDoorA6
/-
  Part 7 of the tool: an abstract machine over the model, proved sound, and what it says of the functions that the law reaches. Condition: none but those that each theorem names.
-/
set_option linter.unusedVariables false
set_option linter.unusedSimpArgs false
set_option maxRecDepth 100000
set_option maxHeartbeats 4000000
namespace Go.Am
open Go.RowKit
section
attribute [local congr] aF aS cC bn aG aX aL aH az aA aM aN
variable{E:br}(M:cH bM E)
def nY:List aw→List aw→Option (List aw)
 |[],b=>some b
 |x::a,[]=>some (x::a)
 |x::a,y::b=>
  match Op.bytesLess x.name y.name with
  |true=>(nY a (y::b)).map (x :: ·)
  |false=>match Op.bytesLess y.name x.name with
   |true=>(nY (x::a) b).map (y :: ·)
   |false=>match x.name == y.name&&x.value == y.value with
    |true=>(nY a b).map (x :: ·)
    |false=>none
termination_by a b=>a.length+b.length
theorem Vi(y:aw)(b:List aw):nY [] (y::b)=(nY [] b).map (y :: ·):=by simp [nY]
theorem Vj(x:aw)(a:List aw):nY (x::a) []=(nY a []).map (x :: ·):=by
 cases a<;>simp [nY]
theorem Rj:nY [] []=some []:=by simp [nY]
def mgO(M:cH bM E)(H0:List Y4)(k:List ZA)(o:List aw)(r:Option (List aw))(H:List Y4):Option Out:=
 match r with
 |none=>some (.ret noU,H.take H0.length)
 |some r=>M.go dz H0 k (kv [(8,.slice (.own H.length) 2 ((o++r).map aw.row))]) (H++[.tok ((o++r).length*2) aR])
theorem B6(H0:List Y4)(k:List ZA)(o:List aw)(x:aw)(r:Option (List aw))(H:List Y4):mgO M H0 k o (r.map (x :: ·)) H=mgO M H0 k (o++[x]) r H:=by
 cases r with
 |none=>rfl
 |some r=>simp only [amO,mgO,amr,amW,amH]
theorem ND(x y:aw):req (.st [(0,.str),(1,.str)]) (.agg x.row) (.agg y.row)=some (x.name == y.name&&x.value == y.value):=by
 simp only [req,tW,aw.row,amx,amX,xp];cases x.name == y.name<;>simp
 cases x.value == y.value<;>rfl
theorem Vk(n:Nat)(x:aw):WkL n (aw.row x) (aw.row x):=⟨ZH _ _,ZH _ _,trivial⟩
theorem rum{a b:Sl aw}{H H0:List Y4}(hc:bY H0 H)(k:List ZA):∀ (n i j:Nat) (o:List aw) (He:List Y4),i≤a.l.length→j≤b.l.length→(a.l.length-i)+(b.l.length-j)=n→o.length+n≤4000000000000→a.l.length+b.l.length≤4000000000000 →
  M.go dz H0 (.c cA :: .lp ⟨(some [0,1,8,9,10]),[(8,2,aR)],false⟩ cA He :: .ZU 4 :: .c (.lv [8])::k) (kv [(0,.slice a.tag 2 (a.l.map aw.row)),(1,.slice b.tag 2 (b.l.map aw.row)),(8,.slice (.own H.length) 2 (o.map aw.row)),(9,.int .i64 i),(10,.int .i64 j)]) (H++[.tok (o.length*2) aR]) =
   mgO M H0 k o (nY (a.l.drop i) (b.l.drop j)) H
 |n,i,j,o,He,hi,hj,hn,ho,hab=>by
  have bi:i<a.l.length→IntKind.i64.wrap ((i:Int)+1)=((i+1:Nat):Int):=fun h=>bt h (by simp only [aZ];omega)
  have bj:j<b.l.length→IntKind.i64.wrap ((j:Int)+1)=((j+1:Nat):Int):=fun h=>bt h (by simp only [aZ];omega)
  have ap:=fun (x:aw) (h:o.length+1≤4000000000000)=>WZ (row:=aw.row) (l:=o) (x:=x) (r:=x.row) (sz:=2) (bytes:=32) (e:=aR) H rfl rfl rfl (by omega) (by omega)
  by_cases h1:i<a.l.length
  ·have hx:a.l[i]?=some a.l[i]:=al4 h1
   have hd:a.l.drop i=a.l[i]::a.l.drop (i+1):=al6 h1;have hol:o.length+1≤4000000000000:=by omega
   have i1:=fun He=>rum hc k (n-1) (i+1) j (o++[a.l[i]]) He (by omega) hj (by omega) (by simp;omega) hab
   have hne:(i == a.l.length)=false:=by simp;omega
   by_cases h2:j<b.l.length
   ·have hy:b.l[j]?=some b.l[j]:=al4 h2
    have hdy:b.l.drop j=b.l[j]::b.l.drop (j+1):=al6 h2;have i2:=fun He=>rum hc k (n-1) i (j+1) (o++[b.l[j]]) He hi (by omega) (by omega) (by simp;omega) hab
    have i3:=fun He=>rum hc k (n-2) (i+1) (j+1) (o++[a.l[i]]) He (by omega) (by omega) (by omega) (by simp;omega) hab
    have hne2:(j == b.l.length)=false:=by simp;omega
    simp only [Y6,Y8] at i1 i2 i3;rw [hd,hdy,nY,← hd,← hdy];cases c1:Op.bytesLess a.l[i].name b.l[j].name with
    |true=>
     simp only [B6];rw [ah M cA.eq_1];simp (config:=apy) only [Zh M,↓Zi,Nat.reduceBEq,Nat.reduceAdd,env,ae,bT,Zx,AV.cell,Nat.reduceMul,Nat.reduceLeDiff,hx,hy,h1,h2,bi h1,bj h2,pX,aE h1,aE h2,hne,hne2,c1,ap a.l[i] hol,i1]
    |false=>
     simp only;cases c2:Op.bytesLess b.l[j].name a.l[i].name with
     |true=>
      simp only [B6];rw [ah M cA.eq_1];simp (config:=apy) only [Zh M,↓Zi,Nat.reduceBEq,Nat.reduceAdd,env,ae,bT,Zx,AV.cell,Nat.reduceMul,Nat.reduceLeDiff,hx,hy,h1,h2,bi h1,bj h2,pX,aE h1,aE h2,hne,hne2,c1,c2,ap b.l[j] hol,i2]
     |false=>
      simp only;cases c3:(a.l[i].name == b.l[j].name&&a.l[i].value == b.l[j].value) with
      |true=>
       simp only [B6];rw [ah M cA.eq_1];simp (config:=apy) only [Zh M,↓Zi,Nat.reduceBEq,Nat.reduceAdd,env,ae,bT,Zx,AV.cell,Nat.reduceMul,Nat.reduceLeDiff,hx,hy,h1,h2,bi h1,bj h2,pX,aE h1,aE h2,hne,hne2,c1,c2,c3,ND,ap a.l[i] hol,i3]
      |false=>
       simp only [mgO];rw [ah M cA.eq_1];simp (config:=apy) only [Zh M,↓Zi,Nat.reduceBEq,Nat.reduceAdd,env,ae,bT,Zx,AV.cell,Nat.reduceMul,Nat.reduceLeDiff,hx,hy,h1,h2,bi h1,bj h2,pX,aE h1,aE h2,hne,hne2,c1,c2,c3,ND,hc,noU,tX]
   ·obtain rfl:j=b.l.length:=by omega
    have hdy:b.l.drop b.l.length=[]:=al9;simp only [Y6,Y8] at i1;rw [hd,hdy,Vj,B6];rw [hdy] at i1;rw [ah M cA.eq_1];simp (config:=apy) only [Zh M,↓Zi,Nat.reduceBEq,Nat.reduceAdd,env,ae,bT,Zx,AV.cell,Nat.reduceMul,Nat.reduceLeDiff,hx,h1,ame,bi h1,pX,aE h1,hne,amV,ap a.l[i] hol,i1]
  ·obtain rfl:i=a.l.length:=by omega
   have hdx:a.l.drop a.l.length=[]:=al9
   by_cases h2:j<b.l.length
   ·have hy:b.l[j]?=some b.l[j]:=al4 h2
    have hdy:b.l.drop j=b.l[j]::b.l.drop (j+1):=al6 h2;have hol:o.length+1≤4000000000000:=by omega
    have i2:=fun He=>rum hc k (n-1) a.l.length (j+1) (o++[b.l[j]]) He hi (by omega) (by omega) (by simp;omega) hab
    have hne2:(j == b.l.length)=false:=by simp;omega
    simp only [Y6,Y8] at i2;rw [hdx,hdy,Vi,B6];rw [hdx] at i2;rw [ah M cA.eq_1];simp (config:=apy) only [Zh M,↓Zi,Nat.reduceBEq,Nat.reduceAdd,env,ae,bT,Zx,AV.cell,Nat.reduceMul,Nat.reduceLeDiff,hy,h2,ame,bj h2,pX,aE h2,hne2,amV,ap b.l[j] hol,i2]
   ·obtain rfl:j=b.l.length:=by omega
    rw [hdx,al9,Rj,mgO,amt];rw [ah M cA.eq_1];simp (config:=apy) only [Zh M,↓Zi,Nat.reduceBEq,Nat.reduceAdd,env,ae,bT,ame]
termination_by n=>n
decreasing_by all_goals omega
def FF(a b:List aw):Option (List aw):=Zv (A5 a) (Zv (A5 b) (nY a b) none) none
def Vl(r:Option (List aw)):AV:=
 match r with
 |none=>noU
 |some r=>.tuple [.slice .any 2 (r.map aw.row),.bool true]
theorem OQ(hR:yh E){a b:Sl aw}(hab:a.l.length+b.l.length≤4000000000000)(H:List Y4) :
  M.run oO [.slice a.tag 2 (a.l.map aw.row),.slice b.tag 2 (b.l.map aw.row)] H=some (.ret (Vl (FF a.l b.l)),H):=by
 rw [au M hR.abS rfl (c:=pw) rfl,pw];have ha:a.l.length≤aZ:=by simp only [aZ];omega
 have hb:b.l.length≤aZ:=by simp only [aZ];omega
 have h1:=fun k He=>Yq M ha hb (Zt H) k (a.l.length-1) 1 (by omega) He rfl
 have h2:=fun k He=>Yr M ha hb (Zt H) k (b.l.length-1) 1 (by omega) He rfl
 have h3:=fun k He=>rum M (a:=a) (b:=b) (Zt H) k (a.l.length+b.l.length) 0 0 [] He (by omega) (by omega) (by omega) (by simp;omega) hab
 simp only [Y6,Y8,amj,(show ((1:Nat):Int)=1 from rfl),amf,OP,amw,aof,anm] at h1 h2 h3;simp (config:=apy) only [Zh M,↓Zi,Nat.reduceBEq,Nat.reduceAdd,env,ae,bT,h1,h2,h3];unfold FF;cases A5 a.l with
 |false=>rfl
 |true=>
  cases A5 b.l with
  |false=>rfl
  |true=>
   simp only [anc,abc,Zv];cases nY a.l b.l with
   |none=>simp only [mgO,aav,Vl]
   |some r=>
    simp only [mgO,amH,Vl];simp (config:=apy) only [Zh M,↓Zi,Nat.reduceBEq,Nat.reduceAdd,env,ae,bT,Vk,implies_true]
end
theorem Ts:∀ x:Zc,Op.bytesLess x x=false
 |[]=>rfl
 |a::x=>by
  have h:¬ a<a:=by simp
  simp only [Op.bytesLess,Ts x,anz,aoo,amq h]
theorem Tt:∀ {x y:Zc},Op.bytesLess x y=false→Op.bytesLess y x=false→x=y
 |[],[],_,_=>rfl
 |[],_::_,h,_=>by simp [Op.bytesLess] at h
 |_::_,[],_,h=>by simp [Op.bytesLess] at h
 |a::x,b::y,h1,h2=>by
  simp only [Op.bytesLess,anR,anT] at h1 h2;have hab:a=b:=UInt8.le_antisymm (UInt8.not_lt.1 h2.1) (UInt8.not_lt.1 h1.1);subst hab;simp only [amV,amY] at h1 h2;rw [Tt h1.2 h2.2]
theorem Eu:∀ {x y z:Zc},Op.bytesLess x y=true→Op.bytesLess y z=true→Op.bytesLess x z=true
 |_,[],_,h,_=>by cases ‹List UInt8› <;> simp [Op.bytesLess] at h
 |_,_::_,[],_,h=>by simp [Op.bytesLess] at h
 |[],_::_,_::_,_,_=>rfl
 |a::x,b::y,c::z,h1,h2=>by
  simp only [Op.bytesLess,anN,ana,amb,amU] at h1 h2 ⊢;rcases h1 with h1 | ⟨rfl,h1⟩
  ·rcases h2 with h2 | ⟨rfl,h2⟩
   ·exact .inl (UInt8.lt_trans h1 h2)
   ·exact .inl h1
  ·rcases h2 with h2 | ⟨rfl,h2⟩
   ·exact .inl h2
   ·exact .inr ⟨rfl,Eu h1 h2⟩
theorem KI{x y:Zc}(h:Op.bytesLess x y=true):(x == y)=false:=by
 cases h2:x == y with
 |false=>rfl
 |true=>rw [eq_of_beq h2,Ts] at h;cases h
theorem Av:∀ {l:List aw}{p:aw},rE p l=true→∀ x∈l,Op.bytesLess p.name x.name=true
 |[],_,_,_,h=>by cases h
 |y::l,p,h,x,hx=>by
  simp only [rE,amb] at h;rcases ank.1 hx with rfl | hx
  ·exact h.1
  ·exact Eu h.1 (Av h.2 x hx)
theorem Ck{x:aw}{l:List aw}(h:A5 (x::l)=true):A5 l=true:=by
 cases l with
 |nil=>rfl
 |cons y l=>simp only [A5,rE,amb] at h ⊢;exact h.2
theorem I6{x:aw}{b:List aw}(h:∀ y∈b,(x.name == y.name)=false):(b.any fun g=>ma x g)=false:=by
 rw [aoQ];intro y hy;simp [ma,h y hy]
theorem wP(x:aw)(a b:List aw):re (x::a) b=((b.any fun g=>ma x g)||re a b):=rfl
theorem B7(y:aw):∀ (a b:List aw),re a (y::b)=((a.any fun f=>ma f y)||re a b)
 |[],_=>rfl
 |x::a,b=>by
  rw [wP,wP,B7 y a b,anr,anr];cases ma x y<;>cases (b.any fun g=>ma x g)<;>cases (a.any fun f=>ma f y)<;>simp
theorem Gl{y:aw}{a:List aw}(h:∀ x∈a,(x.name == y.name)=false):(a.any fun f=>ma f y)=false:=by
 rw [aoQ];intro x hx;simp [ma,h x hx]
theorem xD:∀ (n:Nat) (a b:List aw),a.length+b.length≤n→A5 a=true→A5 b=true→(nY a b).isSome = !re a b
 |_,[],b,_,_,_=>by cases b<;>simp [nY,re]
 |_,x::a,[],_,_,_=>by
  have:re (x::a) []=false:=by simp [re]
  rw [this];simp [nY]
 |0,x::a,y::b,h,_,_=>by simp at h
 |n+1,x::a,y::b,h,ha,hb=>by
  have hxa:∀ z∈a,Op.bytesLess x.name z.name=true:=Av ha;have hyb:∀ z∈b,Op.bytesLess y.name z.name=true:=Av hb;simp only [amk] at h;rw [nY];cases c1:Op.bytesLess x.name y.name with
  |true=>
   simp only [aoR]
   rw [xD n a (y::b) (by simp only [amk];omega) (Ck ha) hb,wP,I6 (x:=x) (b:=y::b) (fun z hz=>by
    rcases ank.1 hz with rfl | hz
    ·exact KI c1
    ·exact KI (Eu c1 (hyb z hz))),anH]
  |false=>
   simp only;cases c2:Op.bytesLess y.name x.name with
   |true=>
    simp only [aoR]
    rw [xD n (x::a) b (by simp only [amk];omega) ha (Ck hb),B7,Gl (y:=y) (a:=x::a) (fun z hz=>by
     rw [Au];rcases ank.1 hz with rfl | hz
     ·exact KI c2
     ·exact KI (Eu c2 (hxa z hz))),anH]
   |false=>
    have hn:=Tt c1 c2;simp only [hn,amV,amY];cases c3:x.value == y.value with
    |true=>
     simp only [aoR]
     rw [xD n a b (by omega) (Ck ha) (Ck hb),wP,B7,anr,I6 (x:=x) (b:=b) (fun z hz=>by rw [hn];exact KI (hyb z hz)),
      Gl (y:=y) (a:=a) (fun z hz=>by rw [Au,← hn];exact KI (hxa z hz))]
     simp [ma,c3]
    |false=>
     simp only [ape];rw [wP,anr];simp [ma,hn,c3]
theorem NF{a b:List aw}(ha:A5 a=true)(hb:A5 b=true):(FF a b).isSome = !re a b:=by
 rw [FF,ha,hb];exact xD _ a b (amp _) ha hb
theorem uf{α:Type}{F:Nat→α→Int}:∀ {l:List α}{s:Nat},tF F s l=0→∀ (k:Nat) (x:α),l[k]?=some x→F (s+k) x=0
 |[],_,_,k,x,h=>by simp at h
 |y::l,s,h,k,x,hx=>by
  rw [tF] at h;cases hy:F s y == 0 with
  |false=>
   rw [hy] at h;simp only [anW,Zv] at h;rw [h] at hy;simp at hy
  |true=>
   rw [hy] at h;simp only [anS,Zv] at h;cases k with
   |zero=>obtain rfl:y=x:=by simpa using hx
          exact eq_of_beq hy
   |succ k=>
    have:=uf h k x (by simpa using hx);rwa [show s+1+k=s+(k+1) by omega] at this
theorem FG{α:Type}{F:Nat→α→Int}{most:Int}{l:List α}(h:j9 most F l=0):(l.length:Int)≤most∧∀ (k:Nat) (x:α),l[k]?=some x→F k x=0:=by
 unfold j9 at h;cases hd:decide (most<(l.length:Int)) with
 |true=>rw [hd] at h;simp [Zv] at h
 |false=>
  rw [hd] at h;simp only [Zv] at h;refine ⟨by simpa using hd,fun k x hx => ?_⟩;have:=uf h k x hx;rwa [amJ] at this
theorem PZ:∀ {l:List aw},(∀ (i:Nat) (g f:aw),l[i]?=some g→l[i+1]?=some f→Op.bytesLess g.name f.name=true)→A5 l=true
 |[],_=>rfl
 |[x],_=>rfl
 |x::y::l,h=>by
  have h0:=h 0 x y rfl rfl;have h1:A5 (y::l)=true:=PZ (fun i g f hg hf=>h (i+1) g f (by simpa using hg) (by simpa using hf));simp only [A5,rE,amb] at h1 ⊢;exact ⟨h0,h1⟩
theorem adB{l:Lex}{b:List aw}(h:iW l b=0):b.length≤8∧A5 b=true:=by
 obtain ⟨h1,h2⟩:=FG h;refine ⟨by omega,PZ fun i g f hg hf => ?_⟩;have:=h2 (i+1) f hf;unfold BY at this;split at this
 ·exact absurd this (by decide)
 ·rw [qq hg,qq hg] at this
  revert this;cases (!List.any _ _) with
  |true=>intro h;simp [Zv] at h
  |false=>
   cases c:g.name == f.name with
   |true=>intro h;simp [Zv] at h
   |false=>
    cases c2:Op.bytesLess g.name f.name with
    |true=>intro _;rfl
    |false=>intro h;simp [Zv] at h
section
attribute [local congr] aF aS cC bn aG aX aL aH az aA aM aN
variable{E:br}(M:cH bM E)
theorem Cm{α:Type}(p:α→Bool)(v:AV)(H:List Y4)(x:Option Out):∀ (l:List α) (i:Nat),orE (cL (fun _ o=>Zv (p o) (some v) none) i l) H x=Zv (l.any p) (some (.ret v,H)) x
 |[],_=>rfl
 |o::l,i=>by
  rw [np,PO,Ea,BF,M8,Cm p v H x l,anr];cases p o<;>rfl
theorem Vm(r:Option (List aw)):Vl r = .tuple [.slice .any 2 ((r.getD []).map aw.row),.bool r.isSome]:=by cases r<;>rfl
theorem re0{H H0:List Y4}{l:Lex}{x:aT}{n0:Nat}(hl:l.ok n0){p q:Nat}{T T2:TypeId}(hp:H[p]?=some (.cells l.row T))(hq:H[q]?=some (.cells x.row T2)){c:Int}{L:List aT}(hL:∀ k,k<L.length→l.entries.l[k]?=L[k]?)(hLl:L.length≤l.entries.l.length)(hc:bY H0 H)(k:List ZA):∀ (n i:Nat) (He:List Y4),i+n=L.length →
  M.go bJ H0 (.c fS :: .lp ⟨(some [1,3,4,5,6]),[],false⟩ fS He :: .ZU 2 :: .c (.lv [1,3,4,5])::k) (kv [(1,.ptr p 0),(3,.int .i64 L.length),(4,.ptr q 0),(5,.int .i64 c),(6,.int .i64 i)]) H =
   orE (cL (fun _ o=>Zv (o.lem == x.lem&&o.cls == x.cls) (some (.int .u8 6)) none) i (L.drop i)) (H.take H0.length) (M.go bJ H0 k (kv [(1,.ptr p 0),(3,.int .i64 L.length),(4,.ptr q 0),(5,.int .i64 c)]) H)
 |0,i,He,h=>by
  have e:i=L.length:=by omega
  subst e;rw [ah M fS.eq_1];simp (config:=apy) only [Zh M,↓Zi,Nat.reduceBEq,Nat.reduceAdd,env,ae,bK,ame,al9]
 |n+1,i,He,h=>by
  have hi:i<L.length:=by omega
  have hx:=al4 hi;have hd:=al6 hi;have hm:=amc hi;have ih:=fun He=>re0 (H:=H) (H0:=H0) (l:=l) (x:=x) (n0:=n0) (hl:=hl) (p:=p) (q:=q) (T:=T) (T2:=T2) (hp:=hp) (hq:=hq) (c:=c) (L:=L) (hL:=hL) (hLl:=hLl) hc k n (i+1)  He (by omega)
  simp only [Y6,Y8] at ih;have hx2:l.entries.l[i]?=some L[i]:=(hL i hi).trans hx;rw [ah M fS.eq_1];simp (config:=apy) only [Zh M,↓Zi,Nat.reduceBEq,Nat.reduceAdd,env,ae,bK,hx,hd,hi,ih,bt hi (ams hLl hl.entries.len),aE (show i<l.entries.l.length by omega),hx2,dD,kJ,hp,hq,hc]
theorem re1{H H0:List Y4}(hR:yh E){x:aT}{p q:Nat}{T2:TypeId}(hq:H[q]?=some (.cells x.row T2)){i0:Nat}{sl:Sl bU}(hs:sl.l.length≤aZ)(hab:∀ s∈sl.l,x.Zf.l.length+s.Zf.l.length≤4000000000000)(hc:bY H0 H)(k:List ZA):∀ (n i:Nat) (He:List Y4),i+n=(sl.l).length →
  M.go bJ H0 (.c fT :: .lp ⟨(some [1,3,4,8,9]),[],false⟩ fT He :: .ZU 4 :: .c (.lv [1,3,4,8])::k) (kv [(1,.ptr p 0),(3,.int .i64 i0),(4,.ptr q 0),(8,.slice sl.tag 4 (sl.l.map bU.row)),(9,.int .i64 i)]) H =
   orE (cL (fun _ s=>Zv (!(FF x.Zf.l s.Zf.l).isSome) (some (.int .u8 10)) none) i (sl.l.drop i)) (H.take H0.length) (M.go bJ H0 k (kv [(1,.ptr p 0),(3,.int .i64 i0),(4,.ptr q 0),(8,.slice sl.tag 4 (sl.l.map bU.row))]) H)
 |0,i,He,h=>by
  have e:i=(sl.l).length:=by omega
  subst e;rw [ah M fT.eq_1];simp (config:=apy) only [Zh M,↓Zi,Nat.reduceBEq,Nat.reduceAdd,env,ae,bK,ame,al9]
 |n+1,i,He,h=>by
  have hi:i<(sl.l).length:=by omega
  have hx:=al4 hi;have hd:=al6 hi;have hm:=amc hi;have ih:=fun He=>re1 (H:=H) (H0:=H0) (hR:=hR) (x:=x) (p:=p) (q:=q) (T2:=T2) (hq:=hq) (i0:=i0) (sl:=sl) (hs:=hs) (hab:=hab) hc k n (i+1)  He (by omega)
  simp only [Y6,Y8] at ih;rw [ah M fT.eq_1];simp (config:=apy) only [Zh M,↓Zi,Nat.reduceBEq,Nat.reduceAdd,env,ae,bK,hx,hd,hi,ih,bt hi hs,aE hi,CJ,kJ,hq,hc,OQ M hR (hab _ hm),Vm]
theorem re2{H H0:List Y4}{x:aT}{f:bE}{p q r:Nat}{T2 T3:TypeId}(hq:H[q]?=some (.cells x.row T2))(hr:H[r]?=some (.cells f.row T3)){i0:Nat}{sv:AV}{L:List bE}(hL:∀ k,k<L.length→x.Zg.l[k]?=L[k]?)(hLl:L.length≤x.Zg.l.length)(hxl:x.Zg.l.length≤aZ)(hc:bY H0 H)(k:List ZA):∀ (n i:Nat) (He:List Y4),i+n=L.length →
  M.go bJ H0 (.c fU :: .lp ⟨(some [1,3,4,8,12,13,14]),[],false⟩ fU He :: .ZU 8 :: .c (.lv [1,3,4,8,12,13])::k) (kv [(1,.ptr p 0),(3,.int .i64 i0),(4,.ptr q 0),(8,sv),(12,.int .i64 L.length),(13,.ptr r 0),(14,.int .i64 i)]) H =
   orE (cL (fun _ o=>Zv (o.slot == f.slot) (some (.int .u8 6)) none) i (L.drop i)) (H.take H0.length) (M.go bJ H0 k (kv [(1,.ptr p 0),(3,.int .i64 i0),(4,.ptr q 0),(8,sv),(12,.int .i64 L.length),(13,.ptr r 0)]) H)
 |0,i,He,h=>by
  have e:i=L.length:=by omega
  subst e;rw [ah M fU.eq_1];simp (config:=apy) only [Zh M,↓Zi,Nat.reduceBEq,Nat.reduceAdd,env,ae,bK,ame,al9]
 |n+1,i,He,h=>by
  have hi:i<L.length:=by omega
  have hx:=al4 hi;have hd:=al6 hi;have hm:=amc hi;have ih:=fun He=>re2 (H:=H) (H0:=H0) (x:=x) (f:=f) (p:=p) (q:=q) (r:=r) (T2:=T2) (T3:=T3) (hq:=hq) (hr:=hr) (i0:=i0) (sv:=sv) (L:=L) (hL:=hL) (hLl:=hLl) (hxl:=hxl) hc k n (i+1)  He (by omega)
  simp only [Y6,Y8] at ih;have hx2:x.Zg.l[i]?=some L[i]:=(hL i hi).trans hx;rw [ah M fU.eq_1];simp (config:=apy) only [Zh M,↓Zi,Nat.reduceBEq,Nat.reduceAdd,env,ae,bK,hx,hd,hi,ih,bt hi (ams hLl hxl),aE (show i<x.Zg.l.length by omega),hx2,kJ,zF,hq,hr,hc]
theorem B8{α:Type}(l:List α)(i:Nat):∀ k,k<(l.take i).length→l[k]?=(l.take i)[k]? := fun k hk=>by
 rw [am9];simp at hk;omega
theorem KJ{α:Type}{l:List α}{i:Nat}(h:i≤l.length):(l.take i).length=i:=by simp;omega
theorem re3{H H0:List Y4}(hN:dx E){x:aT}{n0:Nat}(hx0:x.ok n0)(hn:n0≤H.length){p q:Nat}(hpl:p<H.length){T2:TypeId}(hq:H[q]?=some (.cells x.row T2)){i0:Nat}{sl:Sl bU}(hsw:Wk H.length (.slice sl.tag 4 (sl.l.map bU.row)) (.slice sl.tag 4 (sl.l.map bU.row)))(hc:bY H0 H)(k:List ZA):∀ (n i:Nat),i+n=(x.Zg.l).length →
  M.go bJ H0 (.c fV :: .lp ⟨(some [1,3,4,8,12]),[],true⟩ fV H :: .ZU 6 :: .c (.lv [1,3])::k) (kv [(1,.ptr p 0),(3,.int .i64 i0),(4,.ptr q 0),(8,.slice sl.tag 4 (sl.l.map bU.row)),(12,.int .i64 i)]) H =
   orE (cL (qo (KD sl.l.length x.Zg.l)) i (x.Zg.l.drop i)) (H.take H0.length) (M.go bJ H0 k (kv [(1,.ptr p 0),(3,.int .i64 i0)]) H)
 |0,i,h=>by
  have e:i=(x.Zg.l).length:=by omega
  subst e;rw [ah M fV.eq_1];simp (config:=apy) only [Zh M,↓Zi,Nat.reduceBEq,Nat.reduceAdd,env,ae,bK,ame,al9,kJ,hq]
 |n+1,i,h=>by
  have hi:i<(x.Zg.l).length:=by omega
  have hx:=al4 hi;have hd:=al6 hi;have hm:=amc hi;have ih:=re3 (H:=H) (H0:=H0) (hN:=hN) (x:=x) (n0:=n0) (hx0:=hx0) (hn:=hn) (p:=p) (q:=q) (hpl:=hpl) (T2:=T2) (hq:=hq) (i0:=i0) (sl:=sl) (hsw:=hsw) hc k n (i+1)  (by omega);simp only [Y6,Y8] at ih
  have hq':=fun L=>bR (L:=L) hq
  have w1:Wk H.length (.ptr p 0) (.ptr p 0):=ZN hpl;have w2:Wk H.length (.ptr q 0) (.ptr q 0):=ZN (al3.1 hq).1;have h0:=fun k He=>re2 M (H:=H++[.cells x.Zg.l[i].row bk]) (H0:=H0) (x:=x) (f:=x.Zg.l[i]) (p:=p) (q:=q) (r:=H.length) (T2:=T2) (T3:=bk) (hq' _) (by rw [cY];rfl) (i0:=i0) (sv:=.slice sl.tag 4 (sl.l.map bU.row)) (L:=x.Zg.l.take i) (B8 _ _) (by simp;omega) hx0.Zg.len (nZ hc _) k (x.Zg.l.take i).length 0 He (by omega)
  simp only [Y6,Y8,amj,amf,KJ (aoH hi),Cm] at h0;rw [ah M fV.eq_1];simp (config:=apy) only [Zh M,↓Zi,Nat.reduceBEq,Nat.reduceAdd,env,ae,bK,hx,hd,hi,ih,Zx,AV.cell,hq,hq',w1,w2,hsw,h0,bt hi hx0.Zg.len,aE hi,zF,kJ,xA M hN (hx0.Zg.all _ hm).word,hc,l9,KD,qE]
end
section
attribute [local congr] aF aS cC bn aG aX aL aH az aA aM aN
variable{E:br}(M:cH bM E)
def Tu(l:Lex):Prop:=∀ c∈l.Y7.l,∀ s∈c.Zd.l,s.Zf.l.length≤8∧A5 s.Zf.l=true
theorem Tv{l:Lex}(h:pD l=0):Tu l:=fun c hc s hs=>by
 obtain ⟨k,hk⟩:=anI hc;have h1:=(FG h).2 k c hk;unfold B1 at h1;revert h1;cases (!nh c.name) with
 |true=>intro h;simp [Zv] at h
 |false=>
  cases (List.any _ _) with
  |true=>intro h;simp [Zv] at h
  |false=>
   cases (decide ((24:Int)<(c.Zd.l.length:Int))) with
   |true=>intro h;simp [Zv] at h
   |false=>
    cases ((c.Zd.l.length:Int) == 0) with
    |true=>intro h;simp [Zv] at h
    |false=>
     intro h1;obtain ⟨j,hj⟩:=anI hs;have h2:=(FG h1).2 j s hj;unfold BZ at h2;revert h2;cases (decide (s.cut<0)||decide (24<s.cut) || !jq l8 s.pre || !jq l8 s.add) with
     |true=>intro h;simp [Zv] at h
     |false=>intro h;exact adB h
theorem KK{α:Type}{p q:α→Bool}:∀ {l:List α},(∀ x∈l,p x=q x)→l.any p=l.any q
 |[],_=>rfl
 |x::l,h=>by rw [anr,anr,h x (by simp),KK (fun y hy=>h y (by simp [hy]))]
theorem re4{H H0:List Y4}(hN:dx E)(hR:yh E){l:Lex}{n0:Nat}(hl:l.ok n0)(hn:n0≤H.length)(hsh:Tu l){p:Nat}{T:TypeId}(hp:H[p]?=some (.cells l.row T))(hc:bY H0 H)(k:List ZA):∀ (n i:Nat),i+n=(l.entries.l).length →
  M.go bJ H0 (.c dG :: .lp ⟨(some [1,3]),[],true⟩ dG H :: .ZU 0 :: .c (.lv [])::k) (kv [(1,.ptr p 0),(3,.int .i64 i)]) H =
   orE (cL (qo (wM l)) i (l.entries.l.drop i)) (H.take H0.length) (M.go bJ H0 k .leaf H)
 |0,i,h=>by
  have e:i=(l.entries.l).length:=by omega
  subst e;rw [ah M dG.eq_1];simp (config:=apy) only [Zh M,↓Zi,Nat.reduceBEq,Nat.reduceAdd,env,ae,bK,ame,al9,dD,hp]
 |n+1,i,h=>by
  have hi:i<(l.entries.l).length:=by omega
  have hx:=al4 hi;have hd:=al6 hi;have hm:=amc hi;have ih:=re4 (H:=H) (H0:=H0) (hN:=hN) (hR:=hR) (l:=l) (n0:=n0) (hl:=hl) (hn:=hn) (hsh:=hsh) (p:=p) (T:=T) (hp:=hp) hc k n (i+1)  (by omega);simp only [Y6,Y8] at ih
  have hp':=fun L=>bR (L:=L) hp
  have w1:Wk H.length (.ptr p 0) (.ptr p 0):=ZN (al3.1 hp).1;have hx0:=hl.entries.all _ hm;have hcf:=fun H=>Dm M hR hl l.entries.l[i].cls H
  rcases sx (fun c:aV=>c.name == l.entries.l[i].cls) l.Y7.l 0 with ⟨h1,h2⟩ | ⟨j,c,h1,h2,h3⟩
  ·rw [h1] at hcf
   have hc2:uR l l.entries.l[i].cls=none:=h2;rw [ah M dG.eq_1];simp (config:=apy) only [Zh M,↓Zi,Nat.reduceBEq,Nat.reduceAdd,env,ae,bK,Zx,AV.cell,Nat.reduceMul,Nat.reduceLeDiff,hx,hd,hi,ih,hp,hp',w1,hcf,Va,dD,kJ,aE hi,xA M hN hx0.lem,l9,wM,hc2,qE,hc]
  ·rw [h1,amJ] at hcf
   have hc2:uR l l.entries.l[i].cls=some c:=h3;have hj:j<l.Y7.l.length:=(al3.1 h2).1;have hcm:c∈l.Y7.l:=aml h2;have hco:=hl.Y7.all c hcm;have hq:∀ L,(H++(.cells l.entries.l[i].row aD::L))[H.length]?=some (.cells l.entries.l[i].row aD):=fun L=>by rw [cY];rfl
   have h4:=fun k He=>re0 M (H:=H++[.cells l.entries.l[i].row aD]) (H0:=H0) hl (p:=p) (q:=H.length) (T:=T) (T2:=aD) (hp' _) (hq []) (c:=(j:Int)) (L:=l.entries.l.take i) (B8 _ _) (by simp;omega) (nZ hc _) k (l.entries.l.take i).length 0 He (by omega)
   simp only [Y6,Y8,amj,amf,KJ (aoH hi),Cm] at h4;cases hb:(iW l l.entries.l[i].Zf.l == 0) with
   |false=>
    rw [ah M dG.eq_1];simp (config:=apy) only [Zh M,↓Zi,Nat.reduceBEq,Nat.reduceAdd,env,ae,bK,Zx,AV.cell,Nat.reduceMul,Nat.reduceLeDiff,hx,hd,hi,ih,hp,hp',w1,hcf,Nl,h4,hb,dD,kJ,aE hi,xA M hN hx0.lem,xC M hR hl hx0.Zf.len,l9,wM,hc2,qE,LV,hc]
   |true=>
    obtain ⟨hb1,hb2⟩:=adB (eq_of_beq hb);have h5:=fun k He=>re1 M (H:=H++[.cells l.entries.l[i].row aD]) (H0:=H0) hR (x:=l.entries.l[i]) (p:=p) (q:=H.length) (T2:=aD) (hq []) (i0:=i) (sl:=c.Zd) hco.Zd.len (fun s hs=>by have:=(hsh c hcm s hs).1;omega) (nZ hc _) k c.Zd.l.length 0 He (by omega)
    have h6:=fun k=>re3 M (H:=H++[.cells l.entries.l[i].row aD]) (H0:=H0) hN hx0 (by simp;omega) (p:=p) (q:=H.length) (by have:=(al3.1 hp).1;simp;omega) (T2:=aD) (hq []) (i0:=i) (sl:=c.Zd) ((hco.Zd.mono (show n0≤_ by simp;omega) (fun _ h=>h.mono (show n0≤(H++[Y4.cells l.entries.l[i].row aD]).length by simp;omega))).wk (fun _ h=>h.wk)) (nZ hc _) k l.entries.l[i].Zg.l.length 0 (by omega)
    have e5:(c.Zd.l.any fun s => !(FF l.entries.l[i].Zf.l s.Zf.l).isSome)=c.Zd.l.any fun s=>re l.entries.l[i].Zf.l s.Zf.l:=KK fun s hs=>by rw [NF hb2 (hsh c hcm s hs).2,Bool.not_not]
    simp only [Y6,Y8,amj,amf,Cm,e5] at h5 h6;rw [ah M dG.eq_1];simp (config:=apy) only [Zh M,↓Zi,Nat.reduceBEq,Nat.reduceAdd,env,ae,bK,Zx,AV.cell,Nat.reduceMul,Nat.reduceLeDiff,hx,hd,hi,ih,hp,hp',w1,hcf,Nl,h4,h5,h6,hb,h2,aE hj,dD,kJ,jy,aE hi,bt hi hl.entries.len,xA M hN hx0.lem,xC M hR hl hx0.Zf.len,l9,wM,hc2,qE,En,hc]
end
section
attribute [local congr] aF aS cC bn aG aX aL aH az aA aM aN
variable{E:br}(M:cH bM E)
theorem L0(hN:dx E)(hR:yh E){l:Lex}{n:Nat}(hl:l.ok n)(hsh:Tu l){H:List Y4}(hn:n≤H.length):M.run mH [.agg l.row] H=some (.ret (.int .u8 (tG l)),H):=by
 rw [au M hR.abm rfl (c:=mT) rfl,mT];have h1:=fun k=>re4 M hN hR (H:=H++[.cells l.row ab]) hl (by simp;omega) hsh (p:=H.length) (T:=ab) (by rw [cY];rfl) (Zz H _) k l.entries.l.length 0 (by omega)
 simp only [Y6,Y8,amj,amf] at h1;simp (config:=apy) only [Zh M,↓Zi,Nat.reduceBEq,Nat.reduceAdd,env,ae,bK,h1,dD,Zz,sy,pK,tG,j9]
def CN(p:UInt8):Zc→Bool
 |[]=>true
 |c::t => !decide ((c.toNat:Int)≤(p.toNat:Int))&&CN c t
def Rk:Zc→Bool
 |[]=>true
 |c::t=>CN c t
def geV(v:Zc):Nat→UInt8→Option AV
 |0,_=>none
 |i+1,c=>match v[i]? with
  |some d=>Zv (decide ((c.toNat:Int)≤(d.toNat:Int))) (some (.int .u8 1)) none
  |none=>none
theorem NG{v:Zc}{i:Nat}{d:UInt8}(h:v[i]?=some d)(c:UInt8):geV v (i+1) c=Zv (decide ((c.toNat:Int)≤(d.toNat:Int))) (some (.int .u8 1)) none:=by simp only [geV,h]
theorem KL{α:Type}{b l:List α}{i:Nat}{x:α}(hd:b.drop (i+1)=x::l):b[i+1]?=some x∧b.drop (i+1+1)=l:=by
 constructor
 ·have:=amM (xs:=b) (i:=i+1) (j:=0)
  rw [hd] at this;simpa using this.symm
 ·have:(b.drop (i+1)).drop 1=l:=by rw [hd];rfl
  rwa [aot] at this
theorem KM(v:Zc):∀ (t:Zc) (i:Nat) (p:UInt8),v[i]?=some p→v.drop (i+1)=t→cL (geV v) (i+1) t=Zv (CN p t) none (some (.int .u8 1))
 |[],_,_,_,_=>rfl
 |c::t,i,p,h,hd=>by
  obtain ⟨h2,hd2⟩:=KL hd;rw [np,NG h,KM v t (i+1) c h2 hd2,CN];cases decide ((c.toNat:Int)≤(p.toNat:Int))<;>cases CN c t<;>rfl
theorem OR(v:Zc)(H:List Y4)(x:Option Out):orE (cL (geV v) 1 (v.drop 1)) H x=Zv (Rk v) x (some (.ret (.int .u8 1),H)):=by
 cases v with
 |nil=>rfl
 |cons c t=>
  rw [show List.drop 1 (c::t)=t from rfl,KM (c::t) t 0 c rfl rfl,Rk];cases CN c t<;>rfl
theorem NH(v:Zc):∀ (t:Zc) (i:Nat) (p:UInt8),v[i]?=some p→v.drop (i+1)=t→tF (fun i c=>Zv (Ni v i c) 1 0) (i+1) t=Zv (t.all l8&&CN p t) 0 1
 |[],_,_,_,_=>rfl
 |c::t,i,p,h,hd=>by
  obtain ⟨h2,hd2⟩:=KL hd;rw [tF,NH v t (i+1) c h2 hd2,KC h,anq,CN];cases l8 c<;>cases decide ((c.toNat:Int)≤(p.toNat:Int))<;>cases t.all l8<;>cases CN c t<;>rfl
theorem Vn(l:Lex):Nj l=Zv (ofF [] l.Zs) (Zv (Rk l.Zs) 0 1) 1:=by
 rw [Nj,LU];cases hv:l.Zs with
 |nil=>rfl
 |cons c t=>
  rw [tF,NH (c::t) t 0 c rfl rfl,KB,anq,Rk];cases l8 c<;>cases t.all l8<;>cases CN c t<;>rfl
theorem Ys{H H0:List Y4}{l:Lex}{n0:Nat}(hl:l.ok n0){p:Nat}{T:TypeId}(hp:H[p]?=some (.cells l.row T))(hc:bY H0 H)(k:List ZA):∀ (n i:Nat) (h1:1≤i) (He:List Y4),(l.Zs).length-i=n →
  M.go dy H0 (.c gQ :: .lp ⟨(some [1,3]),[],false⟩ gQ He :: .ZU 0 :: .c (.lv [1])::k) (kv [(1,.ptr p 0),(3,.int .i64 i)]) H =
   orE (cL (geV l.Zs) i (l.Zs.drop i)) (H.take H0.length) (M.go dy H0 k (kv [(1,.ptr p 0)]) H)
 |0,i,h1,He,h=>by
  have e:¬ i<(l.Zs).length:=by omega
  have e2:(l.Zs).drop i=[]:=an9 (by omega);rw [ah M gQ.eq_1];simp (config:=apy) only [Zh M,↓Zi,Nat.reduceBEq,Nat.reduceAdd,env,ae,dW,e,e2,dD,hp]
 |n+1,i,h1,He,h=>by
  have hi:i<(l.Zs).length:=by omega
  have hx:=al4 hi;have hd:=al6 hi;have hm:=amc hi;have ih:=fun h1 He=>Ys (H:=H) (H0:=H0) (l:=l) (n0:=n0) (hl:=hl) (p:=p) (T:=T) (hp:=hp) hc k n (i+1) h1 He (by omega)
  simp only [Y6,Y8] at ih;have ih:=ih (by omega);cases i with
  |zero=>omega
  |succ i=>
   have hx1:l.Zs[i]?=some l.Zs[i]:=al4 (by omega);have hlv:=hl.Zs;rw [ah M gQ.eq_1];simp (config:=apy) only [Zh M,↓Zi,Nat.reduceBEq,Nat.reduceAdd,env,ae,dW,hx,hd,hi,ih,hp,dD,hx1,E7 (show i+1≤aZ by omega),bt hi hlv,NG hx1,hc]
theorem Tw(s:Zc):ofF [43] s=s.all AL:=by
 unfold ofF;congr 1;funext c;simp only [anr,aow,aoo,AL];congr 1;rw [anw];simp;omega
theorem Tx(s:Zc):ofF [43,35,86,67] s=s.all CL:=by
 unfold ofF;congr 1;funext c;simp only [anr,aow,aoo,CL,AL,an4];congr 1;rw [anw];simp;omega
theorem Cn(p:UInt8→Bool)(s:Zc):jq p s=(!decide ((6:Int)<(s.length:Int))&&s.all p):=by
 unfold jq;congr 1;rw [anw];simp
theorem Ty(x:bL):wN x=Zv (x.frm == []||(!ofF [43] x.frm||(!ofF [43] x.to||(!ofF [43,35,86,67] x.left || !ofF [43,35,86,67] x.right)))) 1
  (Zv (decide ((6:Int)<(x.frm.length:Int))||(decide ((6:Int)<(x.to.length:Int))||(decide ((6:Int)<(x.left.length:Int))||decide ((6:Int)<(x.right.length:Int))))) 1 0):=by
 rw [wN,Tw,Tw,Tx,Tx,Cn,Cn,Cn,Cn];cases x.frm == []<;>cases x.frm.all AL<;>cases x.to.all AL<;>cases x.left.all CL<;>cases x.right.all CL<;>cases decide ((6:Int)<(x.frm.length:Int))<;>cases decide ((6:Int)<(x.to.length:Int))<;>cases decide ((6:Int)<(x.left.length:Int))<;>cases decide ((6:Int)<(x.right.length:Int))<;>rfl
theorem Yt{H H0:List Y4}(hN:dx E){l:Lex}{n0:Nat}(hl:l.ok n0){p:Nat}{T:TypeId}(hp:H[p]?=some (.cells l.row T))(hc:bY H0 H)(k:List ZA):∀ (n i:Nat),i+n=(l.Ze.l).length →
  M.go dy H0 (.c gR :: .lp ⟨(some [1,7]),[],true⟩ gR H :: .ZU 2 :: .c (.lv [1])::k) (kv [(1,.ptr p 0),(7,.int .i64 i)]) H =
   orE (cL (qo fun _ x=>wN x) i (l.Ze.l.drop i)) (H.take H0.length) (M.go dy H0 k (kv [(1,.ptr p 0)]) H)
 |0,i,h=>by
  have e:i=(l.Ze.l).length:=by omega
  subst e;rw [ah M gR.eq_1];simp (config:=apy) only [Zh M,↓Zi,Nat.reduceBEq,Nat.reduceAdd,env,ae,dW,ame,al9,dD,hp]
 |n+1,i,h=>by
  have hi:i<(l.Ze.l).length:=by omega
  have hx:=al4 hi;have hd:=al6 hi;have hm:=amc hi;have ih:=Yt (H:=H) (H0:=H0) (hN:=hN) (l:=l) (n0:=n0) (hl:=hl) (p:=p) (T:=T) (hp:=hp) hc k n (i+1)  (by omega);simp only [Y6,Y8] at ih;have hp':=fun L=>bR (L:=L) hp
  have w1:Wk H.length (.ptr p 0) (.ptr p 0):=ZN (al3.1 hp).1;have hx0:=hl.Ze.all _ hm;have e1:=Ty l.Ze.l[i];rw [ah M gR.eq_1];simp (config:=apy) only [Zh M,↓Zi,Nat.reduceBEq,Nat.reduceAdd,env,ae,dW,hx,hd,hi,ih,Zx,AV.cell,hp,hp',w1,bt hi hl.Ze.len,aE hi,dD,C4,Ar M hN hx0.frm (more:=[43]) (by simp [aZ]),Ar M hN hx0.to (more:=[43]) (by simp [aZ]),Ar M hN hx0.left (more:=[43,35,86,67]) (by simp [aZ]),Ar M hN hx0.right (more:=[43,35,86,67]) (by simp [aZ]),l9,e1,an4,qE,hc]
theorem Vo(l:Lex)(x:dn):B2 l x=Zv (decide (vY (fun t=>t.name == x.cls) 0 l.Y7.l<0)) 5 (Zv (!ofF [] x.glue||decide ((6:Int)<(x.glue.length:Int))) 1 (iW l x.Zf.l)):=by
 rw [← FE];unfold B2 uR;rcases sx (fun t:aV=>t.name == x.cls) l.Y7.l 0 with ⟨h1,h2⟩ | ⟨j,c,h1,h2,h3⟩
 ·rw [h1,h2];rfl
 ·rw [h1,h3,Nl];rfl
theorem Yu{H H0:List Y4}(hN:dx E)(hR:yh E){l:Lex}{n0:Nat}(hl:l.ok n0){p:Nat}{T:TypeId}(hp:H[p]?=some (.cells l.row T))(hc:bY H0 H)(k:List ZA):∀ (n i:Nat),i+n=(l.Zm.l).length →
  M.go dy H0 (.c gS :: .lp ⟨(some [1,9]),[],true⟩ gS H :: .ZU 4 :: .c (.lv [])::k) (kv [(1,.ptr p 0),(9,.int .i64 i)]) H =
   orE (cL (qo fun _ x=>B2 l x) i (l.Zm.l.drop i)) (H.take H0.length) (M.go dy H0 k .leaf H)
 |0,i,h=>by
  have e:i=(l.Zm.l).length:=by omega
  subst e;rw [ah M gS.eq_1];simp (config:=apy) only [Zh M,↓Zi,Nat.reduceBEq,Nat.reduceAdd,env,ae,dW,ame,al9,dD,hp]
 |n+1,i,h=>by
  have hi:i<(l.Zm.l).length:=by omega
  have hx:=al4 hi;have hd:=al6 hi;have hm:=amc hi;have ih:=Yu (H:=H) (H0:=H0) (hN:=hN) (hR:=hR) (l:=l) (n0:=n0) (hl:=hl) (p:=p) (T:=T) (hp:=hp) hc k n (i+1)  (by omega);simp only [Y6,Y8] at ih;have hp':=fun L=>bR (L:=L) hp
  have w1:Wk H.length (.ptr p 0) (.ptr p 0):=ZN (al3.1 hp).1;have hx0:=hl.Zm.all _ hm;have e1:=Vo l l.Zm.l[i];rw [ah M gS.eq_1];simp (config:=apy) only [Zh M,↓Zi,Nat.reduceBEq,Nat.reduceAdd,env,ae,dW,hx,hd,hi,ih,Zx,AV.cell,hp,hp',w1,bt hi hl.Zm.len,aE hi,dD,Gi,Dm M hR hl,Ar M hN hx0.glue (more:=[]) (by simp),xC M hR hl hx0.Zf.len,l9,e1,qE,LV,hc]
end
section
attribute [local congr] aF aS cC bn aG aX aL aH az aA aM aN
variable{E:br}(M:cH bM E)
theorem Yv(e:Int)(i:Nat)(l:List Int):tF (fun _ e=>e) i (e::l)=Zv (!(e == 0)) e (tF (fun _ e=>e) (i+1) l):=rfl
theorem Yw(i:Nat):tF (fun _ (e:Int)=>e) i []=0:=rfl
theorem I7(hN:dx E)(hR:yh E){l:Lex}{n:Nat}(hl:l.ok n){H:List Y4}(hn:n≤H.length):M.run kY [.agg l.row] H=some (.ret (.int .u8 (iV l)),H):=by
 rw [au M hR.ab4 rfl (c:=oT) rfl,oT];have hp:(H++[Y4.cells l.row ab])[H.length]?=some (.cells l.row ab):=by rw [cY];rfl
 have h0:=fun k He=>Ys M hl hp (Zz H _) k (l.Zs.length-1) 1 (by omega) He rfl
 have h1:=fun k=>Yt M hN hl hp (Zz H _) k l.Ze.l.length 0 (by omega)
 have h2:=fun k=>Yu M hN hR hl hp (Zz H _) k l.Zm.l.length 0 (by omega)
 simp only [Y6,Y8,amj,(show ((1:Nat):Int)=1 from rfl),amf,OR] at h0 h1 h2;have ho:=Ar M hN hl.Zs (more:=[]) (by simp)
 have e1:tF (fun _ e=>e) 0 [Nj l,pC l,pD l,tG l,vF l,ud l]=Zv (ofF [] l.Zs) (Zv (Rk l.Zs) (Zv (!(pC l == 0)) (pC l) (Zv (!(pD l == 0)) (pD l) (Zv (!(tG l == 0)) (tG l) (Zv (!(vF l == 0)) (vF l) (ud l))))) 1) 1:=by
  simp only [Yv,Yw,Vn];cases ofF [] l.Zs with
  |false=>rfl
  |true=>
   cases Rk l.Zs with
   |false=>rfl
   |true=>
    simp only [Zv];cases h5:ud l == 0 with
    |false=>rfl
    |true=>rw [eq_of_beq h5];rfl
 rw [iV,e1];cases hb:pD l == 0 with
 |false=>
  simp (config:=apy) only [Zh M,↓Zi,Nat.reduceBEq,Nat.reduceAdd,env,ae,dW,h0,dD,ho,Gk M hN hR hl,Et M hN hR hl,hb]
 |true=>
  have hsh:=Tv (eq_of_beq hb);have e4:vF l=Zv (decide ((16:Int)<(l.Ze.l.length:Int))) 3 (tF (fun _ x=>wN x) 0 l.Ze.l):=rfl;have e5:ud l=Zv (decide ((8:Int)<(l.Zm.l.length:Int))) 3 (tF (fun _ x=>B2 l x) 0 l.Zm.l):=rfl
  have h1':∀ (x:Option Out),orE (cL (qo fun _ x=>wN x) 0 l.Ze.l) H x=Zv (tF (fun _ x=>wN x) 0 l.Ze.l == 0) x (some (.ret (.int .u8 (tF (fun _ x=>wN x) 0 l.Ze.l)),H)):=fun x=>by
   rw [← En,LV]
  simp (config:=apy) only [Zh M,↓Zi,Nat.reduceBEq,Nat.reduceAdd,env,ae,dW,h0,h1,h2,h1',dD,ho,Gk M hN hR hl,Et M hN hR hl,L0 M hN hR hl hsh,hn,hb,sy];rw [e4,e5];cases decide ((16:Int)<(l.Ze.l.length:Int))<;>cases decide ((8:Int)<(l.Zm.l.length:Int))<;>simp only [Zv,slc]<;>rfl
end
section
attribute [local congr] aF aS cC bn aG aX aL aH az aA aM aN
variable{E:br}(M:cH bM E)
theorem xi{b:Bool}{x y:Int}(hx:x≠0)(h:Zv b x y=0):b=false∧y=0:=by
 cases b with
 |false=>exact ⟨rfl,h⟩
 |true=>exact absurd h hx
theorem I8{α:Type}{m:Nat}{F:Nat→α→Int}{l:List α}(h:j9 (m:Int) F l=0):l.length≤m∧∀ (k:Nat) (x:α),l[k]?=some x→F k x=0:=by
 obtain ⟨h1,h2⟩:=xi (by decide) h;have:=of_decide_eq_false h1;refine ⟨by omega,fun k x hx => ?_⟩;have:=uf h2 k x hx;rwa [amJ] at this
theorem wQ{s:Zc}(h:nh s=true):s.length≤12∧s≠[]:=by
 cases s with
 |nil=>simp [nh] at h
 |cons c t=>
  simp only [nh,amb,ana] at h;exact ⟨by omega,by simp⟩
theorem KN{s:Zc}(h:sw s=true):s.length≤24:=by
 simp only [sw,KA,amb,ana] at h;omega
theorem ug{p:UInt8→Bool}{s:Zc}(h:jq p s=true):s.length≤6:=by
 simp only [jq,amb,ana] at h;omega
theorem JS{α:Type}{l:List α}{x:α}(h:x∈l):∃ k:Nat,l[k]?=some x:=anI h
theorem Vp{l:Lex}(h:Nj l=0):l.Zs.length≤256:=by
 have h1:∀ i (c:UInt8),l.Zs[i]?=some c→Ni l.Zs i c=false:=fun i c hc=>by
  have:=uf h i c hc;rw [amJ] at this;exact (xi (by decide) this).1
 have h2:∀ i (c:UInt8),l.Zs[i]?=some c→i≤c.toNat:=by
  intro i;induction i with
  |zero=>intro c _;omega
  |succ i ih=>
   intro c hc;have hlt:=(al3.1 hc).1;have hd:l.Zs[i]?=some l.Zs[i]:=al4 (by omega);have hb:=h1 _ c hc;simp only [Ni,hd,anR,anT] at hb;have:=ih _ hd;omega
 cases hn:l.Zs.length with
 |zero=>omega
 |succ n=>
  have:=h2 n l.Zs[n] (al4 (by omega));have:=l.Zs[n].toNat_lt;omega
theorem Rl{l:Lex}(h:iV l=0):Nj l=0∧pC l=0∧pD l=0∧tG l=0∧vF l=0∧ud l=0:=by
 have:=fun k x hx=>uf h k x hx
 exact ⟨this 0 _ rfl,this 1 _ rfl,this 2 _ rfl,this 3 _ rfl,this 4 _ rfl,this 5 _ rfl⟩
theorem Xf{l:Lex}(h:pC l=0):l.Y9.l.length≤8∧∀ t∈l.Y9.l,TrB t∧nh t.name=true∧t.values.l≠[]∧∀ v∈t.values.l,nh v=true:=by
 obtain ⟨h1,h2⟩:=I8 (m:=8) h;refine ⟨h1,fun t ht => ?_⟩;obtain ⟨k,hk⟩:=JS ht;have:=h2 k t hk;obtain ⟨a1,a2⟩:=xi (by decide) this;obtain ⟨a3,a4⟩:=xi (by decide) a2;obtain ⟨a5,a6⟩:=xi (by decide) a4;obtain ⟨a7,a8⟩:=xi (by decide) a6;have hn:nh t.name=true:=by simpa using a1
 have hv:∀ v∈t.values.l,nh v=true:=fun v hv=>by
  obtain ⟨j,hj⟩:=JS hv;have:=uf a8 j v hj;simpa using (xi (by decide) this).1
 refine ⟨⟨(wQ hn).1,by have:=of_decide_eq_false a5;omega,fun v h=>(wQ (hv v h)).1⟩,hn,fun e => ?_,hv⟩;rw [e] at a7;exact absurd a7 (by decide)
theorem Xg{l:Lex}(h:pC l=0){fs:List aw}(hf:iW l fs=0):FsB fs∧∀ f∈fs,nh f.name=true∧nh f.value=true:=by
 obtain ⟨h1,h2⟩:=I8 (m:=8) hf
 have key:∀ f∈fs,nh f.name=true∧nh f.value=true:=fun f hf=>by
  obtain ⟨k,hk⟩:=JS hf;have:=h2 k f hk;unfold BY at this;cases hc:l.Y9.l.find? (fun t=>t.name == f.name) with
  |none=>rw [hc] at this;exact absurd (show (5:Int)=0 from this) (by decide)
  |some t=>
   rw [hc] at this;obtain ⟨a1,_⟩:=xi (by decide) this;have hm:=aok hc;have hq:=aoq hc;obtain ⟨_,b2,_,b4⟩:=(Xf h).2 t hm;have e:t.name=f.name:=eq_of_beq hq;have a1:(t.values.l.any fun s=>f.value == s)=true:=by simpa using a1
   obtain ⟨v,hv,e2⟩:=List.any_eq_true.1 a1;exact ⟨e ▸ b2,(eq_of_beq e2) ▸ b4 v hv⟩
 exact ⟨⟨h1,fun f hf=>⟨(wQ (key f hf).1).1,(wQ (key f hf).2).1⟩⟩,key⟩
theorem Vq{l:Lex}(h:pC l=0)(h2:pD l=0):l.Y7.l.length≤16∧∀ c∈l.Y7.l,ClB c∧nh c.name=true∧c.Zd.l≠[]∧∀ s∈c.Zd.l,jq l8 s.pre=true∧jq l8 s.add=true∧iW l s.Zf.l=0:=by
 obtain ⟨h1,h2⟩:=I8 (m:=16) h2;refine ⟨h1,fun c hc => ?_⟩;obtain ⟨k,hk⟩:=JS hc;have:=h2 k c hk;obtain ⟨a1,a2⟩:=xi (by decide) this;obtain ⟨a3,a4⟩:=xi (by decide) a2;obtain ⟨a5,a6⟩:=xi (by decide) a4;obtain ⟨a7,a8⟩:=xi (by decide) a6;obtain ⟨_,a9⟩:=I8 (m:=24) a8;have hn:nh c.name=true:=by simpa using a1
 have hs:∀ s∈c.Zd.l,SlB s∧jq l8 s.pre=true∧jq l8 s.add=true∧iW l s.Zf.l=0:=fun s hs=>by
  obtain ⟨j,hj⟩:=JS hs;have:=a9 j s hj;obtain ⟨b1,b2⟩:=xi (by decide) this;simp only [anR,anT,apg] at b1;obtain ⟨⟨⟨c1,c2⟩,c3⟩,c4⟩:=b1;exact ⟨⟨⟨by omega,by omega⟩,ug c3,ug c4,(Xg h b2).1⟩,c3,c4,b2⟩
 refine ⟨⟨(wQ hn).1,by have:=of_decide_eq_false a5;omega,fun s h=>(hs s h).1⟩,hn,fun e => ?_,fun s h=>(hs s h).2⟩;rw [e] at a7;exact absurd a7 (by decide)
theorem pig:∀ (n:Nat) (l:List Int),(∀ x∈l,0≤x∧x<n)→l.Pairwise (·≠·)→l.length≤n
 |0,l,h,_=>by
  cases l with
  |nil=>simp
  |cons x l=>have:=h x (.head _);omega
 |n+1,l,h,hp=>by
  have h1:=pig n (l.filter (·≠(n:Int))) (fun x hx=>by
   have hm:=ao2.1 hx;have:=h x hm.1
   have:x≠n:=by simpa using hm.2
   omega) (hp.filter _)
  have h2:l.length≤(l.filter (·≠(n:Int))).length+1:=by
   clear h1 h;induction l with
   |nil=>simp
   |cons x l ih=>
    rw [List.pairwise_cons] at hp
    by_cases e:x=n
    ·have:l.filter (·≠(n:Int))=l:=List.filter_eq_self.2 fun y hy=>by
      have:=hp.1 y hy;simp only [ne_eq,decide_not,aoP,anT];omega
     rw [List.filter_cons_of_neg (by simp [e]),this];simp
    ·have:=ih hp.2
     rw [List.filter_cons_of_pos (by simp [e])];simp only [amk];omega
  omega
theorem NI{l:Lex}{s:Zc}{c:aV}(h:uR l s=some c):c∈l.Y7.l∧c.name=s:=by
 unfold uR at h;have h2:=aoq h;exact ⟨aok h,eq_of_beq h2⟩
theorem Rm{n:Nat}{fs:List bE}(h:∀ (k:Nat) (x:bE),fs[k]?=some x→KD n fs k x=0):fs.length≤n∧∀ f∈fs,(0≤f.slot∧f.slot<n)∧(f.word=[]∨sw f.word=true):=by
 have key:∀ (k:Nat) (x:bE),fs[k]?=some x→((0≤x.slot∧x.slot<n)∧(x.word=[]∨sw x.word=true))∧∀ y∈fs.take k,y.slot≠x.slot:=fun k x hx=>by
  obtain ⟨a1,a2⟩:=xi (by decide) (h k x hx);obtain ⟨a3,a4⟩:=xi (by decide) a2;obtain ⟨a5,_⟩:=xi (by decide) a4;simp only [anR,anT] at a1;refine ⟨⟨by omega, ?_⟩,fun y hy e => ?_⟩
  ·cases hw:(x.word == []) with
   |true=>exact .inl (eq_of_beq hw)
   |false=>rw [hw] at a5;exact .inr (by simpa using a5)
  ·rw [aoQ] at a3
   exact a3 y hy (by simp [e])
 refine ⟨?_,fun f hf=>by obtain ⟨k,hk⟩:=JS hf;exact (key k f hk).1⟩
 have:=pig n (fs.map (·.slot)) (fun x hx=>by
  obtain ⟨f,hf,rfl⟩:=anD.1 hx;obtain ⟨k,hk⟩:=JS hf;exact (key k f hk).1.1) (by
  rw [List.pairwise_map,List.pairwise_iff_getElem];intro i j hi hj hij;refine (key j fs[j] (al4 hj)).2 fs[i] ?_;rw [List.mem_take_iff_getElem];exact ⟨i,by omega,rfl⟩)
 rwa [ama] at this
theorem Yx{l:Lex}(h:pC l=0)(h2:pD l=0)(h3:tG l=0):l.entries.l.length≤128∧∀ x∈l.entries.l,EnB x∧sw x.lem=true∧nh x.cls=true∧iW l x.Zf.l=0∧∀ f∈x.Zg.l,f.word=[]∨sw f.word=true:=by
 obtain ⟨h1,h4⟩:=I8 (m:=128) h3;refine ⟨h1,fun x hx => ?_⟩;obtain ⟨k,hk⟩:=JS hx;have:=h4 k x hk;unfold wM at this;cases hc:uR l x.cls with
 |none=>
  rw [hc] at this;exact absurd (xi (by decide) this).2 (by decide)
 |some c=>
  rw [hc] at this;obtain ⟨hcm,hcn⟩:=NI hc;obtain ⟨b1,b2,b3,b4⟩:=(Vq h h2).2 c hcm;obtain ⟨a1,a2⟩:=xi (by decide) this;obtain ⟨a3,a4⟩:=xi (by decide) a2
  have hb:iW l x.Zf.l=0:=by
   cases hz:(iW l x.Zf.l == 0) with
   |true=>exact eq_of_beq hz
   |false=>rw [hz] at a4;exact a4
  rw [hb] at a4;obtain ⟨a5,a6⟩:=xi (b:=c.Zd.l.any _) (by decide) a4;obtain ⟨f1,f2⟩:=Rm (n:=c.Zd.l.length) fun k x hx=>by have:=uf a6 k x hx;rwa [amJ] at this
  have hl:sw x.lem=true:=by simpa using a1
  have hn:nh x.cls=true:=hcn ▸ b2;have hcl:=b1.2.1;refine ⟨⟨KN hl,(wQ hn).1,(Xg h hb).1,by omega,fun f hf=>⟨by have:=(f2 f hf).1;omega, ?_⟩⟩,hl,hn,hb,fun f hf=>(f2 f hf).2⟩;rcases (f2 f hf).2 with e | e
  ·rw [e];simp
  ·exact KN e
theorem Yy{l:Lex}(h:vF l=0):l.Ze.l.length≤16∧∀ x∈l.Ze.l,SpB x∧jq AL x.frm=true∧jq AL x.to=true∧jq CL x.left=true∧jq CL x.right=true:=by
 obtain ⟨h1,h4⟩:=I8 (m:=16) h;refine ⟨h1,fun x hx => ?_⟩;obtain ⟨k,hk⟩:=JS hx;obtain ⟨a1,_⟩:=xi (by decide) (h4 k x hk);simp only [anR,apg] at a1;obtain ⟨⟨⟨⟨c1,c2⟩,c3⟩,c4⟩,c5⟩:=a1;exact ⟨⟨by simpa using c1,ug c2,ug c3,ug c4,ug c5⟩,c2,c3,c4,c5⟩
theorem Yz{l:Lex}(h:pC l=0)(h2:pD l=0)(h5:ud l=0):l.Zm.l.length≤8∧∀ x∈l.Zm.l,LiB x∧nh x.cls=true∧jq l8 x.glue=true∧iW l x.Zf.l=0:=by
 obtain ⟨h1,h4⟩:=I8 (m:=8) h5;refine ⟨h1,fun x hx => ?_⟩;obtain ⟨k,hk⟩:=JS hx;have:=h4 k x hk;unfold B2 at this;cases hc:uR l x.cls with
 |none=>rw [hc] at this;exact absurd (show (5:Int)=0 from this) (by decide)
 |some c=>
  rw [hc] at this;obtain ⟨hcm,hcn⟩:=NI hc;obtain ⟨_,b2,_⟩:=(Vq h h2).2 c hcm;obtain ⟨a1,a2⟩:=xi (by decide) this;have hg:jq l8 x.glue=true:=by simpa using a1
  have hn:nh x.cls=true:=hcn ▸ b2;exact ⟨⟨(wQ hn).1,ug hg,(Xg h a2).1⟩,hn,hg,a2⟩
theorem I9{l:Lex}(h:iV l=0):TxB l:=by
 obtain ⟨h0,h1,h2,h3,h4,h5⟩:=Rl h;exact ⟨Vp h0,⟨(Xf h1).1,fun t ht=>((Xf h1).2 t ht).1⟩,⟨(Vq h1 h2).1,fun t ht=>((Vq h1 h2).2 t ht).1⟩,⟨(Yx h1 h2 h3).1,fun t ht=>((Yx h1 h2 h3).2 t ht).1⟩,⟨(Yy h4).1,fun t ht=>((Yy h4).2 t ht).1⟩,⟨(Yz h1 h2 h5).1,fun t ht=>((Yz h1 h2 h5).2 t ht).1⟩⟩
end
section
attribute [local congr] aF aS cC bn aG aX aL aH az aA aM aN
variable{E:br}(M:cH bM E)
def FH(l:Lex):Zc:=Zv (!(iV l == 0)) [] (Zv (decide (65536<((qt l).length:Int))) [] (qt l))
def FI(l:Lex):Int:=Zv (!(iV l == 0)) (iV l) (Zv (decide (65536<((qt l).length:Int))) 3 0)
theorem TxB.ai6{l:Lex}(h:TxB l):(LY l.Zs).length≤300∧(db qs l.Y9.l).length≤8*1000∧(db mz l.Y7.l).length≤16*25000∧(db pE l.entries.l).length≤128*25000∧(db sA l.Ze.l).length≤16*1000∧(db uU l.Zm.l).length≤8*1000:=by
 have h0:(LY l.Zs).length≤300:=by
  have:=oK [LX,cX l.Zs] [];have:=jm l.Zs;have:=h.Z3
  have:(fW []).length=0:=rfl
  have:LX.length=6:=rfl
  unfold LY;simp only [amk,amw,lI] at *
  omega
 have h1:=ow (f:=qs) (B:=1000) (l:=l.Y9.l) fun t ht=>(h.Y9.2 t ht).len
 have h2:=ow (f:=mz) (B:=25000) (l:=l.Y7.l) fun t ht=>(h.Y7.2 t ht).len
 have h3:=ow (f:=pE) (B:=25000) (l:=l.entries.l) fun t ht=>(h.entries.2 t ht).len
 have h4:=ow (f:=sA) (B:=1000) (l:=l.Ze.l) fun t ht=>(h.Ze.2 t ht).len
 have h5:=ow (f:=uU) (B:=1000) (l:=l.Zm.l) fun t ht=>(h.Zm.2 t ht).len
 have:=h.Y9.1;have:=h.Y7.1;have:=h.entries.1;have:=h.Ze.1;have:=h.Zm.1;exact ⟨h0,by omega,by omega,by omega,by omega,by omega⟩
theorem TxB.len{l:Lex}(h:TxB l):(qt l).length≤5000000:=by
 obtain ⟨h0,h1,h2,h3,h4,h5⟩:=h.ai6;simp only [qt,al8];omega
theorem OS(hN:dx E)(hE:ov E)(hC:yg E)(hX:nk M)(hP:qN E){l:Lex}{n:Nat}(hl:l.ok n){H:List Y4}(hn:n≤H.length) :
  M.run rr [.agg l.row] H=some (.ret (.tuple [.str (FH l),.int .u8 (FI l)]),H):=by
 have hck:=fun H (h:n≤H.length)=>KE M hN hE hl (H:=H) h
 have hc0:=hck (H++[Y4.cells l.row ab]) (by simp;omega);unfold FH FI;cases hv:(iV l == 0) with
 |false=>
  rw [au M hP.abK rfl (c:=mq) rfl,mq];simp (config:=apy) only [Zh M,↓Zi,Nat.reduceBEq,Nat.reduceAdd,env,ae,dm,Zx,AV.cell,Nat.reduceMul,Nat.reduceLeDiff,dD,hc0,hv,Zv]
 |true=>
  have hv0:iV l=0:=eq_of_beq hv;have hT:=I9 hv0;obtain ⟨q0,q1,q2,q3,q4,q5⟩:=hT.ai6;have dsh:=fun H=>B5 M hP l.Zs H
  have hA:(H++[Y4.cells l.row ab]).length=H.length+1:=by simp
  have b0:mA aO H.length (H.length+2) (H++[Y4.cells l.row ab,.tok 0 cq,.cells [.ZB,.slice (.own (H.length+1)) 1 []] aO]) []:=
   ⟨⟨_,_,by rw [ZV];rfl,.inl rfl,.inl (.inr ⟨H.length+1,by omega,rfl,by rw [ZV];rfl⟩)⟩,by decide⟩
  have g0:(H++[Y4.cells l.row ab,.tok 0 cq,.cells [.ZB,.slice (.own (H.length+1)) 1 []] aO])[H.length]?=some (.cells l.row ab):=by rw [cY];rfl
  have low0:∀ i,i<H.length→(H++[Y4.cells l.row ab,.tok 0 cq,.cells [.ZB,.slice (.own (H.length+1)) 1 []] aO])[i]?=H[i]? := fun i hi=>al7 hi
  have len0:H.length≤(H++[Y4.cells l.row ab,.tok 0 cq,.cells [.ZB,.slice (.own (H.length+1)) 1 []] aO]).length:=by simp
  generalize hG0:H++[Y4.cells l.row ab,.tok 0 cq,.cells [.ZB,.slice (.own (H.length+1)) 1 []] aO]=G0 at *
  have nU:¬ isU (.cells l.row ab):=by rintro (⟨_,e⟩ | ⟨_,e⟩)<;>cases e
  obtain ⟨G1,r1,b1,t1⟩:=uS M hC hX hP okW b0 len0 (tf:=.nil) (fs:=[]) (tw:=.full) (ws:=[LX,cX l.Zs]) (by simp) (by have:=jm l.Zs;have:=hT.Z3;have:LX.length=6:=rfl;simp only [amk,amw,lI];omega) (by simp [fW]);have r1:M.run bC [.ptr (H.length+2) 0,.slice .nil 2 [],.slice .full 1 [[.str [118,111,119,101,108,115]],[.str (cX l.Zs)]]] G0=some (.ret (.tuple []),G1):=r1
  have b1:mA aO H.length (H.length+2) G1 (LY l.Zs):=b1;have l1:=ams len0 t1.len;have e1:=t1.obj H.length _ g0 (by omega) nU;obtain ⟨G2,b2,t2,r2⟩:=pr0 M hC hX hP (p:=H.length) (tg:=l.Y9.tag) ⟨by have:=hT.Y9.1;omega,hT.Y9.2⟩ H l.Y9.l.length 0 _ G1 (by omega) b1 l1 (by have:=hT.Y9.1;omega);have l2:=ams l1 t2.len;have e2:=t2.obj H.length _ e1 (by omega) nU;obtain ⟨G3,b3,t3,r3⟩:=pr2 M hC hX hP (p:=H.length) (tg:=l.Y7.tag) hT.Y7 H l.Y7.l.length 0 _ G2 (by omega) b2 l2 (by rw [amf];simp only [al8];have:=hT.Y7.1;omega)
  have l3:=ams l2 t3.len;have e3:=t3.obj H.length _ e2 (by omega) nU;obtain ⟨G4,b4,t4,r4⟩:=pr4 M hC hX hP (p:=H.length) (tg:=l.entries.tag) hT.entries H l.entries.l.length 0 _ G3 (by omega) b3 l3 (by simp only [amf,al8];have:=hT.entries.1;omega);have l4:=ams l3 t4.len;have e4:=t4.obj H.length _ e3 (by omega) nU;obtain ⟨G5,b5,t5,r5⟩:=pr5 M hC hX hP (p:=H.length) (tg:=l.Ze.tag) ⟨by have:=hT.Ze.1;omega,hT.Ze.2⟩ H l.Ze.l.length 0 _ G4 (by omega) b4 l4 (by simp only [amf,al8];have:=hT.Ze.1;omega)
  have l5:=ams l4 t5.len;have e5:=t5.obj H.length _ e4 (by omega) nU;obtain ⟨G6,b6,t6,r6⟩:=pr6 M hC hX hP (p:=H.length) (tg:=l.Zm.tag) ⟨by have:=hT.Zm.1;omega,hT.Zm.2⟩ H l.Zm.l.length 0 _ G5 (by omega) b5 l5 (by simp only [amf,al8];have:=hT.Zm.1;omega);have l6:=ams l5 t6.len
  have hw:LY l.Zs++db qs (l.Y9.l.drop 0)++db mz (l.Y7.l.drop 0)++db pE (l.entries.l.drop 0)++db sA (l.Ze.l.drop 0)++db uU (l.Zm.l.drop 0)=qt l:=by
   simp only [amf,qt,amr]
  rw [hw] at b6;have tt:=((((t1.trans t2).trans t3).trans t4).trans t5).trans t6;have low6:∀ i,i<H.length→G6[i]?=H[i]? := fun i hi=>(tt.low i hi (by omega)).trans (low0 i hi)
  have c1:=Hf l6 low6;have c2:=Er l6 low6;have hne:qt l≠[]:=by simp [qt,LY,pL,tT,LX]
  have hs:=NA M hC b6 hne (by have:=hT.len;omega);have hln:=Vd M hC b6;simp only [Y6,Y8,amj] at r2 r3 r4 r5 r6;have hG0':(H++[Y4.cells l.row ab])++[.tok 0 cq,.cells [.ZB,.slice (.own (H.length+1)) 1 []] aO]=G0:=by rw [amr];exact hG0
  simp only [amW,amH,amr] at hG0';cases hd:decide (65536<((qt l).length:Int)) with
  |true=>
   rw [au M hP.abK rfl (c:=mq) rfl,mq];simp (config:=apy) only [Zh M,↓Zi,Nat.reduceBEq,Nat.reduceAdd,env,ae,dm,Zx,AV.cell,Nat.reduceMul,Nat.reduceLeDiff,dD,qU,hc0,hv,hG0',hG0,hA,g0,(show H.length+1+1=H.length+2 from rfl),dsh,r1,r2,r3,r4,r5,r6,e1,e2,e3,e4,e5,hs,hln,c1,c2,hd,Zv,rnc,aph,anG]
  |false=>
   rw [au M hP.abK rfl (c:=mq) rfl,mq];simp (config:=apy) only [Zh M,↓Zi,Nat.reduceBEq,Nat.reduceAdd,env,ae,dm,Zx,AV.cell,Nat.reduceMul,Nat.reduceLeDiff,dD,qU,hc0,hv,hG0',hG0,hA,g0,(show H.length+1+1=H.length+2 from rfl),dsh,r1,r2,r3,r4,r5,r6,e1,e2,e3,e4,e5,hs,hln,c1,c2,hd,Zv,rnc,aph,anG]
end
section
attribute [local congr] aF aS cC bn aG aX aL aH az aA aM aN
variable{E:br}(M:cH bM E)
abbrev w64(n:Int):Int:=IntKind.i64.wrap n
theorem NJ{H L:List Y4}{k k':IntKind}{a b:Int}{T T':TypeId}(L2:List Y4):bY (H++(.cells [.int k a] T::L)) (H++(.cells [.int k' b] T'::(L++L2))):=
 ⟨by simp,fun i x hi hx=>by
  rcases aoN i H.length with h | h | h
  ·left;rw [al7 h] at hx ⊢;exact hx
  ·subst h;rw [cY] at hx;right
   obtain rfl:_=x:=by simpa using hx
   intro c hc;simp only [aoa] at hc;subst hc;exact aab _ _ _
  ·left
   obtain ⟨j,rfl⟩:∃ j,i=H.length+(j+1):=⟨i-H.length-1,by omega⟩
   rw [ZV] at hx ⊢;simp only [amX] at hx ⊢
   have:j<L.length:=by simp at hi;omega
   rwa [al7 this] at hx⟩
theorem FJ{H:List Y4}{k k':IntKind}{a b:Int}{T T':TypeId}(L2:List Y4):bY (H++[.cells [.int k a] T]) (H++(.cells [.int k' b] T'::L2)):=NJ (L:=[]) L2
theorem Rn{H L:List Y4}{k k':IntKind}{a b:Int}{T T':TypeId}:bY (H++(.cells [.int k a] T::L)) (H++(.cells [.int k' b] T'::L)):=by
 have:=NJ (H:=H) (L:=L) (k:=k) (k':=k') (a:=a) (b:=b) (T:=T) (T':=T') [];rwa [amt] at this
theorem Xh(H L:List Y4)(y:Y4):(H++(y::L)).take (H.length+(L.length+1))=H++(y::L):=am8 (by simp)
theorem Dn(H L:List Y4)(y:Y4):(H++(y::L)).take (H.length+1)=H++[y]:=by
 rw [List.take_append];simp;exact am8 (by omega)
def Tz(m:Int)(f:aw):Int:=w64 (m+w64 (w64 (1+(f.name.length:Int))+(f.value.length:Int)))
def Ja(m:Int)(b:List aw):Int:=w64 ((b.take 100).foldl Tz m+(b.length:Int))
theorem L3{n m:Nat}(h:m=min 100 n):(decide (m<n)&&decide ((m:Int)<100))=false:=by
 rw [Bool.eq_false_iff];simp;omega
theorem OT{i m n:Nat}(h:m=min 100 n)(hi:i<m):decide ((i:Int)<100)=true:=amu (by omega)
theorem gr1{H H0:List Y4}{L:List Y4}{T:TypeId}{b Lf:List aw}(hM:Lf.length=min 100 b.length)(hL:∀ k,k<Lf.length→b[k]?=Lf[k]?){tg:Tag}(k:List ZA):∀ (n i:Nat) (m:Int) (He:List Y4),i+n=Lf.length →
  M.go fp H0 (.c fP :: .lp ⟨(some [0,1,3]),[],false⟩ fP He :: .ZU 0 :: .c (.lv [0,1])::k) (kv [(0,.slice tg 2 (b.map aw.row)),(1,.ptr H.length 0),(3,.int .i64 i)]) (H++(.cells [.int .i64 m] T::L)) =
   (M.go fp H0 k (kv [(0,.slice tg 2 (b.map aw.row)),(1,.ptr H.length 0)]) (H++(.cells [.int .i64 ((Lf.drop i).foldl Tz m)] T::L)))
 |0,i,m,He,h=>by
  have e:i=Lf.length:=by omega
  subst e;rw [ah M fP.eq_1];simp (config:=apy) only [Zh M,↓Zi,Nat.reduceBEq,Nat.reduceAdd,env,ae,mP,ame,al9,L3 hM,anY]
 |n+1,i,m,He,h=>by
  have hi:i<Lf.length:=by omega
  have hx:=al4 hi;have hd:=al6 hi;have hm:=amc hi;have ih:=fun m He=>gr1 (H:=H) (H0:=H0) (L:=L) (T:=T) (b:=b) (Lf:=Lf) (hM:=hM) (hL:=hL) (tg:=tg) k n (i+1) m He (by omega)
  simp only [Y6,Y8] at ih;have hib:i<b.length:=by omega
  have hxb:=(hL i hi).trans hx;rw [ah M fP.eq_1];simp (config:=apy) only [Zh M,↓Zi,Nat.reduceBEq,Nat.reduceAdd,env,ae,mP,hx,hd,hi,ih,Zx,AV.cell,hib,hxb,OT hM hi,aE hib,pX,bt (n:=100) (show i<100 by omega) (by simp [aZ]),anx,Tz]
theorem Do(hg:E.fn gE=some fp){b:List aw}{tg:Tag}(H L:List Y4)(m:Int)(T:TypeId) :
  M.run gE [.slice tg 2 (b.map aw.row),.ptr H.length 0] (H++(.cells [.int .i64 m] T::L))=some (.ret (.tuple []),H++(.cells [.int .i64 (Ja m b)] T::L)):=by
 rw [au M hg rfl (c:=mO) rfl,mO];have h1:=fun k He=>gr1 M (H:=H) (H0:=H++(.cells [.int .i64 m] T::L)) (L:=L) (T:=T) (b:=b) (Lf:=b.take 100) (by simp) (B8 b 100) (tg:=tg) k (b.take 100).length 0 m He (by omega)
 simp only [Y6,Y8,amj,amf] at h1;simp (config:=apy) only [Zh M,↓Zi,Nat.reduceBEq,Nat.reduceAdd,env,ae,mP,Zx,AV.cell,Nat.reduceMul,Nat.reduceLeDiff,h1,Rn,Xh,aaV,Ja,ae0,anG]
end
section
attribute [local congr] aF aS cC bn aG aX aL aH az aA aM aN
variable{E:br}(M:cH bM E)
structure Dp (E:br):Prop where
 aad:E.fn gE=some fp
 ab1:E.fn kX=some aW
abbrev tH(m:Int):Y4:=.cells [.int .i64 m] Kq
abbrev yi(n:Nat):AV:=.fn (.func gE) [] [.ptr n 0]
def Xi(m:Int)(s:Zc):Int:=w64 (m+w64 (1+(s.length:Int)))
def OU(m:Int)(t:bf):Int:=w64 ((t.values.l.take 100).foldl Xi (w64 (m+w64 (1+(t.name.length:Int))))+(t.values.l.length:Int))
theorem gl0{H H0:List Y4}{l:Lex}{p:Nat}{T:TypeId}(hp:H[p]?=some (.cells l.row T)){i0:Nat}{t:bf}(ht:l.Y9.l[i0]?=some t){Lf:List Zc}(hM:Lf.length=min 100 t.values.l.length)(hL:∀ k,k<Lf.length→t.values.l[k]?=Lf[k]?)(k:List ZA):∀ (n i:Nat) (m:Int) (He:List Y4),i+n=Lf.length →
  M.go aW H0 (.c gI :: .lp ⟨(some [1,3,4,5,6]),[],false⟩ gI He :: .ZU 2 :: .c (.lv [1,3,4,5])::k) (kv [(1,.ptr p 0),(3,.ptr H.length 0),(4,yi H.length),(5,.int .i64 i0),(6,.int .i64 i)]) (H++[tH m]) =
   (M.go aW H0 k (kv [(1,.ptr p 0),(3,.ptr H.length 0),(4,yi H.length),(5,.int .i64 i0)]) (H++[tH ((Lf.drop i).foldl Xi m)]))
 |0,i,m,He,h=>by
  have e:i=Lf.length:=by omega
  subst e;rw [ah M gI.eq_1];simp (config:=apy) only [Zh M,↓Zi,Nat.reduceBEq,Nat.reduceAdd,env,ae,bo,ame,al9,L3 hM,anY,bR hp,dD,aE (al3.1 ht).1,ht,kI]
 |n+1,i,m,He,h=>by
  have hi:i<Lf.length:=by omega
  have hx:=al4 hi;have hd:=al6 hi;have hm:=amc hi;have ih:=fun m He=>gl0 (H:=H) (H0:=H0) (l:=l) (p:=p) (T:=T) (hp:=hp) (i0:=i0) (t:=t) (ht:=ht) (Lf:=Lf) (hM:=hM) (hL:=hL) k n (i+1) m He (by omega)
  simp only [Y6,Y8] at ih;have hib:i<t.values.l.length:=by omega
  have hxb:=(hL i hi).trans hx;rw [ah M gI.eq_1];simp (config:=apy) only [Zh M,↓Zi,Nat.reduceBEq,Nat.reduceAdd,env,ae,bo,hx,hd,hi,ih,Zx,AV.cell,Nat.reduceMul,Nat.reduceLeDiff,bR hp,dD,aE (al3.1 ht).1,ht,kI,dh,hib,hxb,OT hM hi,aE hib,bt (n:=100) (show i<100 by omega) (by simp [aZ]),anx,Xi]
theorem gl1{H H0:List Y4}{l:Lex}{n0:Nat}(hl:l.ok n0){p:Nat}{T:TypeId}(hp:H[p]?=some (.cells l.row T))(k:List ZA):∀ (n i:Nat) (m:Int) (He:List Y4),i+n=(l.Y9.l).length →
  M.go aW H0 (.c gJ :: .lp ⟨(some [1,3,4,5]),[],false⟩ gJ He :: .ZU 0 :: .c (.lv [1,3,4])::k) (kv [(1,.ptr p 0),(3,.ptr H.length 0),(4,yi H.length),(5,.int .i64 i)]) (H++[tH m]) =
   (M.go aW H0 k (kv [(1,.ptr p 0),(3,.ptr H.length 0),(4,yi H.length)]) (H++[tH ((l.Y9.l.drop i).foldl OU m)]))
 |0,i,m,He,h=>by
  have e:i=(l.Y9.l).length:=by omega
  subst e;rw [ah M gJ.eq_1];simp (config:=apy) only [Zh M,↓Zi,Nat.reduceBEq,Nat.reduceAdd,env,ae,bo,ame,al9,anY,bR hp,dD]
 |n+1,i,m,He,h=>by
  have hi:i<(l.Y9.l).length:=by omega
  have hx:=al4 hi;have hd:=al6 hi;have hm:=amc hi;have ih:=fun m He=>gl1 (H:=H) (H0:=H0) (l:=l) (n0:=n0) (hl:=hl) (p:=p) (T:=T) (hp:=hp) k n (i+1) m He (by omega)
  simp only [Y6,Y8] at ih;have h0:=fun m k He=>gl0 M (H0:=H0) hp (i0:=i) hx (Lf:=l.Y9.l[i].values.l.take 100) (by simp) (B8 _ 100) k (l.Y9.l[i].values.l.take 100).length 0 m He (by omega)
  simp only [Y6,Y8,amj,amf] at h0;rw [ah M gJ.eq_1];simp (config:=apy) only [Zh M,↓Zi,Nat.reduceBEq,Nat.reduceAdd,env,ae,bo,hx,hd,hi,ih,Zx,AV.cell,Nat.reduceMul,Nat.reduceLeDiff,bR hp,dD,aE hi,kI,h0,bt hi hl.Y9.len,anx,OU]
def TA(m:Int)(s:bU):Int:=Ja (w64 (m+w64 (w64 (1+(s.pre.length:Int))+(s.add.length:Int)))) s.Zf.l
def TB(c:aV):Bool:=decide ((12:Int)<(c.Zd.l.length:Int))&&decide ((c.Zd.l.length:Int)≤24)||decide ((60:Int)<(c.Zd.l.length:Int))
def OW(m:Int)(c:aV):Int:=c.Zd.l.foldl TA (w64 (m+w64 (1+(c.name.length:Int))))
theorem gl2{H H0:List Y4}(hg:Dp E){l:Lex}{n0:Nat}(hl:l.ok n0){p:Nat}{T:TypeId}(hp:H[p]?=some (.cells l.row T)){i0:Nat}{c:aV}(hci:l.Y7.l[i0]?=some c)(k:List ZA):∀ (n i:Nat) (m:Int),i+n=(c.Zd.l).length →
  M.go aW H0 (.c gK :: .lp ⟨(some [1,3,4,7,8]),[],true⟩ gK (H++[tH m]) :: .ZU 6 :: .c (.lv [1,3,4,7])::k) (kv [(1,.ptr p 0),(3,.ptr H.length 0),(4,yi H.length),(7,.int .i64 i0),(8,.int .i64 i)]) (H++[tH m]) =
   (M.go aW H0 k (kv [(1,.ptr p 0),(3,.ptr H.length 0),(4,yi H.length),(7,.int .i64 i0)]) (H++[tH ((c.Zd.l.drop i).foldl TA m)]))
 |0,i,m,h=>by
  have e:i=(c.Zd.l).length:=by omega
  subst e;rw [ah M gK.eq_1];simp (config:=apy) only [Zh M,↓Zi,Nat.reduceBEq,Nat.reduceAdd,env,ae,bo,ame,al9,anY,bR hp,dD,aE (al3.1 hci).1,hci,jy]
 |n+1,i,m,h=>by
  have hi:i<(c.Zd.l).length:=by omega
  have hx:=al4 hi;have hd:=al6 hi;have hm:=amc hi;have ih:=fun m=>gl2 (H:=H) (H0:=H0) (hg:=hg) (l:=l) (n0:=n0) (hl:=hl) (p:=p) (T:=T) (hp:=hp) (i0:=i0) (c:=c) (hci:=hci) k n (i+1) m (by omega)
  simp only [Y6,Y8] at ih;have hco:=hl.Y7.all c (aml hci);have hpl:=(al3.1 hp).1;have w1:Wk (H.length+1) (.ptr p 0) (.ptr p 0):=ZN (by omega);have w2:Wk (H.length+1) (.ptr H.length 0) (.ptr H.length 0):=ZN (by omega);have w3:Wk (H.length+1) (yi H.length) (yi H.length):=abg trivial ⟨ZN (by omega),trivial⟩;rw [ah M gK.eq_1];simp (config:=apy) only [Zh M,↓Zi,Nat.reduceBEq,Nat.reduceAdd,env,ae,bo,hx,hd,hi,ih,Zx,AV.cell,Nat.reduceMul,Nat.reduceLeDiff,bR hp,w1,w2,w3,FJ,Dn,dD,aE (al3.1 hci).1,hci,jy,aE hi,CJ,Do M hg.aad,bt hi hco.Zd.len,anx,TA]
theorem gl3{H H0:List Y4}(hg:Dp E){l:Lex}{n0:Nat}(hl:l.ok n0){p:Nat}{T:TypeId}(hp:H[p]?=some (.cells l.row T))(hc:bY H0 H)(k:List ZA):∀ (n i:Nat) (m:Int),i+n=(l.Y7.l).length →
  M.go aW H0 (.c gL :: .lp ⟨(some [1,3,4,7]),[],true⟩ gL (H++[tH m]) :: .ZU 4 :: .c (.lv [1,3,4])::k) (kv [(1,.ptr p 0),(3,.ptr H.length 0),(4,yi H.length),(7,.int .i64 i)]) (H++[tH m]) =
   Zv ((l.Y7.l.drop i).any TB) (some (.ret (.bool true),H.take H0.length)) (M.go aW H0 k (kv [(1,.ptr p 0),(3,.ptr H.length 0),(4,yi H.length)]) (H++[tH ((l.Y7.l.drop i).foldl OW m)]))
 |0,i,m,h=>by
  have e:i=(l.Y7.l).length:=by omega
  subst e;rw [ah M gL.eq_1];simp (config:=apy) only [Zh M,↓Zi,Nat.reduceBEq,Nat.reduceAdd,env,ae,bo,ame,al9,anY,aow,bR hp,dD]
 |n+1,i,m,h=>by
  have hi:i<(l.Y7.l).length:=by omega
  have hx:=al4 hi;have hd:=al6 hi;have hm:=amc hi;have ih:=fun m=>gl3 (H:=H) (H0:=H0) (hg:=hg) (l:=l) (n0:=n0) (hl:=hl) (p:=p) (T:=T) (hp:=hp) hc k n (i+1) m (by omega)
  simp only [Y6,Y8] at ih;have hco:=hl.Y7.all _ hm;have hpl:=(al3.1 hp).1;have w1:Wk (H.length+1) (.ptr p 0) (.ptr p 0):=ZN (by omega);have w2:Wk (H.length+1) (.ptr H.length 0) (.ptr H.length 0):=ZN (by omega);have w3:Wk (H.length+1) (yi H.length) (yi H.length):=abg trivial ⟨ZN (by omega),trivial⟩;have h0:=fun m k=>gl2 M (H0:=H0) hg hl hp (i0:=i) hx k l.Y7.l[i].Zd.l.length 0 m (by omega)
  simp only [Y6,Y8,amj,amf] at h0;rw [ah M gL.eq_1];simp (config:=apy) only [Zh M,↓Zi,Nat.reduceBEq,Nat.reduceAdd,env,ae,bo,hx,hd,hi,ih,Zx,AV.cell,Nat.reduceMul,Nat.reduceLeDiff,bR hp,w1,w2,w3,FJ,Dn,dD,aE hi,jy,h0,bt hi hl.Y7.len,anx,anr,OW,TB,hc];generalize (decide ((12:Int)<(l.Y7.l[i].Zd.l.length:Int))&&decide ((l.Y7.l[i].Zd.l.length:Int)≤24)||decide ((60:Int)<(l.Y7.l[i].Zd.l.length:Int)))=b
  cases b<;>simp only [slc,anF,anH]
end
section
attribute [local congr] aF aS cC bn aG aX aL aH az aA aM aN
variable{E:br}(M:cH bM E)
def irN(m:Int)(f:bE):Int:=w64 (m+(f.word.length:Int))
def OX(m:Int)(x:aT):Int:=(x.Zg.l.take 100).foldl irN (Ja (w64 (m+w64 (w64 (w64 (1+(x.lem.length:Int))+(x.cls.length:Int))+(x.Zg.l.length:Int)))) x.Zf.l)
theorem gl4{H H0:List Y4}{x:aT}{T2:TypeId}{p i0:Nat}{Lf:List bE}(hM:Lf.length=min 100 x.Zg.l.length)(hL:∀ k,k<Lf.length→x.Zg.l[k]?=Lf[k]?)(k:List ZA):∀ (n i:Nat) (m:Int) (He:List Y4),i+n=Lf.length →
  M.go aW H0 (.c gM :: .lp ⟨(some [1,3,4,10,11,12]),[],false⟩ gM He :: .ZU 10 :: .c (.lv [1,3,4,10])::k) (kv [(1,.ptr p 0),(3,.ptr H.length 0),(4,yi H.length),(10,.int .i64 i0),(11,.ptr (H.length+1) 0),(12,.int .i64 i)]) (H++[tH m,.cells x.row T2]) =
   (M.go aW H0 k (kv [(1,.ptr p 0),(3,.ptr H.length 0),(4,yi H.length),(10,.int .i64 i0)]) (H++[tH ((Lf.drop i).foldl irN m),.cells x.row T2]))
 |0,i,m,He,h=>by
  have e:i=Lf.length:=by omega
  subst e;rw [ah M gM.eq_1];simp (config:=apy) only [Zh M,↓Zi,Nat.reduceBEq,Nat.reduceAdd,env,ae,bo,ame,al9,L3 hM,anY,kJ]
 |n+1,i,m,He,h=>by
  have hi:i<Lf.length:=by omega
  have hx:=al4 hi;have hd:=al6 hi;have hm:=amc hi;have ih:=fun m He=>gl4 (H:=H) (H0:=H0) (x:=x) (T2:=T2) (p:=p) (i0:=i0) (Lf:=Lf) (hM:=hM) (hL:=hL) k n (i+1) m He (by omega)
  simp only [Y6,Y8] at ih;have hib:i<x.Zg.l.length:=by omega
  have hxb:=(hL i hi).trans hx;rw [ah M gM.eq_1];simp (config:=apy) only [Zh M,↓Zi,Nat.reduceBEq,Nat.reduceAdd,env,ae,bo,hx,hd,hi,ih,Zx,AV.cell,Nat.reduceMul,Nat.reduceLeDiff,kJ,zF,hib,hxb,OT hM hi,aE hib,bt (n:=100) (show i<100 by omega) (by simp [aZ]),anx,irN]
theorem gl5{H H0:List Y4}(hg:Dp E){l:Lex}{n0:Nat}(hl:l.ok n0){p:Nat}{T:TypeId}(hp:H[p]?=some (.cells l.row T))(k:List ZA):∀ (n i:Nat) (m:Int),i+n=(l.entries.l).length →
  M.go aW H0 (.c gN :: .lp ⟨(some [1,3,4,10]),[],true⟩ gN (H++[tH m]) :: .ZU 8 :: .c (.lv [1,3,4])::k) (kv [(1,.ptr p 0),(3,.ptr H.length 0),(4,yi H.length),(10,.int .i64 i)]) (H++[tH m]) =
   (M.go aW H0 k (kv [(1,.ptr p 0),(3,.ptr H.length 0),(4,yi H.length)]) (H++[tH ((l.entries.l.drop i).foldl OX m)]))
 |0,i,m,h=>by
  have e:i=(l.entries.l).length:=by omega
  subst e;rw [ah M gN.eq_1];simp (config:=apy) only [Zh M,↓Zi,Nat.reduceBEq,Nat.reduceAdd,env,ae,bo,ame,al9,anY,bR hp,dD]
 |n+1,i,m,h=>by
  have hi:i<(l.entries.l).length:=by omega
  have hx:=al4 hi;have hd:=al6 hi;have hm:=amc hi;have ih:=fun m=>gl5 (H:=H) (H0:=H0) (hg:=hg) (l:=l) (n0:=n0) (hl:=hl) (p:=p) (T:=T) (hp:=hp) k n (i+1) m (by omega)
  simp only [Y6,Y8] at ih;have hpl:=(al3.1 hp).1;have w1:Wk (H.length+1) (.ptr p 0) (.ptr p 0):=ZN (by omega);have w2:Wk (H.length+1) (.ptr H.length 0) (.ptr H.length 0):=ZN (by omega);have w3:Wk (H.length+1) (yi H.length) (yi H.length):=abg trivial ⟨ZN (by omega),trivial⟩;have h0:=fun m k He=>gl4 M (H:=H) (H0:=H0) (x:=l.entries.l[i]) (T2:=aD) (p:=p) (i0:=i) (Lf:=l.entries.l[i].Zg.l.take 100) (by simp) (B8 _ 100) k (l.entries.l[i].Zg.l.take 100).length 0 m He (by omega)
  simp only [Y6,Y8,amj,amf] at h0;rw [ah M gN.eq_1];simp (config:=apy) only [Zh M,↓Zi,Nat.reduceBEq,Nat.reduceAdd,env,ae,bo,hx,hd,hi,ih,Zx,AV.cell,Nat.reduceMul,Nat.reduceLeDiff,bR hp,w1,w2,w3,FJ,Dn,dD,aE hi,kJ,h0,Do M hg.aad,bt hi hl.entries.len,anx,OX]
def OY(m:Int)(x:bL):Int:=w64 (m+w64 (w64 (w64 ((x.frm.length:Int)+(x.to.length:Int))+(x.left.length:Int))+(x.right.length:Int)))
def TC(m:Int)(x:dn):Int:=Ja (w64 (m+w64 ((x.cls.length:Int)+(x.glue.length:Int)))) x.Zf.l
theorem gl6{H H0:List Y4}{l:Lex}{n0:Nat}(hl:l.ok n0){p:Nat}{T:TypeId}(hp:H[p]?=some (.cells l.row T))(k:List ZA):∀ (n i:Nat) (m:Int) (He:List Y4),i+n=(l.Ze.l).length →
  M.go aW H0 (.c gO :: .lp ⟨(some [1,3,4,13]),[],false⟩ gO He :: .ZU 12 :: .c (.lv [1,3,4])::k) (kv [(1,.ptr p 0),(3,.ptr H.length 0),(4,yi H.length),(13,.int .i64 i)]) (H++[tH m]) =
   (M.go aW H0 k (kv [(1,.ptr p 0),(3,.ptr H.length 0),(4,yi H.length)]) (H++[tH ((l.Ze.l.drop i).foldl OY m)]))
 |0,i,m,He,h=>by
  have e:i=(l.Ze.l).length:=by omega
  subst e;rw [ah M gO.eq_1];simp (config:=apy) only [Zh M,↓Zi,Nat.reduceBEq,Nat.reduceAdd,env,ae,bo,ame,al9,anY,bR hp,dD]
 |n+1,i,m,He,h=>by
  have hi:i<(l.Ze.l).length:=by omega
  have hx:=al4 hi;have hd:=al6 hi;have hm:=amc hi;have ih:=fun m He=>gl6 (H:=H) (H0:=H0) (l:=l) (n0:=n0) (hl:=hl) (p:=p) (T:=T) (hp:=hp) k n (i+1) m He (by omega)
  simp only [Y6,Y8] at ih;rw [ah M gO.eq_1];simp (config:=apy) only [Zh M,↓Zi,Nat.reduceBEq,Nat.reduceAdd,env,ae,bo,hx,hd,hi,ih,Zx,AV.cell,Nat.reduceMul,Nat.reduceLeDiff,bR hp,dD,aE hi,C4,bt hi hl.Ze.len,anx,OY]
theorem gl7{H H0:List Y4}(hg:Dp E){l:Lex}{n0:Nat}(hl:l.ok n0){p:Nat}{T:TypeId}(hp:H[p]?=some (.cells l.row T))(k:List ZA):∀ (n i:Nat) (m:Int) (He:List Y4),i+n=(l.Zm.l).length →
  M.go aW H0 (.c gP :: .lp ⟨(some [1,3,4,14]),[],false⟩ gP He :: .ZU 14 :: .c (.lv [3])::k) (kv [(1,.ptr p 0),(3,.ptr H.length 0),(4,yi H.length),(14,.int .i64 i)]) (H++[tH m]) =
   (M.go aW H0 k (kv [(3,.ptr H.length 0)]) (H++[tH ((l.Zm.l.drop i).foldl TC m)]))
 |0,i,m,He,h=>by
  have e:i=(l.Zm.l).length:=by omega
  subst e;rw [ah M gP.eq_1];simp (config:=apy) only [Zh M,↓Zi,Nat.reduceBEq,Nat.reduceAdd,env,ae,bo,ame,al9,anY,bR hp,dD]
 |n+1,i,m,He,h=>by
  have hi:i<(l.Zm.l).length:=by omega
  have hx:=al4 hi;have hd:=al6 hi;have hm:=amc hi;have ih:=fun m He=>gl7 (H:=H) (H0:=H0) (hg:=hg) (l:=l) (n0:=n0) (hl:=hl) (p:=p) (T:=T) (hp:=hp) k n (i+1) m He (by omega)
  simp only [Y6,Y8] at ih;rw [ah M gP.eq_1];simp (config:=apy) only [Zh M,↓Zi,Nat.reduceBEq,Nat.reduceAdd,env,ae,bo,hx,hd,hi,ih,Zx,AV.cell,Nat.reduceMul,Nat.reduceLeDiff,bR hp,dD,aE hi,Gi,Do M hg.aad,bt hi hl.Zm.len,anx,TC]
def OZ(l:Lex):Bool:=
 decide ((60:Int)<(l.entries.l.length:Int))&&decide ((l.entries.l.length:Int)≤128)||decide ((200:Int)<(l.entries.l.length:Int))||decide ((40:Int)<(l.Y9.l.length:Int))||decide ((40:Int)<(l.Y7.l.length:Int))||decide ((40:Int)<(l.Ze.l.length:Int))||decide ((40:Int)<(l.Zm.l.length:Int)) ||
  (l.Y7.l.any TB||decide (6000<l.Zm.l.foldl TC (l.Ze.l.foldl OY (l.entries.l.foldl OX (l.Y7.l.foldl OW (l.Y9.l.foldl OU (l.Zs.length:Int)))))))
theorem Ro(hg:Dp E){l:Lex}{n:Nat}(hl:l.ok n)(H:List Y4):M.run kX [.agg l.row] H=some (.ret (.bool (OZ l)),H):=by
 rw [au M hg.ab1 rfl (c:=oQ) rfl,oQ];have hp:(H++[Y4.cells l.row ab])[H.length]?=some (.cells l.row ab):=by rw [cY];rfl
 have h1:=fun m k He=>gl1 M (H0:=H) hl hp k l.Y9.l.length 0 m He (by omega)
 have h3:=fun m k=>gl3 M (H0:=H) hg hl hp (Zz H _) k l.Y7.l.length 0 m (by omega)
 have h5:=fun m k=>gl5 M (H0:=H) hg hl hp k l.entries.l.length 0 m (by omega)
 have h6:=fun m k He=>gl6 M (H0:=H) hl hp k l.Ze.l.length 0 m He (by omega)
 have h7:=fun m k He=>gl7 M (H0:=H) hg hl hp k l.Zm.l.length 0 m He (by omega)
 simp only [Y6,Y8,amj,amf,ae5,PH,aeZ,af3,aeW,ae6,amJ,aaP] at h1 h3 h5 h6 h7;simp (config:=apy) only [Zh M,↓Zi,Nat.reduceBEq,Nat.reduceAdd,env,ae,bo,Zx,AV.cell,Nat.reduceMul,Nat.reduceLeDiff,h1,h3,h5,h6,h7,dD,OZ,an4]
end
section
attribute [local congr] aF aS cC bn aG aX aL aH az aA aM aN
variable{E:br}(M:cH bM E)
theorem mb(a b:Zc)(n m:Nat)(ha:a.length≤n)(hb:b.length≤m)(h:n+m≤1000000000):∃ y,nq .add a b=some (.str y)∧y=a++b∧y.length≤n+m:=
 ⟨a++b,E3 (by omega),rfl,by rw [al8];omega⟩
theorem rt2{H H0:List Y4}(hP:qN E){l:Lex}{p:Nat}{T:TypeId}(hp:H[p]?=some (.cells l.row T)){c:aV}{i0:Nat}(hi0:i0<l.Y7.l.length)(hx0:l.Y7.l[i0]?=some c)(hB:(c.Zd.l).length≤24∧∀ x∈c.Zd.l,SlB x)(hc:bY H0 H)(k:List ZA):∀ (n i:Nat) (o:Zc) (ho:o.length+((c.Zd.l).length-i)*1000≤200000000),i+n=(c.Zd.l).length →
  M.go bb H0 (.c iA :: .lp ⟨(some [1,3,6,7]),[],true⟩ iA H :: .ZU 6 :: .c (.lv [1,3,6])::k) (kv [(1,.ptr p 0),(3,.str o),(6,.int .i64 i0),(7,.int .i64 i)]) H =
   (M.go bb H0 k (kv [(1,.ptr p 0),(3,.str (o++db uT (c.Zd.l.drop i))),(6,.int .i64 i0)]) (H))
 |0,i,o,ho,h=>by
  have e:i=(c.Zd.l).length:=by omega
  subst e;rw [ah M iA.eq_1];simp (config:=apy) only [Zh M,↓Zi,Nat.reduceBEq,Nat.reduceAdd,env,ae,bu,ame,al9,db,amt,dD,hp,jy,fun tg=>aE (row:=aV.row) (tag:=tg) (sz:=2) (k:=.i64) hi0,hx0]
 |n+1,i,o,ho,h=>by
  have hi:i<(c.Zd.l).length:=by omega
  have hx:=al4 hi;have hd:=al6 hi;have hm:=amc hi;have ih:=fun o ho=>rt2 (H:=H) (H0:=H0) (hP:=hP) (l:=l) (p:=p) (T:=T) (hp:=hp) (c:=c) (i0:=i0) (hi0:=hi0) (hx0:=hx0) (hB:=hB) hc k n (i+1) o ho (by omega)
  simp only [Y6,Y8] at ih;have hm2:=hB.2 _ hm;have hml:=hm2.len;have hml2:(uT (c.Zd.l)[i]).length≤1000:=hml
  have hns:((c.Zd.l).length-i)*1000=((c.Zd.l).length-(i+1))*1000+1000:=by
   have:(c.Zd.l).length-i=(c.Zd.l).length-(i+1)+1:=by omega
   rw [this,am7]
  have ho1:o.length≤200000000:=by omega
  have hil:=fun tg=>aE (row:=bU.row) (tag:=tg) (sz:=4) (k:=.i64) hi
  have hwr:=bt hi (show (c.Zd.l).length≤aZ by have:=hB.1;simp only [aZ];omega);have wp:Wk H.length (.ptr p 0) (.ptr p 0):=ZN (dS hp)
  have hdec:∀ H,M.run fm [.int .i64 (c.Zd.l[i]).cut] H=some (.ret (.str (fJ (c.Zd.l[i]).cut.toNat)),H):=fun H=>by
   obtain ⟨m,h1,h2,h3⟩:=hm2.num;rw [h3,h1];exact Gj M hP h2 H
  have dsh:=fun s H=>zg M hP s H
  have hfe:=fun H=>Dl M hP (tg:=(c.Zd.l[i]).Zf.tag) (l:=(c.Zd.l[i]).Zf.l) (by have:=hm2.fs.len;omega) (by have:=hm2.fs.1;simp only [aZ];omega) H
  have hil0:=fun tg=>aE (row:=aV.row) (tag:=tg) (sz:=2) (k:=.i64) hi0
  obtain ⟨y1,Fy1,Ey1,Ly1⟩:=mb [115,108,111,116,32] (fJ c.Zd.l[i].cut.toNat) 5 3 (by decide) (Hg _) (by decide);obtain ⟨y2,Fy2,Ey2,Ly2⟩:=mb y1 [32] 8 1 Ly1 (by decide) (by decide);obtain ⟨y3,Fy3,Ey3,Ly3⟩:=mb y2 (cX c.Zd.l[i].pre) 9 7 Ly2 (by have:=jm c.Zd.l[i].pre;have:=hm2.2.1;omega) (by decide);obtain ⟨y4,Fy4,Ey4,Ly4⟩:=mb y3 [32] 16 1 Ly3 (by decide) (by decide);obtain ⟨y5,Fy5,Ey5,Ly5⟩:=mb y4 (cX c.Zd.l[i].add) 17 7 Ly4 (by have:=jm c.Zd.l[i].add;have:=hm2.2.2.1;omega) (by decide)
  obtain ⟨y6,Fy6,Ey6,Ly6⟩:=mb y5 (fW c.Zd.l[i].Zf.l) 24 208 Ly5 hm2.fs.len (by decide);obtain ⟨y7,Fy7,Ey7,Ly7⟩:=mb y6 [10] 232 1 Ly6 (by decide) (by decide);obtain ⟨o2,Fo,Eo,Lo⟩:=mb o y7 200000000 233 ho1 Ly7 (by decide)
  have Ex:o2=o++uT (c.Zd.l)[i]:=by
   rw [Eo,Ey7,Ey6,Ey5,Ey4,Ey3,Ey2,Ey1];simp [uT,pL,tT,rD,fW,aae,kx,qQ,ky,qR,rf,vK]
  have ih2:=ih o2 (by rw [Ex,al8];omega);have e3:o++db uT ((c.Zd.l).drop i)=o2++db uT ((c.Zd.l).drop (i+1)):=by rw [hd,db,Ex,amr]
  rw [e3];rw [ah M iA.eq_1];simp (config:=apy) only [Zh M,↓Zi,Nat.reduceBEq,Nat.reduceAdd,env,ae,bu,Zx,AV.cell,Nat.reduceMul,Nat.reduceLeDiff,hi,hx,hp,bR hp,dD,CJ,hwr,hil,ih2,Fy1,Fy2,Fy3,Fy4,Fy5,Fy6,Fy7,Fo,hil0,hx0,jy,hdec,dsh,hfe,wp,ZH,aab,Zz,Dn]
def GU(v:Zc):Zc:=[32]++v
theorem Ev:∀ l:List Zc,db GU l=rD l
 |[]=>rfl
 |v::l=>by rw [db,Ev l];rfl
def VaB(v:Zc):Prop:=v.length≤12
theorem VaB.len{v:Zc}(h:VaB v):(GU v).length≤13:=by
 have:v.length≤12:=h
 simp only [GU,al8,amk,amw];omega
theorem rt0{H H0:List Y4}(hP:qN E){l:Lex}{p:Nat}{T:TypeId}(hp:H[p]?=some (.cells l.row T)){t:bf}{i0:Nat}(hi0:i0<l.Y9.l.length)(hx0:l.Y9.l[i0]?=some t)(hB:(t.values.l).length≤8∧∀ x∈t.values.l,VaB x)(hc:bY H0 H)(k:List ZA):∀ (n i:Nat) (o:Zc) (ho:o.length+((t.values.l).length-i)*13≤200000000) (He:List Y4),i+n=(t.values.l).length →
  M.go bb H0 (.c iy :: .lp ⟨(some [1,3,4,5]),[],false⟩ iy He :: .ZU 2 :: .c (.lv [1,3,4])::k) (kv [(1,.ptr p 0),(3,.str o),(4,.int .i64 i0),(5,.int .i64 i)]) H =
   (M.go bb H0 k (kv [(1,.ptr p 0),(3,.str (o++db GU (t.values.l.drop i))),(4,.int .i64 i0)]) (H))
 |0,i,o,ho,He,h=>by
  have e:i=(t.values.l).length:=by omega
  subst e;rw [ah M iy.eq_1];simp (config:=apy) only [Zh M,↓Zi,Nat.reduceBEq,Nat.reduceAdd,env,ae,bu,ame,al9,db,amt,dD,hp,kI,fun tg=>aE (row:=bf.row) (tag:=tg) (sz:=2) (k:=.i64) hi0,hx0]
 |n+1,i,o,ho,He,h=>by
  have hi:i<(t.values.l).length:=by omega
  have hx:=al4 hi;have hd:=al6 hi;have hm:=amc hi;have ih:=fun o ho He=>rt0 (H:=H) (H0:=H0) (hP:=hP) (l:=l) (p:=p) (T:=T) (hp:=hp) (t:=t) (i0:=i0) (hi0:=hi0) (hx0:=hx0) (hB:=hB) hc k n (i+1) o ho He (by omega)
  simp only [Y6,Y8] at ih;have hm2:=hB.2 _ hm;have hml:=hm2.len;have hml2:(GU (t.values.l)[i]).length≤13:=hml
  have hns:((t.values.l).length-i)*13=((t.values.l).length-(i+1))*13+13:=by
   have:(t.values.l).length-i=(t.values.l).length-(i+1)+1:=by omega
   rw [this,am7]
  have ho1:o.length≤200000000:=by omega
  have hil:=fun tg=>aE (row:=ak) (tag:=tg) (sz:=1) (k:=.i64) hi
  have hwr:=bt hi (show (t.values.l).length≤aZ by have:=hB.1;simp only [aZ];omega);have hil0:=fun tg=>aE (row:=bf.row) (tag:=tg) (sz:=2) (k:=.i64) hi0
  obtain ⟨y1,Fy1,Ey1,Ly1⟩:=mb [32] t.values.l[i] 1 12 (by decide) hm2 (by decide);obtain ⟨o2,Fo,Eo,Lo⟩:=mb o y1 200000000 13 ho1 Ly1 (by decide)
  have Ex:o2=o++GU (t.values.l)[i]:=by
   rw [Eo,Ey1];simp [GU,pL,tT,rD,fW,VaB,aae,kx,qQ,ky,qR,rf,vK]
  have ih2:=ih o2 (by rw [Ex,al8];omega);have e3:o++db GU ((t.values.l).drop i)=o2++db GU ((t.values.l).drop (i+1)):=by rw [hd,db,Ex,amr]
  rw [e3];rw [ah M iy.eq_1];simp (config:=apy) only [Zh M,↓Zi,Nat.reduceBEq,Nat.reduceAdd,env,ae,bu,hi,hx,hp,bR hp,dD,dh,hwr,hil,ih2,Fy1,Fo,hil0,hx0,kI]
theorem rt4{H H0:List Y4}(hP:qN E){l:Lex}{p:Nat}{T:TypeId}(hp:H[p]?=some (.cells l.row T)){x9:AV}{e:aT}{q:Nat}{T2:TypeId}(hq:H[q]?=some (.cells e.row T2))(hB:(e.Zg.l).length≤24∧∀ x∈e.Zg.l,IrB x)(hc:bY H0 H)(k:List ZA):∀ (n i:Nat) (o:Zc) (ho:o.length+((e.Zg.l).length-i)*1000≤200000000) (He:List Y4),i+n=(e.Zg.l).length →
  M.go bb H0 (.c iC :: .lp ⟨(some [1,3,9,10,11]),[],false⟩ iC He :: .ZU 10 :: .c (.lv [1,3,9])::k) (kv [(1,.ptr p 0),(3,.str o),(9,x9),(10,.ptr q 0),(11,.int .i64 i)]) H =
   (M.go bb H0 k (kv [(1,.ptr p 0),(3,.str (o++db wO (e.Zg.l.drop i))),(9,x9)]) (H))
 |0,i,o,ho,He,h=>by
  have e:i=(e.Zg.l).length:=by omega
  subst e;rw [ah M iC.eq_1];simp (config:=apy) only [Zh M,↓Zi,Nat.reduceBEq,Nat.reduceAdd,env,ae,bu,ame,al9,db,amt,dD,hp,kJ,hq]
 |n+1,i,o,ho,He,h=>by
  have hi:i<(e.Zg.l).length:=by omega
  have hx:=al4 hi;have hd:=al6 hi;have hm:=amc hi;have ih:=fun o ho He=>rt4 (H:=H) (H0:=H0) (hP:=hP) (l:=l) (p:=p) (T:=T) (hp:=hp) (x9:=x9) (e:=e) (q:=q) (T2:=T2) (hq:=hq) (hB:=hB) hc k n (i+1) o ho He (by omega)
  simp only [Y6,Y8] at ih;have hm2:=hB.2 _ hm;have hml:=hm2.len;have hml2:(wO (e.Zg.l)[i]).length≤1000:=hml
  have hns:((e.Zg.l).length-i)*1000=((e.Zg.l).length-(i+1))*1000+1000:=by
   have:(e.Zg.l).length-i=(e.Zg.l).length-(i+1)+1:=by omega
   rw [this,am7]
  have ho1:o.length≤200000000:=by omega
  have hil:=fun tg=>aE (row:=bE.row) (tag:=tg) (sz:=2) (k:=.i64) hi
  have hwr:=bt hi (show (e.Zg.l).length≤aZ by have:=hB.1;simp only [aZ];omega)
  have hdec:∀ H,M.run fm [.int .i64 (e.Zg.l[i]).slot] H=some (.ret (.str (fJ (e.Zg.l[i]).slot.toNat)),H):=fun H=>by
   obtain ⟨m,h1,h2,h3⟩:=hm2.num;rw [h3,h1];exact Gj M hP h2 H
  have dsh:=fun s H=>zg M hP s H
  obtain ⟨y1,Fy1,Ey1,Ly1⟩:=mb [102,111,114,109,32] (fJ e.Zg.l[i].slot.toNat) 5 3 (by decide) (Hg _) (by decide);obtain ⟨y2,Fy2,Ey2,Ly2⟩:=mb y1 [32] 8 1 Ly1 (by decide) (by decide);obtain ⟨y3,Fy3,Ey3,Ly3⟩:=mb y2 (cX e.Zg.l[i].word) 9 25 Ly2 (by have:=jm e.Zg.l[i].word;have:=hm2.2;omega) (by decide);obtain ⟨y4,Fy4,Ey4,Ly4⟩:=mb y3 [10] 34 1 Ly3 (by decide) (by decide);obtain ⟨o2,Fo,Eo,Lo⟩:=mb o y4 200000000 35 ho1 Ly4 (by decide)
  have Ex:o2=o++wO (e.Zg.l)[i]:=by
   rw [Eo,Ey4,Ey3,Ey2,Ey1];simp [wO,pL,tT,rD,fW,aae,kx,qQ,ky,qR,rf,vK]
  have ih2:=ih o2 (by rw [Ex,al8];omega);have e3:o++db wO ((e.Zg.l).drop i)=o2++db wO ((e.Zg.l).drop (i+1)):=by rw [hd,db,Ex,amr]
  rw [e3];rw [ah M iC.eq_1];simp (config:=apy) only [Zh M,↓Zi,Nat.reduceBEq,Nat.reduceAdd,env,ae,bu,hi,hx,hp,bR hp,dD,zF,hwr,hil,ih2,Fy1,Fy2,Fy3,Fy4,Fo,hq,kJ,hdec,dsh]
theorem rt6{H H0:List Y4}(hP:qN E){l:Lex}{p:Nat}{T:TypeId}(hp:H[p]?=some (.cells l.row T))(hB:(l.Ze.l).length≤128∧∀ x∈l.Ze.l,SpB x)(hc:bY H0 H)(k:List ZA):∀ (n i:Nat) (o:Zc) (ho:o.length+((l.Ze.l).length-i)*1000≤100000000),i+n=(l.Ze.l).length →
  M.go bb H0 (.c iE :: .lp ⟨(some [1,3,12]),[],true⟩ iE H :: .ZU 12 :: .c (.lv [1,3])::k) (kv [(1,.ptr p 0),(3,.str o),(12,.int .i64 i)]) H =
   (M.go bb H0 k (kv [(1,.ptr p 0),(3,.str (o++db sA (l.Ze.l.drop i)))]) (H))
 |0,i,o,ho,h=>by
  have e:i=(l.Ze.l).length:=by omega
  subst e;rw [ah M iE.eq_1];simp (config:=apy) only [Zh M,↓Zi,Nat.reduceBEq,Nat.reduceAdd,env,ae,bu,ame,al9,db,amt,dD,hp]
 |n+1,i,o,ho,h=>by
  have hi:i<(l.Ze.l).length:=by omega
  have hx:=al4 hi;have hd:=al6 hi;have hm:=amc hi;have ih:=fun o ho=>rt6 (H:=H) (H0:=H0) (hP:=hP) (l:=l) (p:=p) (T:=T) (hp:=hp) (hB:=hB) hc k n (i+1) o ho (by omega)
  simp only [Y6,Y8] at ih;have hm2:=hB.2 _ hm;have hml:=hm2.len;have hml2:(sA (l.Ze.l)[i]).length≤1000:=hml
  have hns:((l.Ze.l).length-i)*1000=((l.Ze.l).length-(i+1))*1000+1000:=by
   have:(l.Ze.l).length-i=(l.Ze.l).length-(i+1)+1:=by omega
   rw [this,am7]
  have ho1:o.length≤100000000:=by omega
  have hil:=fun tg=>aE (row:=bL.row) (tag:=tg) (sz:=4) (k:=.i64) hi
  have hwr:=bt hi (show (l.Ze.l).length≤aZ by have:=hB.1;simp only [aZ];omega);have wp:Wk H.length (.ptr p 0) (.ptr p 0):=ZN (dS hp);have dsh:=fun s H=>zg M hP s H
  have hfr:cX l.Ze.l[i].frm=l.Ze.l[i].frm:=by
   have:=hm2.1;unfold cX;rw [if_neg (by simpa using this)]
  obtain ⟨y1,Fy1,Ey1,Ly1⟩:=mb [115,112,101,108,108,32] (cX l.Ze.l[i].frm) 6 7 (by decide) (by have:=jm l.Ze.l[i].frm;obtain ⟨_,_,_,_,_⟩:=hm2;omega) (by decide);obtain ⟨y2,Fy2,Ey2,Ly2⟩:=mb y1 [32] 13 1 Ly1 (by decide) (by decide);obtain ⟨y3,Fy3,Ey3,Ly3⟩:=mb y2 (cX l.Ze.l[i].to) 14 7 Ly2 (by have:=jm l.Ze.l[i].to;obtain ⟨_,_,_,_,_⟩:=hm2;omega) (by decide);obtain ⟨y4,Fy4,Ey4,Ly4⟩:=mb y3 [32] 21 1 Ly3 (by decide) (by decide)
  obtain ⟨y5,Fy5,Ey5,Ly5⟩:=mb y4 (cX l.Ze.l[i].left) 22 7 Ly4 (by have:=jm l.Ze.l[i].left;obtain ⟨_,_,_,_,_⟩:=hm2;omega) (by decide);obtain ⟨y6,Fy6,Ey6,Ly6⟩:=mb y5 [32] 29 1 Ly5 (by decide) (by decide);obtain ⟨y7,Fy7,Ey7,Ly7⟩:=mb y6 (cX l.Ze.l[i].right) 30 7 Ly6 (by have:=jm l.Ze.l[i].right;obtain ⟨_,_,_,_,_⟩:=hm2;omega) (by decide);obtain ⟨y8,Fy8,Ey8,Ly8⟩:=mb y7 [10] 37 1 Ly7 (by decide) (by decide)
  obtain ⟨o2,Fo,Eo,Lo⟩:=mb o y8 100000000 38 ho1 Ly8 (by decide)
  have Ex:o2=o++sA (l.Ze.l)[i]:=by
   rw [Eo,Ey8,Ey7,Ey6,Ey5,Ey4,Ey3,Ey2,Ey1];simp [sA,pL,tT,rD,fW,hfr,aae,kx,qQ,ky,qR,rf,vK]
  have ih2:=ih o2 (by rw [Ex,al8];omega);have e3:o++db sA ((l.Ze.l).drop i)=o2++db sA ((l.Ze.l).drop (i+1)):=by rw [hd,db,Ex,amr]
  rw [e3];rw [ah M iE.eq_1];simp (config:=apy) only [Zh M,↓Zi,Nat.reduceBEq,Nat.reduceAdd,env,ae,bu,Zx,AV.cell,Nat.reduceMul,Nat.reduceLeDiff,hi,hx,hp,bR hp,dD,C4,hwr,hil,ih2,Fy1,Fy2,Fy3,Fy4,Fy5,Fy6,Fy7,Fy8,Fo,dsh,wp,ZH,aab,Zz,Dn]
theorem rt7{H H0:List Y4}(hP:qN E){l:Lex}{p:Nat}{T:TypeId}(hp:H[p]?=some (.cells l.row T))(hB:(l.Zm.l).length≤128∧∀ x∈l.Zm.l,LiB x)(hc:bY H0 H)(k:List ZA):∀ (n i:Nat) (o:Zc) (ho:o.length+((l.Zm.l).length-i)*1000≤100000000) (He:List Y4),i+n=(l.Zm.l).length →
  M.go bb H0 (.c iF :: .lp ⟨(some [1,3,14]),[],false⟩ iF He :: .ZU 14 :: .c (.lv [3])::k) (kv [(1,.ptr p 0),(3,.str o),(14,.int .i64 i)]) H =
   (M.go bb H0 k (kv [(3,.str (o++db uU (l.Zm.l.drop i)))]) (H))
 |0,i,o,ho,He,h=>by
  have e:i=(l.Zm.l).length:=by omega
  subst e;rw [ah M iF.eq_1];simp (config:=apy) only [Zh M,↓Zi,Nat.reduceBEq,Nat.reduceAdd,env,ae,bu,ame,al9,db,amt,dD,hp]
 |n+1,i,o,ho,He,h=>by
  have hi:i<(l.Zm.l).length:=by omega
  have hx:=al4 hi;have hd:=al6 hi;have hm:=amc hi;have ih:=fun o ho He=>rt7 (H:=H) (H0:=H0) (hP:=hP) (l:=l) (p:=p) (T:=T) (hp:=hp) (hB:=hB) hc k n (i+1) o ho He (by omega)
  simp only [Y6,Y8] at ih;have hm2:=hB.2 _ hm;have hml:=hm2.len;have hml2:(uU (l.Zm.l)[i]).length≤1000:=hml
  have hns:((l.Zm.l).length-i)*1000=((l.Zm.l).length-(i+1))*1000+1000:=by
   have:(l.Zm.l).length-i=(l.Zm.l).length-(i+1)+1:=by omega
   rw [this,am7]
  have ho1:o.length≤100000000:=by omega
  have hil:=fun tg=>aE (row:=dn.row) (tag:=tg) (sz:=3) (k:=.i64) hi
  have hwr:=bt hi (show (l.Zm.l).length≤aZ by have:=hB.1;simp only [aZ];omega);have dsh:=fun s H=>zg M hP s H
  have hfe:=fun H=>Dl M hP (tg:=(l.Zm.l[i]).Zf.tag) (l:=(l.Zm.l[i]).Zf.l) (by have:=hm2.fs.len;omega) (by have:=hm2.fs.1;simp only [aZ];omega) H
  obtain ⟨y1,Fy1,Ey1,Ly1⟩:=mb [108,105,110,107,32] l.Zm.l[i].cls 5 12 (by decide) hm2.1 (by decide);obtain ⟨y2,Fy2,Ey2,Ly2⟩:=mb y1 [32] 17 1 Ly1 (by decide) (by decide);obtain ⟨y3,Fy3,Ey3,Ly3⟩:=mb y2 (cX l.Zm.l[i].glue) 18 7 Ly2 (by have:=jm l.Zm.l[i].glue;have:=hm2.2.1;omega) (by decide);obtain ⟨y4,Fy4,Ey4,Ly4⟩:=mb y3 (fW l.Zm.l[i].Zf.l) 25 208 Ly3 hm2.fs.len (by decide);obtain ⟨y5,Fy5,Ey5,Ly5⟩:=mb y4 [10] 233 1 Ly4 (by decide) (by decide)
  obtain ⟨o2,Fo,Eo,Lo⟩:=mb o y5 100000000 234 ho1 Ly5 (by decide)
  have Ex:o2=o++uU (l.Zm.l)[i]:=by
   rw [Eo,Ey5,Ey4,Ey3,Ey2,Ey1];simp [uU,pL,tT,rD,fW,aae,kx,qQ,ky,qR,rf,vK]
  have ih2:=ih o2 (by rw [Ex,al8];omega);have e3:o++db uU ((l.Zm.l).drop i)=o2++db uU ((l.Zm.l).drop (i+1)):=by rw [hd,db,Ex,amr]
  rw [e3];rw [ah M iF.eq_1];simp (config:=apy) only [Zh M,↓Zi,Nat.reduceBEq,Nat.reduceAdd,env,ae,bu,hi,hx,hp,bR hp,dD,Gi,hwr,hil,ih2,Fy1,Fy2,Fy3,Fy4,Fy5,Fo,dsh,hfe]
theorem rt1{H H0:List Y4}(hP:qN E){l:Lex}{p:Nat}{T:TypeId}(hp:H[p]?=some (.cells l.row T))(hB:(l.Y9.l).length≤128∧∀ x∈l.Y9.l,TrB x)(hc:bY H0 H)(k:List ZA):∀ (n i:Nat) (o:Zc) (ho:o.length+((l.Y9.l).length-i)*1000≤100000000) (He:List Y4),i+n=(l.Y9.l).length →
  M.go bb H0 (.c iz :: .lp ⟨(some [1,3,4]),[],false⟩ iz He :: .ZU 0 :: .c (.lv [1,3])::k) (kv [(1,.ptr p 0),(3,.str o),(4,.int .i64 i)]) H =
   (M.go bb H0 k (kv [(1,.ptr p 0),(3,.str (o++db qs (l.Y9.l.drop i)))]) (H))
 |0,i,o,ho,He,h=>by
  have e:i=(l.Y9.l).length:=by omega
  subst e;rw [ah M iz.eq_1];simp (config:=apy) only [Zh M,↓Zi,Nat.reduceBEq,Nat.reduceAdd,env,ae,bu,ame,al9,db,amt,dD,hp]
 |n+1,i,o,ho,He,h=>by
  have hi:i<(l.Y9.l).length:=by omega
  have hx:=al4 hi;have hd:=al6 hi;have hm:=amc hi;have ih:=fun o ho He=>rt1 (H:=H) (H0:=H0) (hP:=hP) (l:=l) (p:=p) (T:=T) (hp:=hp) (hB:=hB) hc k n (i+1) o ho He (by omega)
  simp only [Y6,Y8] at ih;have hm2:=hB.2 _ hm;have hml:=hm2.len;have hml2:(qs (l.Y9.l)[i]).length≤1000:=by omega
  have hns:((l.Y9.l).length-i)*1000=((l.Y9.l).length-(i+1))*1000+1000:=by
   have:(l.Y9.l).length-i=(l.Y9.l).length-(i+1)+1:=by omega
   rw [this,am7]
  have ho1:o.length≤100000000:=by omega
  have hil:=fun tg=>aE (row:=bf.row) (tag:=tg) (sz:=2) (k:=.i64) hi
  have hwr:=bt hi (show (l.Y9.l).length≤aZ by have:=hB.1;simp only [aZ];omega);obtain ⟨y1,Fy1,Ey1,Ly1⟩:=mb [116,114,97,105,116,32] l.Y9.l[i].name 6 12 (by decide) hm2.1 (by decide);obtain ⟨o2,Fo,Eo,Lo⟩:=mb o y1 100000000 18 ho1 Ly1 (by decide)
  have hIn:((db GU l.Y9.l[i].values.l)).length≤50000:=by
   have:=ow (f:=GU) (B:=1000) (l:=l.Y9.l[i].values.l) fun x hx=>by have:=hm2.2.2 x hx;have:=VaB.len (v:=x) this;omega
   have:=hm2.2.1;omega
  have rI:=fun k He=>rt0 M (H:=H) (H0:=H0) hP hp hi hx ⟨hm2.2.1,hm2.2.2⟩ hc k l.Y9.l[i].values.l.length 0 o2 (by have:=hm2.2.1;omega) He (by omega)
  simp only [Y6,Y8,amj,amf] at rI;obtain ⟨o4,F4,E4,L4⟩:=mb (o2++(db GU l.Y9.l[i].values.l)) [10] 200000000 1 (by rw [al8];have:=hIn;omega) (by decide) (by decide)
  have Ex:o4=o++qs (l.Y9.l)[i]:=by
   rw [E4,Eo,Ey1];simp [qs,pL,tT,rD,fW,Ev,aae,kx,qQ,ky,qR,rf,vK]
  have ih2:=ih o4 (by rw [Ex,al8];omega);have e3:o++db qs ((l.Y9.l).drop i)=o4++db qs ((l.Y9.l).drop (i+1)):=by rw [hd,db,Ex,amr]
  rw [e3];rw [ah M iz.eq_1];simp (config:=apy) only [Zh M,↓Zi,Nat.reduceBEq,Nat.reduceAdd,env,ae,bu,hi,hx,hp,bR hp,dD,kI,hwr,hil,ih2,rI,Fy1,Fo,F4,kI]
theorem rt3{H H0:List Y4}(hP:qN E){l:Lex}{p:Nat}{T:TypeId}(hp:H[p]?=some (.cells l.row T))(hB:(l.Y7.l).length≤16∧∀ x∈l.Y7.l,ClB x)(hc:bY H0 H)(k:List ZA):∀ (n i:Nat) (o:Zc) (ho:o.length+((l.Y7.l).length-i)*25000≤100000000),i+n=(l.Y7.l).length →
  M.go bb H0 (.c iB :: .lp ⟨(some [1,3,6]),[],true⟩ iB H :: .ZU 4 :: .c (.lv [1,3])::k) (kv [(1,.ptr p 0),(3,.str o),(6,.int .i64 i)]) H =
   (M.go bb H0 k (kv [(1,.ptr p 0),(3,.str (o++db mz (l.Y7.l.drop i)))]) (H))
 |0,i,o,ho,h=>by
  have e:i=(l.Y7.l).length:=by omega
  subst e;rw [ah M iB.eq_1];simp (config:=apy) only [Zh M,↓Zi,Nat.reduceBEq,Nat.reduceAdd,env,ae,bu,ame,al9,db,amt,dD,hp]
 |n+1,i,o,ho,h=>by
  have hi:i<(l.Y7.l).length:=by omega
  have hx:=al4 hi;have hd:=al6 hi;have hm:=amc hi;have ih:=fun o ho=>rt3 (H:=H) (H0:=H0) (hP:=hP) (l:=l) (p:=p) (T:=T) (hp:=hp) (hB:=hB) hc k n (i+1) o ho (by omega)
  simp only [Y6,Y8] at ih;have hm2:=hB.2 _ hm;have hml:=hm2.len;have hml2:(mz (l.Y7.l)[i]).length≤25000:=by omega
  have hns:((l.Y7.l).length-i)*25000=((l.Y7.l).length-(i+1))*25000+25000:=by
   have:(l.Y7.l).length-i=(l.Y7.l).length-(i+1)+1:=by omega
   rw [this,am7]
  have ho1:o.length≤100000000:=by omega
  have hil:=fun tg=>aE (row:=aV.row) (tag:=tg) (sz:=2) (k:=.i64) hi
  have hwr:=bt hi (show (l.Y7.l).length≤aZ by have:=hB.1;simp only [aZ];omega);have wp:Wk H.length (.ptr p 0) (.ptr p 0):=ZN (dS hp);obtain ⟨y1,Fy1,Ey1,Ly1⟩:=mb [99,108,97,115,115,32] l.Y7.l[i].name 6 12 (by decide) hm2.1 (by decide);obtain ⟨y2,Fy2,Ey2,Ly2⟩:=mb y1 [10] 18 1 Ly1 (by decide) (by decide);obtain ⟨o2,Fo,Eo,Lo⟩:=mb o y2 100000000 19 ho1 Ly2 (by decide)
  have hIn:((db uT l.Y7.l[i].Zd.l)).length≤50000:=by
   have:=ow (f:=uT) (B:=1000) (l:=l.Y7.l[i].Zd.l) fun x hx=>by exact (hm2.2.2 x hx).len
   have:=hm2.2.1;omega
  have rI:=fun k=>rt2 M (H:=H) (H0:=H0) hP hp hi hx ⟨hm2.2.1,hm2.2.2⟩ hc k l.Y7.l[i].Zd.l.length 0 o2 (by have:=hm2.2.1;omega) (by omega)
  simp only [Y6,Y8,amj,amf] at rI;obtain ⟨o4,E4⟩:∃ y,y=o2++(db uT l.Y7.l[i].Zd.l):=⟨_,rfl⟩
  rw [← E4] at rI
  have Ex:o4=o++mz (l.Y7.l)[i]:=by
   rw [E4,Eo,Ey2,Ey1];simp [mz,pL,tT,rD,fW,Ev,aae,kx,qQ,ky,qR,rf,vK]
  have ih2:=ih o4 (by rw [Ex,al8];omega);have e3:o++db mz ((l.Y7.l).drop i)=o4++db mz ((l.Y7.l).drop (i+1)):=by rw [hd,db,Ex,amr]
  rw [e3];rw [ah M iB.eq_1];simp (config:=apy) only [Zh M,↓Zi,Nat.reduceBEq,Nat.reduceAdd,env,ae,bu,Zx,AV.cell,Nat.reduceMul,Nat.reduceLeDiff,hi,hx,hp,bR hp,dD,jy,hwr,hil,ih2,rI,Fy1,Fy2,Fo,jy,Zt,wp,ZH,aab,Zz,Dn]
theorem rt5{H H0:List Y4}(hP:qN E){l:Lex}{p:Nat}{T:TypeId}(hp:H[p]?=some (.cells l.row T))(hB:(l.entries.l).length≤128∧∀ x∈l.entries.l,EnB x)(hc:bY H0 H)(k:List ZA):∀ (n i:Nat) (o:Zc) (ho:o.length+((l.entries.l).length-i)*25000≤100000000),i+n=(l.entries.l).length →
  M.go bb H0 (.c iD :: .lp ⟨(some [1,3,9]),[],true⟩ iD H :: .ZU 8 :: .c (.lv [1,3])::k) (kv [(1,.ptr p 0),(3,.str o),(9,.int .i64 i)]) H =
   (M.go bb H0 k (kv [(1,.ptr p 0),(3,.str (o++db pE (l.entries.l.drop i)))]) (H))
 |0,i,o,ho,h=>by
  have e:i=(l.entries.l).length:=by omega
  subst e;rw [ah M iD.eq_1];simp (config:=apy) only [Zh M,↓Zi,Nat.reduceBEq,Nat.reduceAdd,env,ae,bu,ame,al9,db,amt,dD,hp]
 |n+1,i,o,ho,h=>by
  have hi:i<(l.entries.l).length:=by omega
  have hx:=al4 hi;have hd:=al6 hi;have hm:=amc hi;have ih:=fun o ho=>rt5 (H:=H) (H0:=H0) (hP:=hP) (l:=l) (p:=p) (T:=T) (hp:=hp) (hB:=hB) hc k n (i+1) o ho (by omega)
  simp only [Y6,Y8] at ih;have hm2:=hB.2 _ hm;have hml:=hm2.len;have hml2:(pE (l.entries.l)[i]).length≤25000:=by omega
  have hns:((l.entries.l).length-i)*25000=((l.entries.l).length-(i+1))*25000+25000:=by
   have:(l.entries.l).length-i=(l.entries.l).length-(i+1)+1:=by omega
   rw [this,am7]
  have ho1:o.length≤100000000:=by omega
  have hil:=fun tg=>aE (row:=aT.row) (tag:=tg) (sz:=4) (k:=.i64) hi
  have hwr:=bt hi (show (l.entries.l).length≤aZ by have:=hB.1;simp only [aZ];omega);have wp:Wk H.length (.ptr p 0) (.ptr p 0):=ZN (dS hp);have hfe:=fun H=>Dl M hP (tg:=(l.entries.l[i]).Zf.tag) (l:=(l.entries.l[i]).Zf.l) (by have:=hm2.fs.len;omega) (by have:=hm2.fs.1;simp only [aZ];omega) H
  obtain ⟨y1,Fy1,Ey1,Ly1⟩:=mb [101,110,116,114,121,32] l.entries.l[i].lem 6 24 (by decide) hm2.1 (by decide);obtain ⟨y2,Fy2,Ey2,Ly2⟩:=mb y1 [32] 30 1 Ly1 (by decide) (by decide);obtain ⟨y3,Fy3,Ey3,Ly3⟩:=mb y2 l.entries.l[i].cls 31 12 Ly2 hm2.2.1 (by decide);obtain ⟨y4,Fy4,Ey4,Ly4⟩:=mb y3 (fW l.entries.l[i].Zf.l) 43 208 Ly3 hm2.fs.len (by decide);obtain ⟨y5,Fy5,Ey5,Ly5⟩:=mb y4 [10] 251 1 Ly4 (by decide) (by decide)
  obtain ⟨o2,Fo,Eo,Lo⟩:=mb o y5 100000000 252 ho1 Ly5 (by decide)
  have hIn:((db wO l.entries.l[i].Zg.l)).length≤50000:=by
   have:=ow (f:=wO) (B:=1000) (l:=l.entries.l[i].Zg.l) fun x hx=>by exact (hm2.2.2.2.2 x hx).len
   have:=hm2.2.2.2.1;omega
  have hpq:(H++[Y4.cells l.entries.l[i].row aD])[H.length]?=some (.cells l.entries.l[i].row aD):=by rw [cY];rfl
  have rI:=fun k He=>rt4 M (H:=H++[Y4.cells l.entries.l[i].row aD]) (H0:=H0) hP (bR hp) (x9:=.int .i64 i) hpq ⟨hm2.2.2.2.1,hm2.2.2.2.2⟩ (nZ hc _) k l.entries.l[i].Zg.l.length 0 o2 (by have:=hm2.2.2.2.1;omega) He (by omega)
  simp only [Y6,Y8,amj,amf] at rI;obtain ⟨o4,E4⟩:∃ y,y=o2++(db wO l.entries.l[i].Zg.l):=⟨_,rfl⟩
  rw [← E4] at rI
  have Ex:o4=o++pE (l.entries.l)[i]:=by
   rw [E4,Eo,Ey5,Ey4,Ey3,Ey2,Ey1];simp [pE,pL,tT,rD,fW,Ev,aae,kx,qQ,ky,qR,rf,vK]
  have ih2:=ih o4 (by rw [Ex,al8];omega);have e3:o++db pE ((l.entries.l).drop i)=o4++db pE ((l.entries.l).drop (i+1)):=by rw [hd,db,Ex,amr]
  rw [e3];rw [ah M iD.eq_1];simp (config:=apy) only [Zh M,↓Zi,Nat.reduceBEq,Nat.reduceAdd,env,ae,bu,Zx,AV.cell,Nat.reduceMul,Nat.reduceLeDiff,hi,hx,hp,bR hp,dD,kJ,hwr,hil,ih2,rI,Fy1,Fy2,Fy3,Fy4,Fy5,Fo,hfe,hpq,wp,ZH,aab,Zz,Dn]
end
section
attribute [local congr] aF aS cC bn aG aX aL aH az aA aM aN
variable{E:br}(M:cH bM E)
theorem FK(hP:qN E){l:Lex}(hT:TxB l)(H:List Y4):M.run jz [.agg l.row] H=some (.ret (.str (qt l)),H):=by
 obtain ⟨q0,q1,q2,q3,q4,q5⟩:=hT.ai6;have dsh:=fun H=>zg M hP l.Zs H
 have hp:(H++[Y4.cells l.row ab])[H.length]?=some (.cells l.row ab):=by rw [cY];rfl
 have hc:=Zz H [Y4.cells l.row ab];obtain ⟨y1,F1,E1,L1⟩:=mb [118,111,119,101,108,115,32] (cX l.Zs) 7 257 (by decide) (by have:=jm l.Zs;have:=hT.Z3;omega) (by decide);obtain ⟨y2,F2,E2,L2⟩:=mb y1 [10] 264 1 L1 (by decide) (by decide);have e0:y2=LY l.Zs:=by rw [E2,E1];simp [LY,pL,tT,rD,fW,LX]
 obtain ⟨o1,h1⟩:∃ y,y=y2++db qs l.Y9.l:=⟨_,rfl⟩
 obtain ⟨o2,h2⟩:∃ y,y=o1++db mz l.Y7.l:=⟨_,rfl⟩
 obtain ⟨o3,h3⟩:∃ y,y=o2++db pE l.entries.l:=⟨_,rfl⟩
 obtain ⟨o4,h4⟩:∃ y,y=o3++db sA l.Ze.l:=⟨_,rfl⟩
 obtain ⟨o5,h5⟩:∃ y,y=o4++db uU l.Zm.l:=⟨_,rfl⟩
 have g1:o1.length≤10000:=by rw [h1,al8];omega
 have g2:o2.length≤500000:=by rw [h2,al8];omega
 have g3:o3.length≤4000000:=by rw [h3,al8];omega
 have g4:o4.length≤5000000:=by rw [h4,al8];omega
 have r1:=fun k He=>rt1 M (H0:=H) hP hp ⟨by have:=hT.Y9.1;omega,hT.Y9.2⟩ hc k l.Y9.l.length 0 y2 (by have:=hT.Y9.1;omega) He (by omega)
 have r2:=fun k=>rt3 M (H0:=H) hP hp hT.Y7 hc k l.Y7.l.length 0 o1 (by have:=hT.Y7.1;omega) (by omega)
 have r3:=fun k=>rt5 M (H0:=H) hP hp hT.entries hc k l.entries.l.length 0 o2 (by have:=hT.entries.1;omega) (by omega)
 have r4:=fun k=>rt6 M (H0:=H) hP hp ⟨by have:=hT.Ze.1;omega,hT.Ze.2⟩ hc k l.Ze.l.length 0 o3 (by have:=hT.Ze.1;omega) (by omega)
 have r5:=fun k He=>rt7 M (H0:=H) hP hp ⟨by have:=hT.Zm.1;omega,hT.Zm.2⟩ hc k l.Zm.l.length 0 o4 (by have:=hT.Zm.1;omega) He (by omega)
 simp only [Y6,Y8,amj,amf] at r1 r2 r3 r4 r5;rw [← h1] at r1;rw [← h2] at r2;rw [← h3] at r3;rw [← h4] at r4;rw [← h5] at r5
 have e5:o5=qt l:=by
  rw [h5,h4,h3,h2,h1,e0];simp only [qt,amr]
 rw [← e5];rw [au M hP.aci rfl (c:=qa) rfl,qa];simp (config:=apy) only [Zh M,↓Zi,Nat.reduceBEq,Nat.reduceAdd,env,ae,bu,Zx,AV.cell,Nat.reduceMul,Nat.reduceLeDiff,dD,dsh,F1,F2,r1,r2,r3,r4,r5]
theorem O0(hN:dx E)(hR:yh E)(hP:qN E){l:Lex}{n:Nat}(hl:l.ok n){H:List Y4}(hn:n≤H.length) :
  M.run oL [.agg l.row] H=some (.ret (.tuple [.str (FH l),.int .u8 (FI l)]),H):=by
 have hck:=I7 M hN hR hl (H:=H++[Y4.cells l.row ab]) (by simp;omega);unfold FH FI;cases hv:(iV l == 0) with
 |false=>
  rw [au M hP.aas rfl (c:=eS) rfl,eS];simp (config:=apy) only [Zh M,↓Zi,Nat.reduceBEq,Nat.reduceAdd,env,ae,oS,Zx,AV.cell,Nat.reduceMul,Nat.reduceLeDiff,dD,hck,hv,Zv]
 |true=>
  have hv0:iV l=0:=eq_of_beq hv;have hT:=I9 hv0;have ht:=fun H=>FK M hP hT H
  have hd:decide (((qt l).length:Int)≤65536) = !decide (65536<((qt l).length:Int)):=by
   rw [← decide_not];exact anp.2 (by omega)
  cases hd2:decide (65536<((qt l).length:Int)) with
  |true=>
   rw [hd2] at hd;rw [au M hP.aas rfl (c:=eS) rfl,eS];simp (config:=apy) only [Zh M,↓Zi,Nat.reduceBEq,Nat.reduceAdd,env,ae,oS,Zx,AV.cell,Nat.reduceMul,Nat.reduceLeDiff,dD,hck,hv,ht,hd,Zv,anS]
  |false=>
   rw [hd2] at hd;rw [au M hP.aas rfl (c:=eS) rfl,eS];simp (config:=apy) only [Zh M,↓Zi,Nat.reduceBEq,Nat.reduceAdd,env,ae,oS,Zx,AV.cell,Nat.reduceMul,Nat.reduceLeDiff,dD,hck,hv,ht,hd,Zv,anW]
end
section
attribute [local congr] aF aS cC bn aG aX aL aH az aA aM aN
variable{E:br}(M:cH bM E)
structure gB (E:br):Prop where
 adg:E.fn lM=some r7
 aak:E.fn eF=some gz
 aaG:E.fn dJ=some fg
 adt:E.fn lL=some rZ
 aaE:E.fn kL=some gD
 adr:E.fn lJ=some rS
 acZ:E.fn kF=some qH
 ad2:E.fn xO=some ur
 aa9:E.fn kM=some iQ
 adG:E.fn c6=some s7
 aaA:E.fn mK=some td
 aef:E.fn ek=some vT
 acI:E.fn kB=some oI
 adX:E.fn ru=some um
 adu:E.fn lN=some r8
 adm:E.fn lO=some r9
 adi:E.fn lP=some sa
 Z6:E.fn iR=some vo
 ab8:E.fn jZ=some vp
 aau:E.fn iS=some vq
 adw:E.fn lQ=some sb
 ab6:E.fn j0=some vt
 acn:E.fn fY=some ag
 Z4:E.fn js=some oF
 aaN:E.fn oM=some jc
 aaO:E.fn oN=some eU
 ZE:E.fn kj=some iG
 ach:E.fn cO=some qi
 aaC:E.fn gF=some eb
 ZD:E.fn pZ=some qb
 Zp:E.fn aP=some qc
 ZT:E.fn eQ=some gj
theorem B9(hS:gB E)(hX:nk M)(s:Zc)(c:UInt8)(H:List Y4):M.run dJ [.str s,.int .u8 c.toNat] H=some (.ret (.int .i64 (Lib.indexByte s c)),H):=by
 rw [au M hS.aaG rfl (c:=iP) rfl,iP];simp (config:=apy) only [Zh M,↓Zi,Nat.reduceBEq,Nat.reduceAdd,env,ae,tl,hX.index]
theorem Jb(hS:gB E)(hX:nk M)(s:Zc)(c:UInt8)(H:List Y4):M.run lM [.str s,.str [c]] H=some (.ret (.int .i64 (Lib.indexByte s c)),H):=by
 have h1:=B9 M hS hX s c H
 have h2:M.run eF [.str s,.str [c]] H=some (.ret (.int .i64 (Lib.indexByte s c)),H):=by
  rw [au M hS.aak rfl (c:=eK) rfl,eK];have e0:((([c].length:Nat):Int) == 0)=false:=rfl;have e1:((([c].length:Nat):Int) == 1)=true:=rfl;have e2:vH ([c]:Zc)[0]?=some (.int .u8 (c.toNat:Int)):=rfl;cases he:([c]:Zc) == s with
  |true=>
   have:Lib.indexByte s c=0:=by rw [← eq_of_beq he];simp [Lib.indexByte]
   rw [this];simp (config:=apy) only [Zh M,↓Zi,Nat.reduceBEq,Nat.reduceAdd,env,ae,gA,e0,e1,he]
  |false=>
   simp (config:=apy) only [Zh M,↓Zi,Nat.reduceBEq,Nat.reduceAdd,env,ae,gA,e0,e1,e2,h1,he]
 rw [au M hS.adg rfl (c:=vk) rfl,vk];simp (config:=apy) only [Zh M,↓Zi,Nat.reduceBEq,Nat.reduceAdd,env,ae,GA,h2]
theorem Jc(hS:gB E)(hX:nk M)(s:Zc)(c:UInt8)(H:List Y4):M.run lL [.str s,.str [c]] H=some (.ret (.int .i64 (Lib.countByte s c:Nat)),H):=by
 rw [au M hS.adt rfl (c:=vj) rfl,vj];have h2:=hX.count s c H;have e0:((([c].length:Nat):Int) == 0)=false:=rfl;have e1:((([c].length:Nat):Int) == 1)=true:=rfl;have e2:vH ([c]:Zc)[0]?=some (.int .u8 (c.toNat:Int)):=rfl;simp (config:=apy) only [Zh M,↓Zi,Nat.reduceBEq,Nat.reduceAdd,env,ae,Gz,e0,e1,e2,h2]
def gh(c:UInt8):Zc→List Zc
 |[]=>[[]]
 |x::s=>if x=c then []::gh c s else match gh c s with
  |[]=>[[x]]
  |w::ws=>(x::w)::ws
theorem Ew(c:UInt8):∀ s:Zc,gh c s≠[]
 |[]=>by simp [gh]
 |x::s=>by
  rw [gh];split
  ·simp
  ·split<;>simp
theorem Jd(c:UInt8):∀ (a r:Zc),(∀ x∈a,x≠c)→gh c (a++c::r)=a::gh c r
 |[],r,_=>by simp [gh]
 |x::a,r,h=>by
  have h1:=Jd c a r fun y hy=>h y (.tail _ hy)
  simp only [amW,gh,h1];rw [if_neg (h x (.head _))]
theorem Je(c:UInt8):∀ a:Zc,(∀ x∈a,x≠c)→gh c a=[a]
 |[],_=>rfl
 |x::a,h=>by
  have h1:=Je c a fun y hy=>h y (.tail _ hy)
  simp only [gh,h1];rw [if_neg (h x (.head _))]
theorem Jf(c:UInt8):∀ (s:Zc) (m:Nat),Lib.countByte s c=m+1→∃ a r,s=a++c::r∧(∀ x∈a,x≠c)∧Lib.indexByte s c=(a.length:Int)∧Lib.countByte r c=m
 |[],m,h=>by simp [Lib.countByte] at h
 |x::s,m,h=>by
  by_cases hc:x=c
  ·subst hc
   exact ⟨[],s,rfl,fun c hc=>(by cases hc),by simp [Lib.indexByte],by simpa [Lib.countByte] using h⟩
  ·obtain ⟨a,r,h1,h2,h3,h4⟩:=Jf c s m (by rwa [Lib.countByte,aog (Ne.symm (by simpa using (fun e=>hc e.symm)))] at h)
   refine ⟨x::a,r,by rw [h1];rfl,fun y hy => ?_, ?_,h4⟩
   ·rcases ank.1 hy with rfl | hy
    ·exact hc
    ·exact h2 y hy
   ·have hb:(x == c)=false:=by simpa using hc
    simp only [Lib.indexByte,hb,h3]
    have:((a.length:Int) == -1)=false:=amg.2 (by omega)
    simp [this]
theorem P0(c:UInt8){s:Zc}(h:Lib.countByte s c=0):(∀ x∈s,x≠c)∧Lib.indexByte s c = -1:=by
 have h1:∀ x∈s,x≠c:=fun x hx e=>by
  rw [Lib.countByte,api] at h;exact h (e ▸ hx)
 refine ⟨h1, ?_⟩;clear h;induction s with
 |nil=>rfl
 |cons x s ih=>
  have hb:(x == c)=false:=by simpa using h1 x (.head _)
  simp only [Lib.indexByte,hb,ih fun y hy=>h1 y (.tail _ hy)];simp
def lnI(c:UInt8):Nat→Zc→List Zc
 |0,_=>[]
 |n+1,s=>s.take (Lib.indexByte s c).toNat::lnI c n (s.drop ((Lib.indexByte s c).toNat+1))
def lnR(c:UInt8):Nat→Zc→Zc
 |0,s=>s
 |n+1,s=>lnR c n (s.drop ((Lib.indexByte s c).toNat+1))
theorem P1(c:UInt8):∀ (n:Nat) (s:Zc),(lnI c n s).length=n
 |0,_=>rfl
 |n+1,s=>by rw [lnI,amk,P1 c n]
theorem L5(c:UInt8):∀ (n:Nat) (s:Zc),Lib.countByte s c=n→lnI c n s++[lnR c n s]=gh c s
 |0,s,h=>by rw [lnI,lnR,Je c s (P0 c h).1];rfl
 |n+1,s,h=>by
  obtain ⟨a,r,h1,h2,h3,h4⟩:=Jf c s n h;have hm:(Lib.indexByte s c).toNat=a.length:=by rw [h3];rfl
  have hdr:s.drop (a.length+1)=r:=by
   rw [h1,show a++c::r=(a++[c])++r by simp];exact aoF (by simp)
  have htk:s.take a.length=a:=by rw [h1];exact aoe rfl
  rw [lnI,lnR,hm,hdr,htk,amW,L5 c n r h4,h1,Jd c a r h2]
def tI(n:Nat)(l:List Zc):Y4:=.cells (l.map AV.str++List.replicate (n-l.length) (.str [])) aI
theorem P2:∀ (l:List Zc),iT 1 l.length (l.map AV.str)=l.map ak
 |[]=>rfl
 |s::l=>by
  rw [amk,amN,iT,amN];simp only [aoE,anU,aoD,amf];rw [P2 l];rfl
theorem O1{n:Nat}(h:n≤1000000)(H:List Y4)(e:TypeId)(cs:List AV):rms H e 16 cs (.int .i64 (n:Int)) (.int .i64 (n:Int))=some (.Za H.length 0 n cs.length true,H++[.cells (List.replicate n cs).flatten e]):=by
 simp [rms];omega
theorem Xj(n:Nat)(x:AV):(List.replicate n [x]).flatten=List.replicate n x:=by
 induction n with
 |zero=>rfl
 |succ n ih=>rw [aoG,aoO,ih,aoG];rfl
theorem O2{id n m:Nat}(h:m≤n):AN 1 (.Za id 0 n 1 true) none (some (.int .i64 (m:Int))) none=some (.Za id 0 m 1 true):=by
 simp [AN,fX,h]
theorem Hh{id n i:Nat}(h:i<n)(k:IntKind):qV 1 (.Za id 0 n 1 true) (.int k (i:Int))=some (.ptr id i):=by
 simp only [qV];rw [if_pos ⟨trivial,by omega,by simp;omega⟩];simp
theorem Ey(G:List Y4){N:Nat}{o:List Zc}(ho:o.length<N)(w:Zc):stO 1 (G++[tI N o]) G.length o.length [.str w] (some (tI N o))=some (G++[tI N (o++[w])]):=by
 unfold tI;rw [acA (sz:=1) rfl (by simp;omega) rfl,abQ,aa5,abe]
 have e:(o.map AV.str++List.replicate (N-o.length) (AV.str [])).set o.length (AV.str w)=(o++[w]).map AV.str++List.replicate (N-(o++[w]).length) (AV.str []):=by
  rw [anE _ _ (by simp)];obtain ⟨m,hm⟩:∃ m,N-o.length=m+1:=⟨N-o.length-1,by omega⟩
  have hm2:N-(o++[w]).length=m:=by rw [al8,amP];omega
  rw [hm,hm2,aoG,ama,an1,anG];simp
 rw [e];rfl
theorem gsp(hS:gB E)(hX:nk M){c:UInt8}{N:Nat}(hN:N≤100000000){H H0:List Y4}:∀ (n i:Nat) (s:Zc) (o:List Zc),i+n=N→n≤Lib.countByte s c→o.length=i→s.length≤100000000 →
  ∀ (k:List ZA) (He:List Y4),M.go gD H0 (.c eh :: .lp ⟨(some [0,1,2,3,9,10]),[],false⟩ eh He :: .ZU 0 :: .c (.lv [0,9,10])::k) (kv [(0,.str s),(1,.str [c]),(2,.int .i64 0),(3,.int .i64 N),(9,.Za H.length 0 (N+1) 1 true),(10,.int .i64 i)]) (H++[tI (N+1) o]) =
   M.go gD H0 k (kv [(0,.str (lnR c n s)),(9,.Za H.length 0 (N+1) 1 true),(10,.int .i64 N)]) (H++[tI (N+1) (o++lnI c n s)])
 |0,i,s,o,h,hc,ho,hs,k,He=>by
  have e:i=N:=by omega
  subst e;rw [lnR,lnI,amt];rw [ah M eh.eq_1];simp (config:=apy) only [Zh M,↓Zi,Nat.reduceBEq,Nat.reduceAdd,env,ae,jo,ame]
 |n+1,i,s,o,h,hc,ho,hs,k,He=>by
  obtain ⟨cn,hcn⟩:∃ m,Lib.countByte s c=m+1:=⟨Lib.countByte s c-1,by omega⟩
  obtain ⟨a,r,h1,h2,h3,h4⟩:=Jf c s cn hcn;have hi:i<N:=by omega
  have hx:=fun H=>Jb M hS hX s c H
  rw [h3] at hx;have hal:a.length+1≤s.length:=by rw [h1];simp
  have hm:(Lib.indexByte s c).toNat=a.length:=by rw [h3];rfl
  have d1:decide ((a.length:Int)<0)=false:=amq (by omega);have hw0:IntKind.i64.wrap ((a.length:Int)+0)=(a.length:Int):=by rw [eY (by omega) (by omega)];omega
  have hw1:IntKind.i64.wrap ((a.length:Int)+1)=((a.length+1:Nat):Int):=by rw [eY (by omega) (by omega)];rfl
  have hw2:IntKind.i64.wrap ((i:Int)+1)=((i+1:Nat):Int):=by rw [eY (by omega) (by omega)];rfl
  have st1:ET (.str s) none (some (.int .i64 (a.length:Int)))=some (.str (s.take a.length)):=Xd (by omega);have st2:ET (.str s) (some (.int .i64 ((a.length+1:Nat):Int))) none=some (.str (s.drop (a.length+1))):=Vf hal
  have hdr:s.drop (a.length+1)=r:=by
   rw [h1,show a++c::r=(a++[c])++r by simp];exact aoF (by simp)
  have hia:=Hh (id:=H.length) (n:=N+1) (i:=i) (by omega) .i64;have hg:(H++[tI (N+1) o])[H.length]?=some (tI (N+1) o):=by rw [cY];rfl
  have hst:=Ey H (N:=N+1) (o:=o) (by omega) (s.take a.length);rw [ho] at hst;have ih:=gsp hS hX hN (c:=c) (H:=H) (H0:=H0) n (i+1) (s.drop (a.length+1)) (o++[s.take a.length]) (by omega) (by rw [hdr];omega) (by simp [ho]) (by rw [anJ];omega) k;simp only [Y6,Y8] at ih;rw [lnR,lnI,hm,List.append_cons o];rw [ah M eh.eq_1];simp (config:=apy) only [Zh M,↓Zi,Nat.reduceBEq,Nat.reduceAdd,env,ae,jo,Zx,AV.cell,Nat.reduceMul,Nat.reduceLeDiff,hi,hx,d1,hw0,hw1,hw2,st1,st2,hia,hg,hst,ih,(show ((([c]:Zc).length:Nat):Int)=1 from rfl),(show ((1:Nat):Int)=1 from rfl)]
theorem Hi(n:Nat)(ws:List Zc):mE n (ws.map ak):=by
 rw [aaF];exact fun _ _=>⟨ZH _ _,trivial⟩
theorem Gm:∀ (m:Nat) (cs:List AV),m≤cs.length→iT 1 m cs=iT 1 m (cs.take m)
 |0,_,_=>rfl
 |m+1,[],h=>by simp at h
 |m+1,x::cs,h=>by
  rw [iT,iT];simp only [aoE,anU,aoD,amf];rw [Gm m cs (by simpa using h)]
theorem L6{H:List Y4}{l:List Zc}{cs:List AV}{n N:Nat}(hg:H[n]?=some (.cells cs aI))(hc:cs.take l.length=l.map AV.str)(hl:l.length≤cs.length)(hN:N≤n):Z8 3 N H (.Za n 0 l.length 1 true)=some (.slice .any 1 (l.map ak)):=by
 refine Km (k:=2) (n:=N) (id:=n) (off:=0) (len:=l.length) (esz:=1) (room:=true) (cs:=cs) (rows:=l.map ak) (T:=aI) hN hg (by omega) ?_;have e:iT 1 l.length (cs.drop 0)=iT 1 l.length (l.map AV.str):=by rw [amf,Gm l.length cs hl,hc]
 rw [e,P2];exact gn fun x _=>aK (jn _ _ _ _) (fO _)
theorem Rp{H:List Y4}{n:Nat}{l:List Zc}(hl:l.length=n):(H++[tI n l])[H.length]?=some (.cells (l.map AV.str) aI):=by
 rw [cY];simp [tI,hl]
theorem KO(hS:gB E)(hX:nk M){c:UInt8}{s:Zc}(hs:s.length≤100000)(H:List Y4):M.run lJ [.str s,.str [c]] H=some (.ret (.slice .any 1 ((gh c s).map ak)),H):=by
 have hcl:Lib.countByte s c≤s.length:=List.count_le_length
 have h0:M.run kL [.str s,.str [c],.int .i64 0,.int .i64 (-1)] H=some (.ret (.slice .any 1 ((gh c s).map ak)),H):=by
  have hc:=fun H=>Jc M hS hX s c H
  have hw1:IntKind.i64.wrap ((Lib.countByte s c:Int)+1)=((Lib.countByte s c+1:Nat):Int):=by rw [eY (by omega) (by omega)];rfl
  have hw2:IntKind.i64.wrap ((s.length:Int)+1)=((s.length+1:Nat):Int):=by rw [eY (by omega) (by omega)];rfl
  have hw3:IntKind.i64.wrap (((Lib.countByte s c+1:Nat):Int)-1)=(Lib.countByte s c:Int):=by rw [eY (by omega) (by omega)];omega
  have hms:rms H aI 16 [.str []] (.int .i64 ((Lib.countByte s c+1:Nat):Int)) (.int .i64 ((Lib.countByte s c+1:Nat):Int))=some (.Za H.length 0 (Lib.countByte s c+1) 1 true,H++[tI (Lib.countByte s c+1) []]):=by
   rw [O1 (by omega),Xj];rfl
  have l0:=gsp M hS hX (c:=c) (N:=Lib.countByte s c) (by omega) (H:=H) (H0:=H) (Lib.countByte s c) 0 s [] (by omega) (amp _) rfl (by omega);simp only [Y6,Y8,amj,amH] at l0;have hia:=Hh (id:=H.length) (n:=Lib.countByte s c+1) (i:=Lib.countByte s c) (by omega) .i64;have hg:∀ y:Y4,(H++[y])[H.length]?=some y:=fun y=>by rw [cY];rfl
  have hll:=P1 c (Lib.countByte s c) s;have hst:=Ey H (N:=Lib.countByte s c+1) (o:=lnI c (Lib.countByte s c) s) (by omega) (lnR c (Lib.countByte s c) s);rw [L5 c _ s rfl,hll] at hst;have hln:(gh c s).length=Lib.countByte s c+1:=by rw [← L5 c _ s rfl,al8,hll];rfl
  have hsl:=O2 (id:=H.length) (n:=Lib.countByte s c+1) (m:=Lib.countByte s c+1) (amp _)
  have hfz:iZ bM .deep H (H++[tI (Lib.countByte s c+1) (gh c s)]) (.Za H.length 0 (Lib.countByte s c+1) 1 true)=some (.slice .any 1 ((gh c s).map ak),H):=by
   have h1:=L6 (l:=gh c s) (N:=H.length) (cs:=(gh c s).map AV.str) (Rp hln) (am8 (by simp)) (by simp) (amp _);rw [hln] at h1;have h2:=wt (Zz H [tI (Lib.countByte s c+1) (gh c s)]) ⟨3,h1⟩;rw [aaP] at h2;exact h2
  have q0:((-1:Int) == 0)=false:=rfl;have q1:(([c]:Zc) == [])=false:=rfl;have q2:decide ((-1:Int)<0)=true:=rfl
  have hmn:DA (.int .i64 ((Lib.countByte s c+1:Nat):Int)) (.int .i64 ((s.length+1:Nat):Int))=some (.int .i64 ((Lib.countByte s c+1:Nat):Int)):=by
   simp [DA];omega
  rw [au M hS.aaE rfl (c:=gC) rfl,gC];simp (config:=apy) only [Zh M,↓Zi,Nat.reduceBEq,Nat.reduceAdd,env,ae,jo,Zx,AV.cell,Nat.reduceMul,Nat.reduceLeDiff,q0,q1,q2,hc,hw1,hw2,hw3,hmn,hms,l0,hia,hg,hst,hsl,hfz,(show ((([c]:Zc).length:Nat):Int)=1 from rfl),(show ((1:Nat):Int)=1 from rfl)]
 have hh:=aaa (Zt H) (acd (esz:=1) (tag:=.any) (Hi H.length (gh c s)));simp only [aaW,aav] at hh;rw [au M hS.adr rfl (c:=vd) rfl,vd];simp (config:=apy) only [Zh M,↓Zi,Nat.reduceBEq,Nat.reduceAdd,env,ae,Gt,h0,hh]
end
section
attribute [local congr] aF aS cC bn aG aX aL aH az aA aM aN
variable{E:br}(M:cH bM E)
abbrev jH:AV:=.iface dN (.agg [])
theorem Xk(H:List Y4):QC jH H=some (.panic jH,H):=rfl
theorem KP{fn:Zj}(hm:fn.mode = .drop){H0 H:List Y4}(hc:bY H0 H):DV bM fn H0 jH H=some (.panic jH,H.take H0.length):=by
 unfold DV;have h:iZ bM .drop H0 H jH=some (jH,H.take H0.length):=aaa hc (v:=jH) (adP (abv (xs:=[]) (by trivial)));rw [hm,h]
theorem jX{fn:Zj}(hm:fn.mode = .Zn){H0 H:List Y4}(v:AV):DV bM fn H0 v H=some (.panic v,H):=by
 unfold DV;rw [hm];rfl
theorem zh{fn:Zj}(hm:fn.mode = .drop)(H:List Y4):DV bM fn H jH H=some (.panic jH,H):=by
 rw [KP hm (Zt H),anQ]
theorem qu:(∀ H,QC jH H=some (.panic jH,H))∧req (.ifc true) .Zr .Zr=some true∧(∀ t v,req (.ifc true) (.iface t v) .Zr=some false):=⟨Xk,rfl,fun _ _=>rfl⟩
theorem qv(hS:gB E)(b:Bool)(H:List Y4):M.run c6 [.bool b] H=some (Zv b (.ret (.tuple [])) (.panic jH),H):=by
 rw [au M hS.adG rfl (c:=wy) rfl,wy];have ea:lC (fun x=>([]:List (Nat×Nat))[x]?) [] []=some []:=rfl;cases b with
 |true=>simp (config:=apy) only [Zh M,↓Zi,Nat.reduceBEq,Nat.reduceAdd,env,ae,BK,Zv,anS]
 |false=>simp (config:=apy) only [Zh M,↓Zi,Nat.reduceBEq,Nat.reduceAdd,env,ae,BK,Zv,anW,ea,qu,Zq,zh]
def dc(s:Zc):Zc:=if (s == [45])=true then [] else s
theorem Ca(hS:gB E)(s:Zc)(H:List Y4):M.run ek [.str s] H=some (.ret (.str (dc s)),H):=by
 rw [au M hS.aef rfl (c:=zS) rfl,zS];cases h:(s == ([45]:Zc))<;>simp (config:=apy) only [Zh M,↓Zi,Nat.reduceBEq,Nat.reduceAdd,env,ae,LQ,h,dc]
def wR(s:Zc):Option Nat:=match Lib.atoiAll s with
 |.ok v=>if 0≤v∧v≤999∧fJ v.toNat=s then some v.toNat else none
 |_=>none
theorem Jg(hS:gB E)(hX:nk M)(hP:qN E){s:Zc}(hs:s.length≤1000000)(H:List Y4) :
  M.run mK [.str s] H=some (match wR s with | some n=>.ret (.int .i64 (n:Int)) | none=>.panic jH,H):=by
 have ha:=fun H=>hX.atoi s H hs
 have hd:=fun b H=>qv M hS b H
 cases hv:Lib.atoiAll s with
 |ok v=>
  have e1:atV s=v:=by unfold atV;rw [hv]
  have e2:atE s = .Zr:=by unfold atE;rw [hv]
  rw [e1,e2] at ha;have eN:wR s=if 0≤v∧v≤999∧fJ v.toNat=s then some v.toNat else none:=by unfold wR;rw [hv]
  rw [eN];cases h0:decide ((0:Int)≤v) with
  |false=>
   rw [if_neg (fun h=>absurd h.1 (of_decide_eq_false h0))];rw [au M hS.aaA rfl (c:=fy) rfl,fy];simp (config:=apy) only [Zh M,↓Zi,Nat.reduceBEq,Nat.reduceAdd,env,ae,qj,ha,hd,h0,Zv,qu,Zq,zh]
  |true=>
   cases h1:decide (v≤999) with
   |false=>
    rw [if_neg (fun h=>absurd h.2.1 (of_decide_eq_false h1))];rw [au M hS.aaA rfl (c:=fy) rfl,fy];simp (config:=apy) only [Zh M,↓Zi,Nat.reduceBEq,Nat.reduceAdd,env,ae,qj,ha,hd,h0,h1,Zv,qu,Zq,zh]
   |true=>
    have g0:=of_decide_eq_true h0;have g1:=of_decide_eq_true h1;obtain ⟨n,rfl⟩:∃ n:Nat,v=(n:Int):=⟨v.toNat,by omega⟩
    have hi:=fun H=>I4 M hX hP (n:=n) (by omega) H
    have en:((n:Int)).toNat=n:=by omega
    rw [en];cases h2:(fJ n == s) with
    |false=>
     rw [if_neg (fun h=>by rw [h.2.2] at h2;simp at h2)];rw [au M hS.aaA rfl (c:=fy) rfl,fy];simp (config:=apy) only [Zh M,↓Zi,Nat.reduceBEq,Nat.reduceAdd,env,ae,qj,ha,hd,h0,h1,hi,h2,Zv,qu,Zq,zh]
    |true=>
     rw [if_pos ⟨g0,g1,eq_of_beq h2⟩];rw [au M hS.aaA rfl (c:=fy) rfl,fy];simp (config:=apy) only [Zh M,↓Zi,Nat.reduceBEq,Nat.reduceAdd,env,ae,qj,ha,hd,h0,h1,hi,h2,Zv,qu,Zq,zh]
 |_=>
  have e2:atE s = .iface gH .ZW:=by unfold atE;rw [hv]
  rw [e2] at ha;have eN:wR s=none:=by unfold wR;rw [hv]
  rw [eN];rw [au M hS.aaA rfl (c:=fy) rfl,fy];simp (config:=apy) only [Zh M,↓Zi,Nat.reduceBEq,Nat.reduceAdd,env,ae,qj,ha,hd,Zv,qu,Zq,zh]
end
section
attribute [local congr] aF aS cC bn aG aX aL aH az aA aM aN
variable{E:br}(M:cH bM E)
theorem YA(c:UInt8){s:Zc}(h:Lib.countByte s c=1):∃ a r,s=a++c::r∧(∀ x∈a,x≠c)∧(∀ x∈r,x≠c)∧Lib.indexByte s c=(a.length:Int):=by
 obtain ⟨a,r,h1,h2,h3,h4⟩:=Jf c s 0 h;exact ⟨a,r,h1,h2,(P0 c h4).1,h3⟩
def wS(c:UInt8)(s:Zc):Zc:=s.take (Lib.indexByte s c).toNat
def wT(c:UInt8)(s:Zc):Zc:=s.drop ((Lib.indexByte s c).toNat+1)
theorem Vr(hS:gB E)(hX:nk M){c:UInt8}{s:Zc}(hs:s.length≤1000000)(h:Lib.countByte s c=1)(H:List Y4):M.run xO [.str s,.str [c]] H=some (.ret (.tuple [.str (wS c s),.str (wT c s),.bool true]),H):=by
 obtain ⟨a,r,h1,h2,h3,h4⟩:=YA c h;have hal:a.length+1≤s.length:=by rw [h1];simp
 have hi:∀ H,M.run eF [.str s,.str [c]] H=some (.ret (.int .i64 (a.length:Int)),H):=fun H=>by
  have hb:=B9 M hS hX s c H;rw [h4] at hb;rw [au M hS.aak rfl (c:=eK) rfl,eK];have e0:((([c].length:Nat):Int) == 0)=false:=rfl;have e1:((([c].length:Nat):Int) == 1)=true:=rfl;have e2:vH ([c]:Zc)[0]?=some (.int .u8 (c.toNat:Int)):=rfl;cases he:([c]:Zc) == s with
  |true=>
   have:a.length=0:=by
    have:=eq_of_beq he;rw [← this] at hal;simp at hal;exact hal ▸ rfl
   rw [this];simp (config:=apy) only [Zh M,↓Zi,Nat.reduceBEq,Nat.reduceAdd,env,ae,gA,e0,e1,he,amj]
  |false=>
   simp (config:=apy) only [Zh M,↓Zi,Nat.reduceBEq,Nat.reduceAdd,env,ae,gA,e0,e1,e2,hb,he]
 have hm:(Lib.indexByte s c).toNat=a.length:=by rw [h4];rfl
 have d1:decide ((0:Int)≤(a.length:Int))=true:=amu (by omega);have hw1:IntKind.i64.wrap ((a.length:Int)+1)=((a.length+1:Nat):Int):=by rw [eY (by omega) (by omega)];rfl
 have st1:ET (.str s) none (some (.int .i64 (a.length:Int)))=some (.str (s.take a.length)):=Xd (by omega);have st2:ET (.str s) (some (.int .i64 ((a.length+1:Nat):Int))) none=some (.str (s.drop (a.length+1))):=Vf hal
 have h5:∀ H,M.run kM [.str s,.str [c]] H=some (.ret (.tuple [.str (wS c s),.str (wT c s),.bool true]),H):=fun H=>by
  unfold wS wT;rw [hm];rw [au M hS.aa9 rfl (c:=kU) rfl,kU];simp (config:=apy) only [Zh M,↓Zi,Nat.reduceBEq,Nat.reduceAdd,env,ae,wI,hi,d1,hw1,st1,st2,(show ((([c]:Zc).length:Nat):Int)=1 from rfl),(show ((1:Nat):Int)=1 from rfl)]
 rw [au M hS.ad2 rfl (c:=xZ) rfl,xZ];simp (config:=apy) only [Zh M,↓Zi,Nat.reduceBEq,Nat.reduceAdd,env,ae,JG,h5]
def dq:List Zc→Option (List aw)
 |[]=>some []
 |s::l=>if Lib.countByte s 61=1 then (dq l).map (⟨wS 61 s,wT 61 s⟩ :: ·) else none
theorem O3{α:Type}{row:α→List AV}{l:List α}{x:α}{sz bytes:Nat}{e:TypeId}(H:List Y4)(h1:(row x).length=sz)(h2:(row x).all AV.cell=true)(h3:(row x).map AV.strip=row x)
  (hl:(l.length+1)*bytes≤140737488355328) (hl2:l.length+1≤4611686018427387904) :
  rap false (H++[.tok (l.length*sz) e]) e sz bytes false (.slice (.own H.length) sz (l.map row)) (.slice .full sz [row x])=some (.slice (.own H.length) sz ((l++[x]).map row),H++[.tok ((l++[x]).length*sz) e]):=by
 have hr:=zG h1 h2;simp only [rap,yq,xJ,or_true,if_true,amk,amw,amJ,true_and,hr,and_true,ama,amN,anm,h3];rw [if_pos ⟨hl,by omega⟩];simp only [cY,amx,and_self,if_true,abQ,anG,anP,amN,anm,al8,amk,amw,amJ,amT]
def ftO(M:cH bM E)(H0:List Y4)(k:List ZA)(H:List Y4)(o:List aw):Option (List aw)→Option Out
 |some fs=>M.go oI H0 k (kv [(3,.slice (.own H.length) 2 ((o++fs).map aw.row))]) (H++[.tok ((o++fs).length*2) aR])
 |none=>some (.panic jH,H.take H0.length)
theorem TD(M:cH bM E)(H0:List Y4)(k:List ZA)(H:List Y4)(o:List aw)(f:aw)(r:Option (List aw)):ftO M H0 k H o (r.map (f :: ·))=ftO M H0 k H (o++[f]) r:=by
 cases r with
 |none=>rfl
 |some fs=>simp only [amO,ftO,amr,amW,amH]
theorem ft0(hS:gB E)(hX:nk M){tg:Tag}{ws:List Zc}(hw:ws.length≤1000000)(hl:∀ s∈ws,s.length≤1000000){H H0:List Y4}(hc:bY H0 H):∀ (n i:Nat) (o:List aw),i+n=ws.length→o.length≤i→∀ (k:List ZA) (He:List Y4),
  M.go oI H0 (.c lR :: .lp ⟨(some [3,9,10,11]),[(3,2,aR)],false⟩ lR He :: .ZU 0 :: .c (.lv [3])::k) (kv [(3,.slice (.own H.length) 2 (o.map aw.row)),(9,.slice tg 1 (ws.map ak)),(10,.int .i64 ws.length),(11,.int .i64 i)]) (H++[.tok (o.length*2) aR])=ftO M H0 k H o (dq (ws.drop i))
 |0,i,o,h,ho,k,He=>by
  have e:i=ws.length:=by omega
  subst e;rw [al9,dq,ftO];simp only [amt];rw [ah M lR.eq_1];simp (config:=apy) only [Zh M,↓Zi,Nat.reduceBEq,Nat.reduceAdd,env,ae,rz,ame]
 |n+1,i,o,h,ho,k,He=>by
  have hi:i<ws.length:=by omega
  have hx:=al4 hi;have hd:=al6 hi;have hsl:=hl _ (amc hi);have hil:=aE (row:=ak) (tag:=tg) (sz:=1) (k:=.i64) hi;have hwr:=bt hi (show ws.length≤aZ by simp only [aZ];omega);have hcn:=fun H=>Jc M hS hX ws[i] 61 H
  have hdm:=fun b H=>qv M hS b H
  have hcm:=nZ hc [Y4.tok (o.length*2) aR];have htk:(H++[Y4.tok (o.length*2) aR]).take H0.length=H.take H0.length:=anB hc.1;rw [hd,dq]
  by_cases h1:Lib.countByte ws[i] 61=1
  ·rw [if_pos h1,TD]
   have h1':(((Lib.countByte ws[i] 61:Nat):Int) == 1)=true:=by rw [h1];rfl
   have hct:=fun H=>Vr M hS hX hsl h1 H
   have hap:=O3 (row:=aw.row) (l:=o) (x:=⟨wS 61 ws[i],wT 61 ws[i]⟩) (sz:=2) (bytes:=32) (e:=aR) H (by rfl) (by rfl) (by rfl) (by omega) (by omega);have hap:rap false (H++[.tok (o.length*2) aR]) aR 2 32 false (.slice (.own H.length) 2 (o.map aw.row)) (.slice .full 2 [[.str (wS 61 ws[i]),.str (wT 61 ws[i])]])=some (.slice (.own H.length) 2 ((o++[(⟨wS 61 ws[i],wT 61 ws[i]⟩:aw)]).map aw.row),H++[.tok ((o++[(⟨wS 61 ws[i],wT 61 ws[i]⟩:aw)]).length*2) aR]):=hap
   have ih:=ft0 hS hX (tg:=tg) hw hl hc n (i+1) (o++[⟨wS 61 ws[i],wT 61 ws[i]⟩]) (by omega) (by simp;omega) k;simp only [Y6,Y8] at ih;generalize hff:(⟨wS 61 ws[i],wT 61 ws[i]⟩:aw)=ff at *
   generalize ho2:o++[ff]=o2 at *
   rw [ah M lR.eq_1];simp (config:=apy) only [Zh M,↓Zi,Nat.reduceBEq,Nat.reduceAdd,env,ae,rz,Zx,AV.cell,Nat.reduceMul,Nat.reduceLeDiff,hi,hx,hil,hcn,hdm,h1',Zv,hct,hap,ih,hwr,dh]
  ·rw [if_neg h1,ftO]
   have h1':(((Lib.countByte ws[i] 61:Nat):Int) == 1)=false:=amg.2 (by omega);rw [ah M lR.eq_1];simp (config:=apy) only [Zh M,↓Zi,Nat.reduceBEq,Nat.reduceAdd,env,ae,rz,hi,hx,hil,hcn,hdm,h1',Zv,qu,Zq,KP,hcm,htk,dh]
theorem FL(hS:gB E)(hX:nk M){tg:Tag}{ws:List Zc}(hw:ws.length≤1000000)(hl:∀ s∈ws,s.length≤1000000)(H:List Y4) :
  M.run kB [.slice tg 1 (ws.map ak)] H=some (match dq ws with | some fs=>.ret (.slice .any 2 (fs.map aw.row)) | none=>.panic jH,H):=by
 have l0:=ft0 M hS hX (tg:=tg) hw hl (Zt H) ws.length 0 [] (by omega) (by simp);simp only [Y6,Y8,amj,amf,anm,amw,aof] at l0;cases hf:dq ws with
 |none=>
  rw [hf] at l0;simp only [ftO,aav] at l0;rw [au M hS.acI rfl (c:=ry) rfl,ry];simp (config:=apy) only [Zh M,↓Zi,Nat.reduceBEq,Nat.reduceAdd,env,ae,rz,Zx,AV.cell,Nat.reduceMul,Nat.reduceLeDiff,l0]
 |some fs=>
  rw [hf] at l0;simp only [ftO,Y6,Y8,amH] at l0;have hr:mE H.length (fs.map aw.row):=by rw [aaF];exact fun _ _=>⟨ZH _ _,ZH _ _,trivial⟩
  have hh:=aaa (Zz H [.tok (fs.length*2) aR]) (acd (esz:=2) (tag:=.own H.length) hr);simp only [aaW,aaP] at hh;rw [au M hS.acI rfl (c:=ry) rfl,ry];simp (config:=apy) only [Zh M,↓Zi,Nat.reduceBEq,Nat.reduceAdd,env,ae,rz,Zx,AV.cell,Nat.reduceMul,Nat.reduceLeDiff,l0,hh]
theorem TE(hS:gB E)(hX:nk M){c:UInt8}{s:Zc}(hc:Lib.countByte s c=0){H H0:List Y4}(k:List ZA)(He:List Y4) :
  M.go gD H0 (.c eh :: .lp ⟨(some [0,1,2,3,9,10]),[],false⟩ eh He :: .ZU 0 :: .c (.lv [0,9,10])::k) (kv [(0,.str s),(1,.str [c]),(2,.int .i64 0),(3,.int .i64 1),(9,.Za H.length 0 2 1 true),(10,.int .i64 0)]) (H++[tI 2 []]) =
   M.go gD H0 k (kv [(0,.str s),(9,.Za H.length 0 2 1 true),(10,.int .i64 0)]) (H++[tI 2 []]):=by
 have hx:=fun H=>Jb M hS hX s c H
 rw [(P0 c hc).2] at hx;have d0:decide ((0:Int)<1)=true:=rfl;have d1:decide ((-1:Int)<0)=true:=rfl;rw [ah M eh.eq_1];simp (config:=apy) only [Zh M,↓Zi,Nat.reduceBEq,Nat.reduceAdd,env,ae,jo,hx,d0,d1]
theorem O4(hS:gB E)(hX:nk M){c:UInt8}{s w:Zc}{ws:List Zc}(hs:s.length≤100000)(h0:s≠[])(hw:gh c s=w::ws):∃ rest:List Zc,∀ H,M.run kF [.str s,.str [c],.int .i64 2] H=some (.ret (.slice .any 1 ((w::rest).map ak)),H):=by
 have hpos:0<s.length:=ao7.2 h0;have q0:((2:Int) == 0)=false:=rfl;have q1:(([c]:Zc) == [])=false:=rfl;have q2:decide ((2:Int)<0)=false:=rfl;have hw2:IntKind.i64.wrap ((s.length:Int)+1)=((s.length+1:Nat):Int):=by rw [eY (by omega) (by omega)];rfl
 have hmn:DA (.int .i64 2) (.int .i64 ((s.length+1:Nat):Int))=some (.int .i64 2):=by
  simp [DA];omega
 have hw3:IntKind.i64.wrap (2-1)=1:=by decide
 have done:∀ (rest:List Zc),(∀ H,M.run kL [.str s,.str [c],.int .i64 0,.int .i64 2] H=some (.ret (.slice .any 1 ((w::rest).map ak)),H))→∀ H,M.run kF [.str s,.str [c],.int .i64 2] H=some (.ret (.slice .any 1 ((w::rest).map ak)),H):=fun rest h H=>by
  have hh:=aaa (Zt H) (acd (esz:=1) (tag:=.any) (Hi H.length (w::rest)));simp only [aaW,aav] at hh;rw [au M hS.acZ rfl (c:=tY) rfl,tY];simp (config:=apy) only [Zh M,↓Zi,Nat.reduceBEq,Nat.reduceAdd,env,ae,E8,h,hh]
 have hg:∀ (H:List Y4) (y:Y4),(H++[y])[H.length]?=some y:=fun H y=>by rw [cY];rfl
 cases hc:Lib.countByte s c with
 |zero=>
  have e:=Je c s (P0 c hc).1;rw [e] at hw;injection hw with hw _;subst hw;refine ⟨[],done [] fun H => ?_⟩
  have hms:rms H aI 16 [.str []] (.int .i64 2) (.int .i64 2)=some (.Za H.length 0 2 1 true,H++[tI 2 []]):=by
   have:=O1 (n:=2) (by omega) H aI [.str []];rw [Xj] at this;exact this
  have l0:=TE M hS hX hc (H:=H) (H0:=H);simp only [Y6,Y8] at l0;have hia:qV 1 (.Za H.length 0 2 1 true) (.int .i64 0)=some (.ptr H.length 0):=Hh (id:=H.length) (n:=2) (i:=0) (by omega) .i64;have hst:stO 1 (H++[tI 2 []]) H.length 0 [.str s] (some (tI 2 []))=some (H++[tI 2 [s]]):=Ey H (N:=2) (o:=[]) (by decide) s;have hsl:AN 1 (.Za H.length 0 2 1 true) none (some (.int .i64 1)) none=some (.Za H.length 0 1 1 true):=O2 (id:=H.length) (n:=2) (m:=1) (by omega)
  have hfz:iZ bM .deep H (H++[tI 2 [s]]) (.Za H.length 0 1 1 true)=some (.slice .any 1 ([s].map ak),H):=by
   have h1:=L6 (H:=H++[tI 2 [s]]) (n:=H.length) (l:=[s]) (N:=H.length) (cs:=[.str s,.str []]) (hg H _) rfl (by simp) (amp _);have h2:=wt (Zz H [tI 2 [s]]) ⟨3,h1⟩;rw [aaP] at h2;exact h2
  rw [au M hS.aaE rfl (c:=gC) rfl,gC];simp (config:=apy) only [Zh M,↓Zi,Nat.reduceBEq,Nat.reduceAdd,env,ae,jo,Zx,AV.cell,Nat.reduceMul,Nat.reduceLeDiff,q0,q1,q2,hw2,hw3,hmn,hms,l0,hia,hg,hst,hsl,hfz,(show IntKind.i64.wrap (0+1)=1 from by decide),(show ((0:Nat):Int)=0 from rfl),(show ((1:Nat):Int)=1 from rfl)]
 |succ m=>
  obtain ⟨a,r,h1,h2,h3,h4⟩:=Jf c s m hc;have hm:(Lib.indexByte s c).toNat=a.length:=by rw [h3];rfl
  have htk:s.take a.length=a:=by rw [h1];exact aoe rfl
  have hws:a=w:=by rw [h1,Jd c a r h2] at hw;injection hw
  subst hws;refine ⟨[s.drop (a.length+1)],done _ fun H => ?_⟩
  have hms:rms H aI 16 [.str []] (.int .i64 2) (.int .i64 2)=some (.Za H.length 0 2 1 true,H++[tI 2 []]):=by
   have:=O1 (n:=2) (by omega) H aI [.str []];rw [Xj] at this;exact this
  have l0:=gsp M hS hX (c:=c) (N:=1) (by omega) (H:=H) (H0:=H) 1 0 s [] (by omega) (by omega) rfl (by omega);simp only [lnR,lnI,hm,htk,amH,Y6,Y8,amj,(show ((1:Nat):Int)=1 from rfl)] at l0;have hia:qV 1 (.Za H.length 0 2 1 true) (.int .i64 1)=some (.ptr H.length 1):=Hh (id:=H.length) (n:=2) (i:=1) (by omega) .i64;have hst:stO 1 (H++[tI 2 [a]]) H.length 1 [.str (s.drop (a.length+1))] (some (tI 2 [a]))=some (H++[tI 2 [a,s.drop (a.length+1)]]):=Ey H (N:=2) (o:=[a]) (by simp) (s.drop (a.length+1))
  have hsl:AN 1 (.Za H.length 0 2 1 true) none (some (.int .i64 2)) none=some (.Za H.length 0 2 1 true):=O2 (id:=H.length) (n:=2) (m:=2) (by omega);have hw4:IntKind.i64.wrap (1+1)=2:=by decide
  have hfz:iZ bM .deep H (H++[tI 2 [a,s.drop (a.length+1)]]) (.Za H.length 0 2 1 true)=some (.slice .any 1 ([a,s.drop (a.length+1)].map ak),H):=by
   have h1:=L6 (H:=H++[tI 2 [a,s.drop (a.length+1)]]) (n:=H.length) (l:=[a,s.drop (a.length+1)]) (N:=H.length) (cs:=[.str a,.str (s.drop (a.length+1))]) (hg H _) rfl (by simp) (amp _);have h2:=wt (Zz H [tI 2 [a,s.drop (a.length+1)]]) ⟨3,h1⟩;rw [aaP] at h2;exact h2
  rw [au M hS.aaE rfl (c:=gC) rfl,gC];simp (config:=apy) only [Zh M,↓Zi,Nat.reduceBEq,Nat.reduceAdd,env,ae,jo,Zx,AV.cell,Nat.reduceMul,Nat.reduceLeDiff,q0,q1,q2,hw2,hw3,hw4,hmn,hms,l0,hia,hg,hst,hsl,hfz,(show ((2:Nat):Int)=2 from rfl),(show ((1:Nat):Int)=1 from rfl)]
end
section
attribute [local congr] aF aS cC bn aG aX aL aH az aA aM aN
variable{E:br}(M:cH bM E)
structure Gro (α:Type) where
 w:Nat
 T:TypeId
 m:Nat
 eT:TypeId
 pre:α→List AV
 rows:α→List (List AV)
 hw:∀ x,(pre x).length+1=w
 hc:∀ x,(pre x).all AV.cell=true
def O5(N n sz:Nat)(v:AV)(rows:List (List AV)):Prop:=(rows=[]∧v = .slice .nil sz [])∨∃ t,N≤t∧t<n∧v = .slice (.own t) sz rows
theorem O5.mono{N n n' sz:Nat}{v:AV}{rows:List (List AV)}(h:O5 N n sz v rows)(hn:n≤n'):O5 N n' sz v rows:=by
 rcases h with h | ⟨t,h1,h2,h3⟩
 ·exact .inl h
 ·exact .inr ⟨t,h1,by omega,h3⟩
theorem vG.own{N:Nat}{e:TypeId}{sz:Nat}{G:List Y4}{v:AV}{rows:List (List AV)}(h:vG N e sz G v rows):O5 N G.length sz v rows:=by
 rcases h with h | ⟨t,h1,h2,h3⟩
 ·exact .inl h
 ·exact .inr ⟨t,h1,dS h3,h2⟩
def GP{α:Type}(g:Gro α)(N n:Nat):List AV→List α→Prop
 |cells,[]=>cells=[]
 |cells,x::xs => ∃ v rest,cells=g.pre x++v::rest∧O5 N n g.m v (g.rows x)∧GP g N n rest xs
theorem GP.mono{α:Type}{g:Gro α}{N n n':Nat}(hn:n≤n'):∀ {cells:List AV}{xs:List α},GP g N n cells xs→GP g N n' cells xs
 |_,[],h=>h
 |_,_::_,⟨v,rest,h1,h2,h3⟩=>⟨v,rest,h1,h2.mono hn,h3.mono hn⟩
theorem GP.len{α:Type}{g:Gro α}{N n:Nat}:∀ {cells:List AV}{xs:List α},GP g N n cells xs→cells.length=xs.length*g.w
 |_,[],h=>by rw [show _=[] from h];simp
 |_,x::xs,⟨v,rest,h1,_,h3⟩=>by
  have:=h3.len;have:=g.hw x;rw [h1,al8,amk,amk,am7];omega
theorem GP.app{α:Type}{g:Gro α}{N n:Nat}{x:α}{v:AV}(hv:O5 N n g.m v (g.rows x)):∀ {cells:List AV}{xs:List α},GP g N n cells xs→GP g N n (cells++(g.pre x++[v])) (xs++[x])
 |_,[],h=>by
  rw [show _=[] from h];exact ⟨v,[],by simp,hv,rfl⟩
 |_,y::xs,⟨u,rest,h1,h2,h3⟩=>⟨u,rest++(g.pre x++[v]),by rw [h1];simp,h2,h3.app hv⟩
def GrV{α:Type}(g:Gro α)(N:Nat)(G:List Y4)(cv:AV)(xs:List α):Prop:=
 (xs=[]∧cv = .slice .nil g.w [])∨∃ id pc i x v,xs=i++[x]∧N≤id∧cv = .Za id 0 xs.length g.w true∧G[id]?=some (.cells (pc++(g.pre x++[v])) g.T)∧GP g N G.length pc i∧vG N g.eT g.m G v (g.rows x)
theorem GrV.len{α:Type}{g:Gro α}{N:Nat}{G:List Y4}{cv:AV}{xs:List α}(h:GrV g N G cv xs)(H:List Y4):CX H .sl cv=some (.int .i64 (xs.length:Int))∧cv.cell=true∧dM cv=some [cv]:=by
 rcases h with ⟨rfl,rfl⟩ | ⟨id,pc,i,x,v,h1,h2,rfl,_⟩
 ·exact ⟨rfl,rfl,rfl⟩
 ·exact ⟨rfl,rfl,rfl⟩
theorem GrV.stay{α:Type}{g:Gro α}{N:Nat}{G G':List Y4}{cv:AV}{xs:List α}(h:GrV g N G cv xs)(hl:G.length≤G'.length)
  (h1:∀ i cs,N≤i→G[i]?=some (.cells cs g.T)→G'[i]?=G[i]?) (h2:∀ i n,N≤i→G[i]?=some (.tok n g.eT)→G'[i]?=G[i]?):GrV g N G' cv xs:=by
 rcases h with h | ⟨id,pc,i,x,v,e1,e2,e3,e4,e5,e6⟩
 ·exact .inl h
 ·exact .inr ⟨id,pc,i,x,v,e1,e2,e3,by rw [h1 id _ e2 e4];exact e4,e5.mono hl,e6.stay fun t ht hg=>h2 t _ ht hg⟩
theorem GrV.push{α:Type}{g:Gro α}{N bytes:Nat}{G:List Y4}{cv:AV}{xs:List α}(h:GrV g N G cv xs)(hN:N≤G.length){x:α}(hx:g.rows x=[])(hl:(xs.length+1)*bytes≤140737488355328)(hl2:xs.length+1≤4611686018427387904) :
  ∃ cv' G',rap true G g.T g.w bytes false cv (.slice .full g.w [g.pre x++[.slice .nil g.m []]])=some (cv',G')∧GrV g N G' cv' (xs++[x])∧G.length≤G'.length∧(∀ i,i<N→G'[i]?=G[i]?)∧∀ i,i<G.length→(∀ cs,G[i]?≠some (.cells cs g.T))→G'[i]?=G[i]? := by
 have hr:sg g.w [g.pre x++[.slice .nil g.m []]]=true:=zG (by rw [al8];exact g.hw x) (by rw [List.all_append,g.hc x];rfl);rcases h with ⟨rfl,rfl⟩ | ⟨id,pc,i,y,v,rfl,h2,rfl,h4,h5,h6⟩
 ·refine ⟨.Za G.length 0 1 g.w true,G++[.cells (g.pre x++[.slice .nil g.m []]) g.T], ?_,.inr ⟨G.length,[],[],x,.slice .nil g.m [],rfl,hN,rfl,by rw [cY];rfl,rfl,.inl ⟨hx,rfl⟩⟩,by simp,fun i hi=>al7 (by omega),fun i hi _=>al7 hi⟩
  have e:(List.length ([]:List (List AV))+List.length [g.pre x++[AV.slice .nil g.m []]])=1:=rfl;simp only [rap,DL,xJ,or_true,if_true,hr,e];rw [if_pos ⟨trivial,by simpa using hl,by omega,by simp⟩];simp
 ·have hlen:(pc++(g.pre y++[v])).length=(i.length+1)*g.w:=by
   have:=h5.len;have:=g.hw y;rw [al8,al8,amP,am7];omega
  have hlt:=dS h4;have exs:(i++[y]).length=i.length+1:=by simp
  refine ⟨.Za G.length 0 (i.length+2) g.w true,G.set id .dead++[.cells ((pc++(g.pre y++[v]))++(g.pre x++[.slice .nil g.m []])) g.T], ?_,.inr ⟨G.length,pc++(g.pre y++[v]),i++[y],x,.slice .nil g.m [],rfl,hN,by simp, ?_, ?_,.inl ⟨hx,rfl⟩⟩,by simp,fun j hj => ?_,fun j hj hne => ?_⟩
  ·have e:(i.length+1+List.length [g.pre x++[AV.slice .nil g.m []]])=i.length+2:=rfl
   rw [exs] at hl hl2 ⊢;simp only [rap,DL,xJ,or_true,if_true,hr,h4];rw [if_pos ⟨trivial,trivial,by rw [hlen];exact amp _,by simpa using hl,by simpa using hl2⟩];rw [← hlen,anQ];simp
  ·have:G.length=(G.set id .dead).length:=by simp
   rw [this,amm (amp _)];simp
  ·exact (h5.app h6.own).mono (by simp)
  ·rw [al7 (by simp;omega),ami (by omega)]
  ·rw [al7 (by simpa using hj),ami (fun e=>hne _ (by rw [← e];exact h4))]
theorem GrV.last{α:Type}{g:Gro α}{N bytes:Nat}{G:List Y4}{cv:AV}{i:List α}{x x':α}(h:GrV g N G cv (i++[x]))(hN:N≤G.length){r:List AV}(hp:g.pre x'=g.pre x)(hr':g.rows x'=g.rows x++[r])(h1:r.length=g.m)(h2:r.all AV.cell=true)(h3:r.map AV.strip=r)
  (hl:((g.rows x).length+1)*bytes≤140737488355328) (hl2:(g.rows x).length+1≤4611686018427387904) (hte:∀ cs n,(Y4.cells cs g.T)≠.tok n g.eT) :
  ∃ id off cs v v' G1,(∀ k:IntKind,qV g.w cv (.int k (i.length:Int))=some (.ptr id off))∧G[id]?=some (.cells cs g.T)∧cs[off+(g.w-1)]?=some v∧rap false G g.eT g.m bytes false v (.slice .full g.m [r])=some (v',G1)∧G1[id]?=some (.cells cs g.T)∧dM v'=some [v'] ∧
   stO 1 G1 id (off+(g.w-1)) [v'] (some (.cells cs g.T))=some (G1.set id (.cells (cs.set (off+(g.w-1)) v') g.T))∧GrV g N (G1.set id (.cells (cs.set (off+(g.w-1)) v') g.T)) cv (i++[x'])∧N≤id∧id<G.length∧off+(g.w-1)<cs.length ∧
   G.length≤(G1.set id (.cells (cs.set (off+(g.w-1)) v') g.T)).length∧(∀ j,j<N→(G1.set id (.cells (cs.set (off+(g.w-1)) v') g.T))[j]?=G[j]?)∧∀ j,j<G.length→(∀ cs,G[j]?≠some (.cells cs g.T))→(∀ n,G[j]?≠some (.tok n g.eT))→(G1.set id (.cells (cs.set (off+(g.w-1)) v') g.T))[j]?=G[j]? := by
 rcases h with ⟨h,_⟩ | ⟨id,pc,i2,y,v,e1,h2',rfl,h4,h5,h6⟩
 ·simp at h
 ·obtain ⟨rfl,e2⟩:=List.append_inj' e1 rfl
  injection e2 with e2 _;subst e2;obtain ⟨v',G1,a1,a2,a3,a4,a5⟩:=B3 h6 hN (bytes:=bytes) h1 h2 h3 hl hl2;have hw:=g.hw x;have hpc:=h5.len;have hlt:=dS h4
  have hlen:(pc++(g.pre x++[v])).length=i.length*g.w+g.w:=by
   rw [al8,al8,amP];omega
  have hoff:i.length*g.w+(g.w-1)=pc.length+(g.pre x).length:=by omega
  have hg1:G1[id]?=some (.cells (pc++(g.pre x++[v])) g.T):=by
   rw [a5 id hlt (fun n=>by rw [h4];simp)];exact h4
  have hset:(pc++(g.pre x++[v])).set (i.length*g.w+(g.w-1)) v'=pc++(g.pre x++[v']):=by
   rw [hoff,anE _ _ (by omega),anE _ _ (by omega)];simp
  refine ⟨id,i.length*g.w,pc++(g.pre x++[v]),v,v',G1,fun k => ?_,h4, ?_,a1,hg1,a2.cell.2,jW a2.cell.1 (by rw [hlen];omega),.inr ⟨id,pc,i,x',v',rfl,h2',by simp, ?_, ?_, ?_⟩,h2',hlt,by rw [hlen];omega, ?_,fun j hj => ?_,fun j hj n1 n2 => ?_⟩
  ·simp only [qV]
   rw [if_pos ⟨trivial,by omega,by simp;omega⟩];simp
  ·rw [hoff,amm (by omega),amm (by omega)]
   simp
  ·rw [hset,hp];exact amy (dS hg1)
  ·exact h5.mono (by simpa using a3)
  ·rw [hr']
   exact a2.stay fun t _ ht=>ami (fun e=>by rw [← e,hg1] at ht;cases ht)
  ·simpa using a3
  ·rw [ami (by omega),a4 j hj]
  ·rw [ami (fun e=>n1 _ (by rw [← e];exact h4)),a5 j hj n2]
end
section
attribute [local congr] aF aS cC bn aG aX aL aH az aA aM aN
variable{E:br}(M:cH bM E)
def P3(o:Option Nat)(T L:List Nat):Option (List Nat×List Nat):=
 match o with
 |some id=>some (T,id::L)
 |none=>some (T,L)
def Ws(o:Option Nat)(T L:List Nat):Option (List Nat×List Nat):=
 match o with
 |some id=>some (id::T,L)
 |none=>none
theorem Cx:(∀ (a:Env) (g:Option Nat) (x:RX) (T L:List Nat),qP true .wide a (.ld g x) T L=P3 (u1 (rx a x)) T L)∧(∀ (a:Env) (g:LK) (x:RX) (T L:List Nat),qP true .wide a (.len g x) T L=P3 (u1 (rx a x)) T L) ∧
  (∀ (s:Bool) (a:Env) (n:Nat) (x v:RX) (T L:List Nat),qP s .Zn a (.st n x v) T L=Ws (u1 (rx a x)) T L)∧(∀ (s:Bool) (a:Env) (g:Option Nat) (x:RX) (T L:List Nat),qP s .quiet a (.ld g x) T L=some (T,L)) ∧
  (∀ i o,u1 (.ptr i o)=some i)∧(∀ i o n e r,u1 (.Za i o n e r)=some i)∧(∀ t n r,u1 (.slice t n r)=none)∧(∀ s,u1 (.str s)=none)∧(∀ e r i o,u1 (.Zu e r i o)=none)∧(∀ (id:Nat) (T L:List Nat),P3 (some id) T L=some (T,id::L))∧(∀ T L:List Nat,P3 none T L=some (T,L))∧(∀ (id:Nat) (T L:List Nat),Ws (some id) T L=some (id::T,L)):=
 ⟨fun _ _ _ _ _=>rfl,fun _ _ _ _ _=>rfl,fun _ _ _ _ _ _ _=>rfl,fun _ _ _ _ _ _=>rfl,fun _ _=>rfl,fun _ _ _ _ _=>rfl,fun _ _ _=>rfl,fun _=>rfl,fun _ _ _ _=>rfl,fun _ _ _=>rfl,fun _ _=>rfl,fun _ _ _=>rfl⟩
theorem TF{T L:List Nat}(h:apart T L)(r:Option Out):u4 bM T L r=r:=by
 unfold u4;rw [D4 h]
theorem Hk(L:List Nat):apart [] L:=fun x _ hx=>by cases hx
structure Rd where
 Z3:Zc
 tr:List bf
 cl:List aV
 en:List aT
 sp:List bL
 li:List dn
def clG:Gro aV:=⟨2,aJ,4,bX,fun c=>[.str c.name],fun c=>c.Zd.l.map bU.row,fun _=>rfl,fun _=>rfl⟩
def enG:Gro aT:=⟨4,aD,2,bk,fun x=>[.str x.lem,.str x.cls,.slice x.Zf.tag 2 (x.Zf.l.map aw.row)],fun x=>x.Zg.l.map bE.row,fun _=>rfl,fun _=>rfl⟩
abbrev rdC(Z3:Zc)(tv cv ev sv kv:AV)(last:Zc)(Zb:Int):Y4:=.cells [.str Z3,tv,cv,ev,sv,kv,.str last,.int .i64 Zb] da
def mg(N:Nat)(G:List Y4)(d:Rd)(tv cv ev sv kv:AV):Prop:=
 vG N bW 2 G tv (d.tr.map bf.row)∧GrV clG N G cv d.cl∧GrV enG N G ev d.en∧vG N di 4 G sv (d.sp.map bL.row)∧vG N eo 3 G kv (d.li.map dn.row)
def RdV(N r:Nat)(G:List Y4)(d:Rd)(last:Zc)(Zb:Int):Prop:=
 ∃ tv cv ev sv kv,G[r]?=some (rdC d.Z3 tv cv ev sv kv last Zb)∧mg N G d tv cv ev sv kv
def Chg(e T:TypeId)(G G':List Y4):Prop:=G.length≤G'.length∧∀ (i:Nat) (x:Y4),G[i]?=some x→(∀ n,x≠.tok n e)→(∀ cs,x≠.cells cs T)→G'[i]?=some x
theorem vG.chg{N:Nat}{e T e':TypeId}{sz:Nat}{G G':List Y4}{v:AV}{rows:List (List AV)}(h:vG N e' sz G v rows)(c:Chg e T G G')(ne:e'≠e):vG N e' sz G' v rows:=
 h.stay fun t _ ht=>by rw [ht];exact c.2 t _ ht (fun n e1=>ne (by injection e1)) (fun cs e1=>by cases e1)
theorem GrV.chg{α:Type}{g:Gro α}{N:Nat}{e T:TypeId}{G G':List Y4}{cv:AV}{xs:List α}(h:GrV g N G cv xs)(c:Chg e T G G')(n1:g.T≠T)(n2:g.eT≠e):GrV g N G' cv xs:=
 h.stay c.1 (fun i cs _ hi=>by rw [hi];exact c.2 i _ hi (fun n e1=>by cases e1) (fun cs e1=>n1 (by injection e1))) (fun i n _ hi=>by rw [hi];exact c.2 i _ hi (fun n e1=>n2 (by injection e1)) (fun cs e1=>by cases e1))
theorem Aw{e:TypeId}{G G':List Y4}(h1:G.length≤G'.length)(h2:∀ i,i<G.length→(∀ n,G[i]?≠some (.tok n e))→G'[i]?=G[i]?):Chg e e G G':=
 ⟨h1,fun i x hx n1 _=>by rw [h2 i (dS hx) fun n e1=>n1 n (by rw [hx] at e1;injection e1)];exact hx⟩
theorem Ez{T:TypeId}{G G':List Y4}(h1:G.length≤G'.length)(h2:∀ i,i<G.length→(∀ cs,G[i]?≠some (.cells cs T))→G'[i]?=G[i]?):Chg T T G G':=
 ⟨h1,fun i x hx _ n2=>by rw [h2 i (dS hx) fun n e1=>n2 n (by rw [hx] at e1;injection e1)];exact hx⟩
theorem Vt{G:List Y4}{r:Nat}{cs cs':List AV}(h:G[r]?=some (.cells cs da)):Chg da da G (G.set r (.cells cs' da)):=
 ⟨by simp,fun i x hx _ n2=>by rw [ami (fun e=>n2 cs (by rw [← e,h] at hx;injection hx with hx;exact hx.symm))];exact hx⟩
theorem mg.set{N r:Nat}{G:List Y4}{d:Rd}{tv cv ev sv kv:AV}(h:mg N G d tv cv ev sv kv){cs cs':List AV}(hr:G[r]?=some (.cells cs da)):mg N (G.set r (.cells cs' da)) d tv cv ev sv kv:=by
 obtain ⟨h1,h2,h3,h4,h5⟩:=h;have c:=Vt (cs':=cs') hr;exact ⟨h1.chg c (by decide),h2.chg c (by decide) (by decide),h3.chg c (by decide) (by decide),h4.chg c (by decide),h5.chg c (by decide)⟩
theorem FM{N r:Nat}{G:List Y4}{d:Rd}{tv cv ev sv kv:AV}(h:mg N G d tv cv ev sv kv){cs:List AV}(hr:G[r]?=some (.cells cs da))(last:Zc)(Zb:Int) :
  RdV N r (G.set r (rdC d.Z3 tv cv ev sv kv last Zb)) d last Zb:=⟨tv,cv,ev,sv,kv,amy (dS hr),h.set hr⟩
def LoR(N r:Nat)(G G':List Y4):Prop:=G.length≤G'.length∧(∀ i,i<N→i≠r→G'[i]?=G[i]?)∧∀ (i:Nat) (cs:List AV) (T:TypeId),(T=el∨T=ep)→G[i]?=some (.cells cs T)→G'[i]?=some (.cells cs T)
theorem LoR.refl(N r:Nat)(G:List Y4):LoR N r G G:=⟨amp _,fun _ _ _=>rfl,fun _ _ _ _ h=>h⟩
theorem LoR.trans{N r:Nat}{A B C:List Y4}(h:LoR N r A B)(k:LoR N r B C):LoR N r A C:=⟨ams h.1 k.1,fun i hi hn=>(k.2.1 i hi hn).trans (h.2.1 i hi hn),fun i cs T hT hi=>k.2.2 i cs T hT (h.2.2 i cs T hT hi)⟩
theorem Chg.refl(e T:TypeId)(G:List Y4):Chg e T G G:=⟨amp _,fun _ _ h _ _=>h⟩
def okT(T:TypeId):Bool := !Nat.beq T el && !Nat.beq T ep
theorem L7{T T':TypeId}(h:okT T=true)(h':T'=el∨T'=ep):T'≠T:=by
 rintro rfl;rcases h' with rfl | rfl<;>exact absurd h (by decide)
theorem xE{N r:Nat}{G G1:List Y4}{e T:TypeId}(c:Chg e T G G1)(hT:okT T=true)(h2:∀ i,i<N→G1[i]?=G[i]?){cs:List AV}(hr:G1[r]?=some (.cells cs da))(x:Y4):LoR N r G (G1.set r x):=
 ⟨by simpa using c.1,fun i hi hn=>by rw [ami (Ne.symm hn),h2 i hi],fun i cs' T' hT' hi=>by
  have h3:=c.2 i _ hi (fun n e=>by cases e) (fun cs2 e=>L7 hT hT' (by injection e))
  rw [ami (fun e=>by
   rw [← e,hr] at h3;injection h3 with h3;injection h3 with _ h4;exact L7 (T:=da) (by decide) hT' h4.symm)]
  exact h3⟩
theorem qRd(a b c d e f g h:AV):bO none [a,b,c,d,e,f,g,h] 0=some a∧bO none [a,b,c,d,e,f,g,h] 1=some b∧bO none [a,b,c,d,e,f,g,h] 2=some c∧bO none [a,b,c,d,e,f,g,h] 3=some d∧bO none [a,b,c,d,e,f,g,h] 4=some e∧bO none [a,b,c,d,e,f,g,h] 5=some f∧bO none [a,b,c,d,e,f,g,h] 6=some g∧bO none [a,b,c,d,e,f,g,h] 7=some h:=⟨rfl,rfl,rfl,rfl,rfl,rfl,rfl,rfl⟩
theorem Jh{tg:Tag}{ws:List Zc}{i:Nat}{w:Zc}(h:ws[i]?=some w):qV 1 (.slice tg 1 (ws.map ak)) (.int .i64 (i:Int))=some (.Zu 1 (ws.map ak) i 0):=aE (lt_getL h)
 where lt_getL {α:Type}{l:List α}{i:Nat}{x:α} (h:l[i]?=some x):i<l.length:=(al3.1 h).1
theorem oz{tg:Tag}{ws:List Zc}{w:Zc}(h:ws[0]?=some w):qV 1 (.slice tg 1 (ws.map ak)) (.int .i64 0)=some (.Zu 1 (ws.map ak) 0 0):=Jh h
theorem xj{tg:Tag}{ws:List Zc}{w:Zc}(h:ws[1]?=some w):qV 1 (.slice tg 1 (ws.map ak)) (.int .i64 1)=some (.Zu 1 (ws.map ak) 1 0):=Jh h
theorem GV{tg:Tag}{ws:List Zc}{w:Zc}(h:ws[2]?=some w):qV 1 (.slice tg 1 (ws.map ak)) (.int .i64 2)=some (.Zu 1 (ws.map ak) 2 0):=Jh h
theorem Xl{tg:Tag}{ws:List Zc}{w:Zc}(h:ws[3]?=some w):qV 1 (.slice tg 1 (ws.map ak)) (.int .i64 3)=some (.Zu 1 (ws.map ak) 3 0):=Jh h
theorem vZ{ws:List Zc}{i:Nat}(h0:0<ws.length)(h:i≤ws.length):AN 1 (.slice .any 1 (ws.map ak)) (some (.int .i64 (i:Int))) none none=some (.slice .any 1 ((ws.drop i).map ak)):=by
 have:=M7 (row:=ak) (tag:=.any) (sz:=1) (k:=.i64) (l:=ws) (i:=i) h h0;simpa using this
section
variable{N r:Nat}{G:List Y4}{d:Rd}{last:Zc}{Zb:Int}
theorem Xm(hS:gB E)(h:RdV N r G d last Zb){ws:List Zc}{a:Zc}(h0:ws[0]?=some a) :
  ∃ G',M.run lN [.ptr r 0,.slice .any 1 (ws.map ak)] G=some (.ret (.tuple []),G')∧RdV N r G' { d with Z3:=dc a } last Zb∧LoR N r G G':=by
 obtain ⟨tv,cv,ev,sv,kv,hg,hp⟩:=h;refine ⟨G.set r (rdC (dc a) tv cv ev sv kv last Zb), ?_,FM (d := { d with Z3:=dc a }) hp hg last Zb,xE (Chg.refl el da G) (by decide) (fun _ _=>rfl) hg _⟩;have ht:=fun H=>Ca M hS a H
 have hst:stO 1 G r 0 [.str (dc a)] (some (rdC d.Z3 tv cv ev sv kv last Zb))=some (G.set r (rdC (dc a) tv cv ev sv kv last Zb)):=jW rfl (by simp);rw [au M hS.adu rfl (c:=vl) rfl,vl];simp (config:=apy) only [Zh M,↓Zi,Nat.reduceBEq,Nat.reduceAdd,env,ae,GB,Zx,AV.cell,Nat.reduceMul,Nat.reduceLeDiff,rnc,hg,oz h0,h0,ht,hst,Zl,dh]
theorem Xn(hS:gB E)(hN:N≤G.length)(h:RdV N r G d last Zb){ws:List Zc}{a:Zc}(h0:ws[0]?=some a)(hl:d.tr.length≤1000000) :
  ∃ G',M.run lO [.ptr r 0,.slice .any 1 (ws.map ak)] G=some (.ret (.tuple []),G')∧RdV N r G' { d with tr:=d.tr++[⟨a,⟨.any,ws.drop 1⟩⟩] } last Zb∧LoR N r G G':=by
 obtain ⟨tv,cv,ev,sv,kv,hg,p1,p2,p3,p4,p5⟩:=h;have hlen:1≤ws.length:=(al3.1 h0).1;obtain ⟨v',G1,a1,a2,a3,a4,a5⟩:=B3 p1 hN (r:=bf.row ⟨a,⟨.any,ws.drop 1⟩⟩) (bytes:=40) rfl rfl rfl (by simp;omega) (by simp;omega);have c:=Aw a3 a5;have hg1:=c.2 r _ hg (fun n e=>by cases e) (fun cs e=>by cases e);have q:mg N G1 { d with tr:=d.tr++[⟨a,⟨.any,ws.drop 1⟩⟩] } v' cv ev sv kv:=⟨by simpa using a2,p2.chg c (by decide) (by decide),p3.chg c (by decide) (by decide),p4.chg c (by decide),p5.chg c (by decide)⟩
 refine ⟨G1.set r (rdC d.Z3 v' cv ev sv kv last Zb), ?_,FM q hg1 last Zb,xE c (by decide) a4 hg1 _⟩;have hst:stO 1 G1 r 1 [v'] (some (rdC d.Z3 tv cv ev sv kv last Zb))=some (G1.set r (rdC d.Z3 v' cv ev sv kv last Zb)):=jW a2.cell.1 (by simp);have hfr:=vZ (by omega) hlen;have a1:rap false G bW 2 40 false tv (.slice .full 2 [[.str a,.slice .any 1 ((ws.drop 1).map ak)]])=some (v',G1):=a1;have e1:((1:Nat):Int)=1:=rfl
 rw [e1] at hfr;have hac:=a2.cell.2;rw [au M hS.adm rfl (c:=vm) rfl,vm];simp (config:=apy) only [Zh M,↓Zi,Nat.reduceBEq,Nat.reduceAdd,env,ae,GC,Zx,AV.cell,Nat.reduceMul,Nat.reduceLeDiff,rnc,hg,hg1,qRd,oz h0,h0,hfr,a1,hac,hst,Zl,dh]
theorem Xo(hS:gB E)(hN:N≤G.length)(h:RdV N r G d last Zb){ws:List Zc}{a b c' e':Zc}(h0:ws[0]?=some a)(h1:ws[1]?=some b)(h2:ws[2]?=some c')(h3:ws[3]?=some e')(hl:d.sp.length≤1000000) :
  ∃ G',M.run lQ [.ptr r 0,.slice .any 1 (ws.map ak)] G=some (.ret (.tuple []),G')∧RdV N r G' { d with sp:=d.sp++[⟨dc a,dc b,dc c',dc e'⟩] } last Zb∧LoR N r G G':=by
 obtain ⟨tv,cv,ev,sv,kv,hg,p1,p2,p3,p4,p5⟩:=h;obtain ⟨v',G1,a1,a2,a3,a4,a5⟩:=B3 p4 hN (r:=bL.row ⟨dc a,dc b,dc c',dc e'⟩) (bytes:=64) rfl rfl rfl (by simp;omega) (by simp;omega);have c:=Aw a3 a5;have hg1:=c.2 r _ hg (fun n e=>by cases e) (fun cs e=>by cases e);have q:mg N G1 { d with sp:=d.sp++[⟨dc a,dc b,dc c',dc e'⟩] } tv cv ev v' kv:=⟨p1.chg c (by decide),p2.chg c (by decide) (by decide),p3.chg c (by decide) (by decide),by simpa using a2,p5.chg c (by decide)⟩
 refine ⟨G1.set r (rdC d.Z3 tv cv ev v' kv last Zb), ?_,FM q hg1 last Zb,xE c (by decide) a4 hg1 _⟩;have hst:stO 1 G1 r 4 [v'] (some (rdC d.Z3 tv cv ev sv kv last Zb))=some (G1.set r (rdC d.Z3 tv cv ev v' kv last Zb)):=jW a2.cell.1 (by simp);have a1:rap false G di 4 64 false sv (.slice .full 4 [[.str (dc a),.str (dc b),.str (dc c'),.str (dc e')]])=some (v',G1):=a1;have ht:=fun s H=>Ca M hS s H
 have hac:=a2.cell.2;rw [au M hS.adw rfl (c:=vr) rfl,vr];simp (config:=apy) only [Zh M,↓Zi,Nat.reduceBEq,Nat.reduceAdd,env,ae,GF,Zx,AV.cell,Nat.reduceMul,Nat.reduceLeDiff,rnc,hg,hg1,qRd,oz h0,xj h1,GV h2,Xl h3,h0,h1,h2,h3,ht,a1,hac,hst,Zl,dh]
theorem Xp(hS:gB E)(hX:nk M)(hN:N≤G.length)(h:RdV N r G d last Zb){ws:List Zc}{a b:Zc}(h0:ws[0]?=some a)(h1:ws[1]?=some b)(hl:d.li.length≤1000000)(hw:ws.length≤1000000)(hsl:∀ s∈ws,s.length≤1000000) :
  match dq (ws.drop 2) with
  |some fs => ∃ G',M.run j0 [.ptr r 0,.slice .any 1 (ws.map ak)] G=some (.ret (.tuple []),G')∧RdV N r G' { d with li:=d.li++[⟨a,dc b,⟨.any,fs⟩⟩] } last Zb∧LoR N r G G'
  |none=>M.run j0 [.ptr r 0,.slice .any 1 (ws.map ak)] G=some (.panic jH,G):=by
 obtain ⟨tv,cv,ev,sv,kv,hg,p1,p2,p3,p4,p5⟩:=h;have hlen:2≤ws.length:=(al3.1 h1).1;have ht:=fun s H=>Ca M hS s H
 have hfr:=vZ (ws:=ws) (i:=2) (by omega) hlen;have e2:((2:Nat):Int)=2:=rfl;rw [e2] at hfr;have aa:=fun L r=>TF (Hk L) r
 have hf:=fun H=>FL M hS hX (tg:=.any) (ws:=ws.drop 2) (by rw [anJ];omega) (fun s hs=>hsl s (anu hs)) H
 cases hq:dq (ws.drop 2) with
 |none=>
  simp only [hq] at hf ⊢;rw [au M hS.ab6 rfl (c:=ot) rfl,ot];simp (config:=apy) only [Zh M,↓Zi,Nat.reduceBEq,Nat.reduceAdd,env,ae,AK,Zx,AV.cell,Nat.reduceMul,Nat.reduceLeDiff,am6,Cx,amZ,aa,rnc,hg,qRd,oz h0,xj h1,h0,h1,hfr,ht,hf,Zl,dh,qu,Zq,aap,aaH,jX]
 |some fs=>
  simp only [hq] at hf ⊢;obtain ⟨v',G1,a1,a2,a3,a4,a5⟩:=B3 p5 hN (r:=dn.row ⟨a,dc b,⟨.any,fs⟩⟩) (bytes:=56) rfl rfl rfl (by simp;omega) (by simp;omega);have c:=Aw a3 a5;have hg1:=c.2 r _ hg (fun n e=>by cases e) (fun cs e=>by cases e);have q:mg N G1 { d with li:=d.li++[⟨a,dc b,⟨.any,fs⟩⟩] } tv cv ev sv v':=⟨p1.chg c (by decide),p2.chg c (by decide) (by decide),p3.chg c (by decide) (by decide),p4.chg c (by decide),by simpa using a2⟩
  refine ⟨G1.set r (rdC d.Z3 tv cv ev sv v' last Zb), ?_,FM q hg1 last Zb,xE c (by decide) a4 hg1 _⟩;have hst:stO 1 G1 r 5 [v'] (some (rdC d.Z3 tv cv ev sv kv last Zb))=some (G1.set r (rdC d.Z3 tv cv ev sv v' last Zb)):=jW a2.cell.1 (by simp);have a1:rap false G eo 3 56 false kv (.slice .full 3 [[.str a,.str (dc b),.slice .any 2 (fs.map aw.row)]])=some (v',G1):=a1;have hac:=a2.cell.2;rw [au M hS.ab6 rfl (c:=ot) rfl,ot]
  simp (config:=apy) only [Zh M,↓Zi,Nat.reduceBEq,Nat.reduceAdd,env,ae,AK,Zx,AV.cell,Nat.reduceMul,Nat.reduceLeDiff,am6,Cx,amZ,aa,rnc,hg,hg1,qRd,oz h0,xj h1,h0,h1,hfr,ht,hf,a1,hac,hst,Zl,dh,aao]
theorem Xq(hS:gB E)(hN:N≤G.length)(h:RdV N r G d last Zb){ws:List Zc}{a:Zc}(h0:ws[0]?=some a)(hl:d.cl.length≤1000000) :
  ∃ G',M.run lP [.ptr r 0,.slice .any 1 (ws.map ak)] G=some (.ret (.tuple []),G')∧RdV N r G' { d with cl:=d.cl++[⟨a,⟨.any,[]⟩⟩] } last Zb∧LoR N r G G':=by
 obtain ⟨tv,cv,ev,sv,kv,hg,p1,p2,p3,p4,p5⟩:=h;obtain ⟨v',G1,a1,a2,a3,a4,a5⟩:=p2.push hN (x:=⟨a,⟨.any,[]⟩⟩) rfl (bytes:=40) (by omega) (by omega);have c:=Ez a3 a5;have hg1:=c.2 r _ hg (fun n e=>by cases e) (fun cs e=>by cases e);have q:mg N G1 { d with cl:=d.cl++[⟨a,⟨.any,[]⟩⟩] } tv v' ev sv kv:=⟨p1.chg c (by decide),a2,p3.chg c (by decide) (by decide),p4.chg c (by decide),p5.chg c (by decide)⟩
 refine ⟨G1.set r (rdC d.Z3 tv v' ev sv kv last Zb), ?_,FM q hg1 last Zb,xE c (by decide) a4 hg1 _⟩;have hst:stO 1 G1 r 2 [v'] (some (rdC d.Z3 tv cv ev sv kv last Zb))=some (G1.set r (rdC d.Z3 tv v' ev sv kv last Zb)):=jW (a2.len []).2.1 (by simp);have a1:rap true G aJ 2 40 false cv (.slice .full 2 [[.str a,.slice .nil 4 []]])=some (v',G1):=a1;have hac:=(a2.len []).2.2;rw [au M hS.adi rfl (c:=vn) rfl,vn]
 simp (config:=apy) only [Zh M,↓Zi,Nat.reduceBEq,Nat.reduceAdd,env,ae,GE,Zx,AV.cell,Nat.reduceMul,Nat.reduceLeDiff,rnc,hg,hg1,qRd,oz h0,h0,a1,hac,hst,Zl,dh]
theorem Xr(hS:gB E)(hX:nk M)(hN:N≤G.length)(h:RdV N r G d last Zb){ws:List Zc}{a b:Zc}(h0:ws[0]?=some a)(h1:ws[1]?=some b)(hl:d.en.length≤1000000)(hw:ws.length≤1000000)(hsl:∀ s∈ws,s.length≤1000000) :
  match dq (ws.drop 2) with
  |some fs => ∃ G',M.run jZ [.ptr r 0,.slice .any 1 (ws.map ak)] G=some (.ret (.tuple []),G')∧RdV N r G' { d with en:=d.en++[⟨a,b,⟨.any,fs⟩,⟨.any,[]⟩⟩] } last Zb∧LoR N r G G'
  |none=>M.run jZ [.ptr r 0,.slice .any 1 (ws.map ak)] G=some (.panic jH,G):=by
 obtain ⟨tv,cv,ev,sv,kv,hg,p1,p2,p3,p4,p5⟩:=h;have hlen:2≤ws.length:=(al3.1 h1).1;have hfr:=vZ (ws:=ws) (i:=2) (by omega) hlen;have e2:((2:Nat):Int)=2:=rfl;rw [e2] at hfr;have aa:=fun L r=>TF (Hk L) r
 have hf:=fun H=>FL M hS hX (tg:=.any) (ws:=ws.drop 2) (by rw [anJ];omega) (fun s hs=>hsl s (anu hs)) H
 cases hq:dq (ws.drop 2) with
 |none=>
  simp only [hq] at hf ⊢;rw [au M hS.ab8 rfl (c:=oo) rfl,oo];simp (config:=apy) only [Zh M,↓Zi,Nat.reduceBEq,Nat.reduceAdd,env,ae,AJ,Zx,AV.cell,Nat.reduceMul,Nat.reduceLeDiff,am6,Cx,amZ,aa,rnc,hg,qRd,oz h0,xj h1,h0,h1,hfr,hf,Zl,dh,qu,Zq,aap,aaH,jX]
 |some fs=>
  simp only [hq] at hf ⊢;obtain ⟨v',G1,a1,a2,a3,a4,a5⟩:=p3.push hN (x:=⟨a,b,⟨.any,fs⟩,⟨.any,[]⟩⟩) rfl (bytes:=80) (by omega) (by omega);have c:=Ez a3 a5;have hg1:=c.2 r _ hg (fun n e=>by cases e) (fun cs e=>by cases e);have q:mg N G1 { d with en:=d.en++[⟨a,b,⟨.any,fs⟩,⟨.any,[]⟩⟩] } tv cv v' sv kv:=⟨p1.chg c (by decide),p2.chg c (by decide) (by decide),a2,p4.chg c (by decide),p5.chg c (by decide)⟩
  refine ⟨G1.set r (rdC d.Z3 tv cv v' sv kv last Zb), ?_,FM q hg1 last Zb,xE c (by decide) a4 hg1 _⟩;have hst:stO 1 G1 r 3 [v'] (some (rdC d.Z3 tv cv ev sv kv last Zb))=some (G1.set r (rdC d.Z3 tv cv v' sv kv last Zb)):=jW (a2.len []).2.1 (by simp);have a1:rap true G aD 4 80 false ev (.slice .full 4 [[.str a,.str b,.slice .any 2 (fs.map aw.row),.slice .nil 2 []]])=some (v',G1):=a1;have hac:=(a2.len []).2.2
  rw [au M hS.ab8 rfl (c:=oo) rfl,oo];simp (config:=apy) only [Zh M,↓Zi,Nat.reduceBEq,Nat.reduceAdd,env,ae,AJ,Zx,AV.cell,Nat.reduceMul,Nat.reduceLeDiff,am6,Cx,amZ,aa,rnc,hg,hg1,qRd,oz h0,xj h1,h0,h1,hfr,hf,a1,hac,hst,Zl,dh,aao]
theorem GrV.top{α:Type}{g:Gro α}{N:Nat}{G:List Y4}{cv:AV}{i:List α}{x:α}(h:GrV g N G cv (i++[x])):∃ id off cs v,qV g.w cv (.int .i64 (i.length:Int))=some (.ptr id off)∧G[id]?=some (.cells cs g.T)∧cs[off+(g.w-1)]?=some v:=by
 rcases h with ⟨h,_⟩ | ⟨id,pc,i2,y,v,e1,h2',rfl,h4,h5,h6⟩
 ·simp at h
 ·obtain ⟨rfl,e2⟩:=List.append_inj' e1 rfl
  have hw:=g.hw y;have hpc:=h5.len;refine ⟨id,i.length*g.w,_,v, ?_,h4, ?_⟩
  ·simp only [qV]
   rw [if_pos ⟨trivial,by omega,by simp;omega⟩];simp
  ·rw [show i.length*g.w+(g.w-1)=pc.length+(g.pre y).length by omega,amm (by omega),amm (by omega)]
   simp
theorem O6(hS:gB E)(h:RdV N r G d last Zb)(hk1:(last == [99,108,97,115,115])=false)(hk2:(last == [115,108,111,116])=false){ws:List Zc} :
  M.run iR [.ptr r 0,.slice .any 1 (ws.map ak)] G=some (.panic jH,G):=by
 obtain ⟨tv,cv,ev,sv,kv,hg,_⟩:=h;have hdm:=fun b H=>qv M hS b H
 rw [au M hS.Z6 rfl (c:=cW) rfl,cW];simp (config:=apy) only [Zh M,↓Zi,Nat.reduceBEq,Nat.reduceAdd,env,ae,j4,Zx,AV.cell,Nat.reduceMul,Nat.reduceLeDiff,am6,rnc,hg,qRd,hk1,hk2,hdm,Zv,qu,Zq,jX]
theorem Xs(hS:gB E)(hX:nk M)(hP:qN E)(hN:N≤G.length)(h:RdV N r G d last Zb)(hlk:last=[99,108,97,115,115]∨last=[115,108,111,116]){ws:List Zc}{a b c1:Zc}(h0:ws[0]?=some a)(h1:ws[1]?=some b)(h2:ws[2]?=some c1){i:List aV}{c:aV}(hcl:d.cl=i++[c])(hl:i.length≤1000000)(hl2:c.Zd.l.length≤1000000)(hw:ws.length≤1000000)(hsl:∀ s∈ws,s.length≤1000000) :
  match wR a,dq (ws.drop 3) with
  |some n,some fs => ∃ G',M.run iR [.ptr r 0,.slice .any 1 (ws.map ak)] G=some (.ret (.tuple []),G')∧RdV N r G' { d with cl:=i++[⟨c.name,⟨.any,c.Zd.l++[⟨n,dc b,dc c1,⟨.any,fs⟩⟩]⟩⟩] } last Zb∧LoR N r G G'
  |_,_=>M.run iR [.ptr r 0,.slice .any 1 (ws.map ak)] G=some (.panic jH,G):=by
 obtain ⟨tv,cv,ev,sv,kv,hg,p1,p2,p3,p4,p5⟩:=h;have hlen:3≤ws.length:=(al3.1 h2).1;have ha:a.length≤1000000:=hsl a (aml h0);have ht:=fun s H=>Ca M hS s H
 have hn:=fun H=>Jg M hS hX hP ha H
 have hdm:=fun b H=>qv M hS b H
 rw [hcl] at p2;have hln:=fun H=>(p2.len H).1
 have aa:=fun L r=>TF (Hk L) r
 have hw1:IntKind.i64.wrap ((((i++[c]).length:Nat):Int)-1)=(i.length:Int):=by rw [al8,amP];exact yx (by omega)
 have hbb:((last == [99,108,97,115,115])=false∧(last == [115,108,111,116])=true)∨(last == [99,108,97,115,115])=true:=by
  cases hz:(last == [99,108,97,115,115]) with
  |true=>exact .inr rfl
  |false=>
   rcases hlk with e | e
   ·rw [e] at hz;simp at hz
   ·exact .inl ⟨rfl,by rw [e];simp⟩
 have hfr:=vZ (ws:=ws) (i:=3) (by omega) hlen;have e2:((3:Nat):Int)=3:=rfl;rw [e2] at hfr;have hf:=fun H=>FL M hS hX (tg:=.any) (ws:=ws.drop 3) (by rw [anJ];omega) (fun s hs=>hsl s (anu hs)) H
 cases hq:wR a with
 |none=>
  simp only [hq] at hn ⊢;obtain ⟨id,off,cs,v,a1,a2,a3⟩:=p2.top;have a1:qV 2 cv (.int .i64 (i.length:Int))=some (.ptr id off):=a1;have a3:bO none cs (off+1)=some v:=a3;have a2:G[id]?=some (.cells cs aJ):=a2;rcases hbb with ⟨hb1,hb2⟩ | hb1
  ·rw [au M hS.Z6 rfl (c:=cW) rfl,cW]
   simp (config:=apy) only [Zh M,↓Zi,Nat.reduceBEq,Nat.reduceAdd,env,ae,j4,Zx,AV.cell,Nat.reduceMul,Nat.reduceLeDiff,am6,Cx,amZ,aa,rnc,hg,qRd,oz h0,h0,xj h1,h1,GV h2,h2,hb1,hb2,hdm,hln,hw1,ht,hn,hfr,hf,Zv,Zl,dh,qu,aap,aao,aaH,jX,Zq,anX,anF,a1,a2,a3]
  ·cases hb2:(last == [115,108,111,116]) <;>
   ·rw [au M hS.Z6 rfl (c:=cW) rfl,cW]
    simp (config:=apy) only [Zh M,↓Zi,Nat.reduceBEq,Nat.reduceAdd,env,ae,j4,Zx,AV.cell,Nat.reduceMul,Nat.reduceLeDiff,am6,Cx,amZ,aa,rnc,hg,qRd,oz h0,h0,xj h1,h1,GV h2,h2,hb1,hb2,hdm,hln,hw1,ht,hn,hfr,hf,Zv,Zl,dh,qu,aap,aao,aaH,jX,Zq,anX,anF,a1,a2,a3]
 |some n=>
  simp only [hq] at hn ⊢;cases hq2:dq (ws.drop 3) with
  |none=>
   simp only [hq2] at hf ⊢;obtain ⟨id,off,cs,v,a1,a2,a3⟩:=p2.top;have a1:qV 2 cv (.int .i64 (i.length:Int))=some (.ptr id off):=a1;have a3:bO none cs (off+1)=some v:=a3;have a2:G[id]?=some (.cells cs aJ):=a2;rcases hbb with ⟨hb1,hb2⟩ | hb1
   ·rw [au M hS.Z6 rfl (c:=cW) rfl,cW]
    simp (config:=apy) only [Zh M,↓Zi,Nat.reduceBEq,Nat.reduceAdd,env,ae,j4,Zx,AV.cell,Nat.reduceMul,Nat.reduceLeDiff,am6,Cx,amZ,aa,rnc,hg,qRd,oz h0,h0,xj h1,h1,GV h2,h2,hb1,hb2,hdm,hln,hw1,ht,hn,hfr,hf,Zv,Zl,dh,qu,aap,aao,aaH,jX,Zq,anX,anF,a1,a2,a3]
   ·cases hb2:(last == [115,108,111,116]) <;>
    ·rw [au M hS.Z6 rfl (c:=cW) rfl,cW]
     simp (config:=apy) only [Zh M,↓Zi,Nat.reduceBEq,Nat.reduceAdd,env,ae,j4,Zx,AV.cell,Nat.reduceMul,Nat.reduceLeDiff,am6,Cx,amZ,aa,rnc,hg,qRd,oz h0,h0,xj h1,h1,GV h2,h2,hb1,hb2,hdm,hln,hw1,ht,hn,hfr,hf,Zv,Zl,dh,qu,aap,aao,aaH,jX,Zq,anX,anF,a1,a2,a3]
  |some fs=>
   simp only [hq2] at hf ⊢;obtain ⟨id,off,cs,v,v',G1,a1,a2,a3,a4,a5,a6,a7,a8,a9,a10,a11,a12,a13,a14⟩:=p2.last hN (x':=⟨c.name,⟨.any,c.Zd.l++[⟨n,dc b,dc c1,⟨.any,fs⟩⟩]⟩⟩) (r:=bU.row ⟨n,dc b,dc c1,⟨.any,fs⟩⟩) (bytes:=64) rfl (by show (c.Zd.l++[_]).map bU.row=_;rw [anP];rfl) rfl rfl rfl (by show ((c.Zd.l.map bU.row).length+1)*64≤_;rw [ama];omega) (by show (c.Zd.l.map bU.row).length+1≤_;rw [ama];omega) (fun _ _ e=>by cases e)
   have c0:Chg bX aJ G (G1.set id (.cells (cs.set (off+(2-1)) v') aJ)):=⟨a12,fun j x hx n1 n2=>(a14 j (dS hx) (fun cs e=>n2 cs (by rw [hx] at e;injection e)) (fun n e=>n1 n (by rw [hx] at e;injection e))).trans hx⟩
   have hg2:=c0.2 r _ hg (fun n e=>by cases e) (fun cs e=>by cases e);refine ⟨G1.set id (.cells (cs.set (off+(2-1)) v') aJ), ?_,⟨tv,cv,ev,sv,kv,hg2,p1.chg c0 (by decide),a8,p3.chg c0 (by decide) (by decide),p4.chg c0 (by decide),p5.chg c0 (by decide)⟩,a12,fun j hj _=>a13 j hj,fun j cs2 T2 hT2 hj=>c0.2 j _ hj (fun n e=>by cases e) (fun cs3 e=>L7 (T:=aJ) (by decide) hT2 (by injection e))⟩;have a1:qV 2 cv (.int .i64 (i.length:Int))=some (.ptr id off):=a1 .i64
   have a3:bO none cs (off+1)=some v:=a3;have a4:rap false G bX 4 64 false v (.slice .full 4 [[.int .i64 (n:Int),.str (dc b),.str (dc c1),.slice .any 2 (fs.map aw.row)]])=some (v',G1):=a4;have a7:stO 1 G1 id (off+1) [v'] (some (.cells cs aJ))=some (G1.set id (.cells (cs.set (off+(2-1)) v') aJ)):=a7;have a2:G[id]?=some (.cells cs aJ):=a2;have a5:G1[id]?=some (.cells cs aJ):=a5;rcases hbb with ⟨hb1,hb2⟩ | hb1
   ·rw [au M hS.Z6 rfl (c:=cW) rfl,cW]
    simp (config:=apy) only [Zh M,↓Zi,Nat.reduceBEq,Nat.reduceAdd,env,ae,j4,Zx,AV.cell,Nat.reduceMul,Nat.reduceLeDiff,am6,Cx,amZ,aa,rnc,hg,qRd,oz h0,h0,xj h1,h1,GV h2,h2,hb1,hb2,hdm,hln,hw1,ht,hn,hfr,hf,Zv,Zl,dh,qu,aap,aao,aaH,jX,Zq,anX,anF,a1,a2,a3,a4,a5,a6,a7]
   ·cases hb2:(last == [115,108,111,116]) <;>
    ·rw [au M hS.Z6 rfl (c:=cW) rfl,cW]
     simp (config:=apy) only [Zh M,↓Zi,Nat.reduceBEq,Nat.reduceAdd,env,ae,j4,Zx,AV.cell,Nat.reduceMul,Nat.reduceLeDiff,am6,Cx,amZ,aa,rnc,hg,qRd,oz h0,h0,xj h1,h1,GV h2,h2,hb1,hb2,hdm,hln,hw1,ht,hn,hfr,hf,Zv,Zl,dh,qu,aap,aao,aaH,jX,Zq,anX,anF,a1,a2,a3,a4,a5,a6,a7]
theorem O7(hS:gB E)(h:RdV N r G d last Zb)(hk1:(last == [101,110,116,114,121])=false)(hk2:(last == [102,111,114,109])=false){ws:List Zc} :
  M.run iS [.ptr r 0,.slice .any 1 (ws.map ak)] G=some (.panic jH,G):=by
 obtain ⟨tv,cv,ev,sv,kv,hg,_⟩:=h;have hdm:=fun b H=>qv M hS b H
 rw [au M hS.aau rfl (c:=eJ) rfl,eJ];simp (config:=apy) only [Zh M,↓Zi,Nat.reduceBEq,Nat.reduceAdd,env,ae,oq,Zx,AV.cell,Nat.reduceMul,Nat.reduceLeDiff,am6,rnc,hg,qRd,hk1,hk2,hdm,Zv,qu,Zq,jX]
theorem Xt(hS:gB E)(hX:nk M)(hP:qN E)(hN:N≤G.length)(h:RdV N r G d last Zb)(hlk:last=[101,110,116,114,121]∨last=[102,111,114,109]){ws:List Zc}{a b:Zc}(h0:ws[0]?=some a)(h1:ws[1]?=some b){i:List aT}{c:aT}(hcl:d.en=i++[c])(hl:i.length≤1000000)(hl2:c.Zg.l.length≤1000000)(hw:ws.length≤1000000)(hsl:∀ s∈ws,s.length≤1000000) :
  match wR a with
  |some n => ∃ G',M.run iS [.ptr r 0,.slice .any 1 (ws.map ak)] G=some (.ret (.tuple []),G')∧RdV N r G' { d with en:=i++[⟨c.lem,c.cls,c.Zf,⟨.any,c.Zg.l++[⟨n,dc b⟩]⟩⟩] } last Zb∧LoR N r G G'
  |none=>M.run iS [.ptr r 0,.slice .any 1 (ws.map ak)] G=some (.panic jH,G):=by
 obtain ⟨tv,cv,ev,sv,kv,hg,p1,p2,p3,p4,p5⟩:=h;have hlen:2≤ws.length:=(al3.1 h1).1;have ha:a.length≤1000000:=hsl a (aml h0);have ht:=fun s H=>Ca M hS s H
 have hn:=fun H=>Jg M hS hX hP ha H
 have hdm:=fun b H=>qv M hS b H
 rw [hcl] at p3;have hln:=fun H=>(p3.len H).1
 have aa:=fun L r=>TF (Hk L) r
 have hw1:IntKind.i64.wrap ((((i++[c]).length:Nat):Int)-1)=(i.length:Int):=by rw [al8,amP];exact yx (by omega)
 have hbb:((last == [101,110,116,114,121])=false∧(last == [102,111,114,109])=true)∨(last == [101,110,116,114,121])=true:=by
  cases hz:(last == [101,110,116,114,121]) with
  |true=>exact .inr rfl
  |false=>
   rcases hlk with e | e
   ·rw [e] at hz;simp at hz
   ·exact .inl ⟨rfl,by rw [e];simp⟩
 cases hq:wR a with
 |none=>
  simp only [hq] at hn ⊢;obtain ⟨id,off,cs,v,a1,a2,a3⟩:=p3.top;have a1:qV 4 ev (.int .i64 (i.length:Int))=some (.ptr id off):=a1;have a3:bO none cs (off+3)=some v:=a3;have a2:G[id]?=some (.cells cs aD):=a2;rcases hbb with ⟨hb1,hb2⟩ | hb1
  ·rw [au M hS.aau rfl (c:=eJ) rfl,eJ]
   simp (config:=apy) only [Zh M,↓Zi,Nat.reduceBEq,Nat.reduceAdd,env,ae,oq,Zx,AV.cell,Nat.reduceMul,Nat.reduceLeDiff,am6,Cx,amZ,aa,rnc,hg,qRd,oz h0,h0,xj h1,h1,hb1,hb2,hdm,hln,hw1,ht,hn,Zv,Zl,dh,qu,aap,aao,aaH,jX,Zq,anX,anF,a1,a2,a3]
  ·cases hb2:(last == [102,111,114,109]) <;>
   ·rw [au M hS.aau rfl (c:=eJ) rfl,eJ]
    simp (config:=apy) only [Zh M,↓Zi,Nat.reduceBEq,Nat.reduceAdd,env,ae,oq,Zx,AV.cell,Nat.reduceMul,Nat.reduceLeDiff,am6,Cx,amZ,aa,rnc,hg,qRd,oz h0,h0,xj h1,h1,hb1,hb2,hdm,hln,hw1,ht,hn,Zv,Zl,dh,qu,aap,aao,aaH,jX,Zq,anX,anF,a1,a2,a3]
 |some n=>
  simp only [hq] at hn ⊢;obtain ⟨id,off,cs,v,v',G1,a1,a2,a3,a4,a5,a6,a7,a8,a9,a10,a11,a12,a13,a14⟩:=p3.last hN (x':=⟨c.lem,c.cls,c.Zf,⟨.any,c.Zg.l++[⟨n,dc b⟩]⟩⟩) (r:=bE.row ⟨n,dc b⟩) (bytes:=24) rfl (by show (c.Zg.l++[_]).map bE.row=_;rw [anP];rfl) rfl rfl rfl (by show ((c.Zg.l.map bE.row).length+1)*24≤_;rw [ama];omega) (by show (c.Zg.l.map bE.row).length+1≤_;rw [ama];omega) (fun _ _ e=>by cases e)
  have c0:Chg bk aD G (G1.set id (.cells (cs.set (off+(4-1)) v') aD)):=⟨a12,fun j x hx n1 n2=>(a14 j (dS hx) (fun cs e=>n2 cs (by rw [hx] at e;injection e)) (fun n e=>n1 n (by rw [hx] at e;injection e))).trans hx⟩
  have hg2:=c0.2 r _ hg (fun n e=>by cases e) (fun cs e=>by cases e);refine ⟨G1.set id (.cells (cs.set (off+(4-1)) v') aD), ?_,⟨tv,cv,ev,sv,kv,hg2,p1.chg c0 (by decide),p2.chg c0 (by decide) (by decide),a8,p4.chg c0 (by decide),p5.chg c0 (by decide)⟩,a12,fun j hj _=>a13 j hj,fun j cs2 T2 hT2 hj=>c0.2 j _ hj (fun n e=>by cases e) (fun cs3 e=>L7 (T:=aD) (by decide) hT2 (by injection e))⟩;have a1:qV 4 ev (.int .i64 (i.length:Int))=some (.ptr id off):=a1 .i64
  have a3:bO none cs (off+3)=some v:=a3;have a4:rap false G bk 2 24 false v (.slice .full 2 [[.int .i64 (n:Int),.str (dc b)]])=some (v',G1):=a4;have a7:stO 1 G1 id (off+3) [v'] (some (.cells cs aD))=some (G1.set id (.cells (cs.set (off+(4-1)) v') aD)):=a7;have a2:G[id]?=some (.cells cs aD):=a2;have a5:G1[id]?=some (.cells cs aD):=a5;rcases hbb with ⟨hb1,hb2⟩ | hb1
  ·rw [au M hS.aau rfl (c:=eJ) rfl,eJ]
   simp (config:=apy) only [Zh M,↓Zi,Nat.reduceBEq,Nat.reduceAdd,env,ae,oq,Zx,AV.cell,Nat.reduceMul,Nat.reduceLeDiff,am6,Cx,amZ,aa,rnc,hg,qRd,oz h0,h0,xj h1,h1,hb1,hb2,hdm,hln,hw1,ht,hn,Zv,Zl,dh,qu,aap,aao,aaH,jX,Zq,anX,anF,a1,a2,a3,a4,a5,a6,a7]
  ·cases hb2:(last == [102,111,114,109]) <;>
   ·rw [au M hS.aau rfl (c:=eJ) rfl,eJ]
    simp (config:=apy) only [Zh M,↓Zi,Nat.reduceBEq,Nat.reduceAdd,env,ae,oq,Zx,AV.cell,Nat.reduceMul,Nat.reduceLeDiff,am6,Cx,amZ,aa,rnc,hg,qRd,oz h0,h0,xj h1,h1,hb1,hb2,hdm,hln,hw1,ht,hn,Zv,Zl,dh,qu,aap,aao,aaH,jX,Zq,anX,anF,a1,a2,a3,a4,a5,a6,a7]
end
end
section
attribute [local congr] aF aS cC bn aG aX aL aH az aA aM aN
variable{E:br}(M:cH bM E)
structure FN (E:br):Prop where
 rd:E.dfn aq=some (4,bH)
def TG(Zb least:Nat)(more:Bool)(g:Nat):AV:=.agg [.int .i64 (Zb:Int),.int .i64 (least:Int),.bool more,.fn (.func g) [] []]
def ni:List (Zc×Nat×Nat×Bool×Nat):=[(LX,0,1,false,lN),(aae,1,1,true,lO),(kx,2,1,false,lP),(qQ,2,3,true,iR),(ky,3,2,true,jZ),(qR,3,2,false,iS),(rf,4,4,false,lQ),(vK,5,2,true,j0)]
def pM(x:Zc×Nat×Nat×Bool×Nat):AV×AV:=(.str x.1,TG x.2.1 x.2.2.1 x.2.2.2.1 x.2.2.2.2)
theorem xF(H:List Y4)(n:Nat){x:Zc×Nat×Nat×Bool×Nat}(hx:ni[n]?=some x):rmu (H++[.map ((ni.take n).map pM)]) .str (.map H.length) (.str x.1) (TG x.2.1 x.2.2.1 x.2.2.2.1 x.2.2.2.2)=some (H++[.map ((ni.take (n+1)).map pM)]):=by
 have hn:n<8:=(al3.1 hx).1
 have key:∀ (m:Nat) (hm:m<8),pS (.str (ni[m]'hm).1) ((ni.take m).map pM) 0=some none:=fun m hm=>match m,hm with
  |0,_=>rfl
  |1,_=>rfl
  |2,_=>rfl
  |3,_=>rfl
  |4,_=>rfl
  |5,_=>rfl
  |6,_=>rfl
  |7,_=>rfl
 have h1:ni[n]=x:=by rw [al4 hn] at hx;injection hx
 have h2:=key n hn;rw [h1] at h2;rw [UY rfl h2,apn,hx];simp [pM]
theorem Rq(hS:gB E)(H:List Y4):M.run ru [] H=some (.ret (.Z2 (ni.map pM)),H):=by
 have hz:=JA (H0:=H) (es:=ni.map pM) (fun e he=>by
  obtain ⟨x,hx,rfl⟩:=anD.1 he;exact ⟨ZH _ _,abv ⟨aab _ _ _,aab _ _ _,acq _ _,abg trivial trivial,trivial⟩⟩)
 have fill:∀ (i1 i2:Int) (b:Bool) (g:Nat),lC (fun x=>([(0,1),(1,1),(2,1),(3,1)]:List (Nat×Nat))[x]?) [.int .i64 0,.int .i64 0,.bool false,.Zw] [(0,.int .i64 i1),(1,.int .i64 i2),(2,.bool b),(3,.fn (.func g) [] [])]=some [.int .i64 i1,.int .i64 i2,.bool b,.fn (.func g) [] []]:=fun _ _ _ _=>rfl
 have m0:rmu (H++[.map []]) .str (.map H.length) (.str [118,111,119,101,108,115]) (.agg [.int .i64 0,.int .i64 1,.bool false,.fn (.func lN) [] []])=_:=xF H 0 rfl;have m1:rmu (H++[.map ((ni.take 1).map pM)]) .str (.map H.length) (.str [116,114,97,105,116]) (.agg [.int .i64 1,.int .i64 1,.bool true,.fn (.func lO) [] []])=_:=xF H 1 rfl;have m2:rmu (H++[.map ((ni.take 2).map pM)]) .str (.map H.length) (.str [99,108,97,115,115]) (.agg [.int .i64 2,.int .i64 1,.bool false,.fn (.func lP) [] []])=_:=xF H 2 rfl
 have m3:rmu (H++[.map ((ni.take 3).map pM)]) .str (.map H.length) (.str [115,108,111,116]) (.agg [.int .i64 2,.int .i64 3,.bool true,.fn (.func iR) [] []])=_:=xF H 3 rfl;have m4:rmu (H++[.map ((ni.take 4).map pM)]) .str (.map H.length) (.str [101,110,116,114,121]) (.agg [.int .i64 3,.int .i64 2,.bool true,.fn (.func jZ) [] []])=_:=xF H 4 rfl;have m5:rmu (H++[.map ((ni.take 5).map pM)]) .str (.map H.length) (.str [102,111,114,109]) (.agg [.int .i64 3,.int .i64 2,.bool false,.fn (.func iS) [] []])=_:=xF H 5 rfl
 have m6:rmu (H++[.map ((ni.take 6).map pM)]) .str (.map H.length) (.str [115,112,101,108,108]) (.agg [.int .i64 4,.int .i64 4,.bool false,.fn (.func lQ) [] []])=_:=xF H 6 rfl;have m7:rmu (H++[.map ((ni.take 7).map pM)]) .str (.map H.length) (.str [108,105,110,107]) (.agg [.int .i64 5,.int .i64 2,.bool true,.fn (.func j0) [] []])=some (H++[.map (ni.map pM)]):=xF H 7 rfl;simp only [amJ,Nat.reduceAdd] at m0 m1 m2 m3 m4 m5 m6
 rw [au M hS.adX rfl (c:=xV) rfl,xV];simp (config:=apy) only [Zh M,↓Zi,Nat.reduceBEq,Nat.reduceAdd,env,ae,JD,Zx,AV.cell,Nat.reduceMul,Nat.reduceLeDiff,fill,m0,m1,m2,m3,m4,m5,m6,m7,Zl,hz]
def P4(w:Zc):Option (Nat×Nat×Bool×Nat):=(ni.find? fun x=>w == x.1).map (·.2)
theorem KQ(w:Zc):∀ (l:List (Zc×Nat×Nat×Bool×Nat)) (i:Nat),∃ j,pS (.str w) (l.map pM) i=some ((l.find? fun x=>w == x.1).map fun x=>(j,TG x.2.1 x.2.2.1 x.2.2.2.1 x.2.2.2.2))
 |[],i=>⟨0,rfl⟩
 |x::l,i=>by
  cases h:(w == x.1) with
  |true=>exact ⟨i,by simp [pS,pM,mD,h]⟩
  |false=>
   obtain ⟨j,hj⟩:=KQ w l (i+1);exact ⟨j,by simp [pS,pM,mD,h,hj]⟩
theorem Vu(G:List Y4)(w:Zc):rlk G .str (some (.agg [.int .i64 0,.int .i64 0,.bool false,.Zw])) true (.Z2 (ni.map pM)) (.str w) =
  some (match P4 w with | some k=>.tuple [TG k.1 k.2.1 k.2.2.1 k.2.2.2,.bool true] | none=>.tuple [.agg [.int .i64 0,.int .i64 0,.bool false,.Zw],.bool false]):=by
 obtain ⟨j,hj⟩:=KQ w ni 0;have h1:CV G (.Z2 (ni.map pM))=some (ni.map pM):=rfl;have h2:HM .str (.str w) (ni.map pM)=_:=(show HM .str (.str w) (ni.map pM)=pS (.str w) (ni.map pM) 0 from rfl).trans hj;simp only [rlk,h1,h2,P4];cases ni.find? (fun x=>w == x.1) with
 |none=>rfl
 |some x=>rfl
theorem Vv(hD:FN E)(q:Nat)(H:List Y4):qW E M.go (.fn (.func aq) [] [.ptr q 0]) .Zr H=some H:=by
 have h:M.go bH H [.c eA] (Gb (qx (env [.ptr q 0]) 4 .Zr) .Zr []) H=some (.ret (.tuple []),H):=by
  unfold eA;simp (config:=apy) only [Zh M,↓Zi,Nat.reduceBEq,Nat.reduceAdd,env,ae,(show bH.res=[] from rfl),(show bH.mode = .Zn from rfl),(show bH.Z7=none from rfl),qu,Gb]
 unfold qW;simp only [hD.rd,amH];rw [show bH.c=eA from rfl,show bH.abu=[] from rfl,h]
theorem Rr(hD:FN E){q:Nat}{H:List Y4}{b:Bool}(hq:H[q]?=some (.cells [.bool b] el)):qW E M.go (.fn (.func aq) [] [.ptr q 0]) jH H=some ((H++[Y4.cells [] dN]).set q (.cells [.bool false] el)):=by
 have hq2:=bR (L:=[Y4.cells [] dN]) hq;have hlt:=dS hq
 have s1:stO 0 (H++[Y4.cells [] dN]) H.length 0 [] (some (.cells [] dN))=some (H++[Y4.cells [] dN]):=by
  simp [stO,bq]
 have s2:stO 1 (H++[Y4.cells [] dN]) q 0 [.bool false] (some (.cells [.bool b] el))=some ((H++[Y4.cells [] dN]).set q (.cells [.bool false] el)):=jW rfl (by simp)
 have h:M.go bH H [.c eA] (Gb (qx (env [.ptr q 0]) 4 jH) jH []) H=some (.ret (.tuple []),(H++[Y4.cells [] dN]).set q (.cells [.bool false] el)):=by
  unfold eA;simp (config:=apy) only [Zh M,↓Zi,Nat.reduceBEq,Nat.reduceAdd,env,ae,(show bH.res=[] from rfl),(show bH.mode = .Zn from rfl),(show bH.Z7=none from rfl),qu,Gb,Zx,AV.cell,Nat.reduceMul,Nat.reduceLeDiff,rnc,hq2,s1,s2,rta]
 unfold qW;simp only [hD.rd,amH];rw [show bH.c=eA from rfl,show bH.abu=[] from rfl,h]
end
section
attribute [local congr] aF aS cC bn aG aX aL aH az aA aM aN
variable{E:br}(M:cH bM E)
inductive K where
 |Z3 | trait | cla | slot | entry | form | spell | link
def K.key:K→Zc
 |.Z3=>LX | .trait=>aae | .cla=>kx | .slot=>qQ | .entry=>ky | .form=>qR | .spell=>rf | .link=>vK
def K.Zb:K→Nat
 |.Z3=>0 | .trait=>1 | .cla=>2 | .slot=>2 | .entry=>3 | .form=>3 | .spell=>4 | .link=>5
def K.least:K→Nat
 |.Z3=>1 | .trait=>1 | .cla=>1 | .slot=>3 | .entry=>2 | .form=>2 | .spell=>4 | .link=>2
def K.more:K→Bool
 |.Z3=>false | .trait=>true | .cla=>false | .slot=>true | .entry=>true | .form=>false | .spell=>false | .link=>true
def K.fid:K→Nat
 |.Z3=>lN | .trait=>lO | .cla=>lP | .slot=>iR | .entry=>jZ | .form=>iS | .spell=>lQ | .link=>j0
def GW:List K:=[.Z3,.trait,.cla,.slot,.entry,.form,.spell,.link]
def kOf(w:Zc):Option K:=GW.find? fun k=>w == k.key
theorem TH(w:Zc):P4 w=(kOf w).map fun k=>(k.Zb,k.least,k.more,k.fid):=by
 have e:ni=GW.map fun k=>(k.key,k.Zb,k.least,k.more,k.fid):=rfl
 unfold P4 kOf;rw [e];generalize GW=l;induction l with
 |nil=>rfl
 |cons k l ih=>
  simp only [amN,ao4];cases (w == k.key) with
  |true=>rfl
  |false=>exact ih
def EA:List aV→bU→List aV
 |[],_=>[]
 |[c],s=>[⟨c.name,⟨.any,c.Zd.l++[s]⟩⟩]
 |c::d::l,s=>c::EA (d::l) s
theorem xG(c:aV)(s:bU):∀ i:List aV,EA (i++[c]) s=i++[⟨c.name,⟨.any,c.Zd.l++[s]⟩⟩]
 |[]=>rfl
 |[d]=>rfl
 |d::e::i=>by
  have:=xG c s (e::i);simp only [amW,EA] at this ⊢;rw [this]
def EB:List aT→bE→List aT
 |[],_=>[]
 |[c],s=>[⟨c.lem,c.cls,c.Zf,⟨.any,c.Zg.l++[s]⟩⟩]
 |c::d::l,s=>c::EB (d::l) s
theorem xH(c:aT)(s:bE):∀ i:List aT,EB (i++[c]) s=i++[⟨c.lem,c.cls,c.Zf,⟨.any,c.Zg.l++[s]⟩⟩]
 |[]=>rfl
 |[d]=>rfl
 |d::e::i=>by
  have:=xH c s (e::i);simp only [amW,EB] at this ⊢;rw [this]
def qS(k:K)(d:Rd)(last:Zc)(ws:List Zc):Option Rd:=
 match k,ws with
 |.Z3,a::_=>some { d with Z3:=dc a }
 |.trait,a::r=>some { d with tr:=d.tr++[⟨a,⟨.any,r⟩⟩] }
 |.cla,a::_=>some { d with cl:=d.cl++[⟨a,⟨.any,[]⟩⟩] }
 |.slot,a::b::c::r=>if last=kx∨last=qQ then (match wR a,dq r with
  |some n,some fs=>some { d with cl:=EA d.cl ⟨n,dc b,dc c,⟨.any,fs⟩⟩ }
  |_,_=>none) else none
 |.entry,a::b::r=>match dq r with
  |some fs=>some { d with en:=d.en++[⟨a,b,⟨.any,fs⟩,⟨.any,[]⟩⟩] }
  |none=>none
 |.form,a::b::_=>if last=ky∨last=qR then (match wR a with
  |some n=>some { d with en:=EB d.en ⟨n,dc b⟩ }
  |none=>none) else none
 |.spell,a::b::c::e::_=>some { d with sp:=d.sp++[⟨dc a,dc b,dc c,dc e⟩] }
 |.link,a::b::r=>match dq r with
  |some fs=>some { d with li:=d.li++[⟨a,dc b,⟨.any,fs⟩⟩] }
  |none=>none
 |_,_=>none
def CO(d:Rd)(last:Zc):Prop:=(last=kx∨last=qQ→d.cl≠[])∧(last=ky∨last=qR→d.en≠[])
def Cb(m:Nat)(d:Rd):Prop:=d.tr.length≤m∧d.cl.length≤m∧d.en.length≤m∧d.sp.length≤m∧d.li.length≤m∧(∀ c∈d.cl,c.Zd.l.length≤m)∧∀ x∈d.en,x.Zg.l.length≤m
theorem Ax{α:Type}{l:List α}(h:l≠[]):∃ i x,l=i++[x]:=by
 rcases List.eq_nil_or_concat l with e | ⟨i,x,e⟩
 ·exact absurd e h
 ·exact ⟨i,x,by simpa using e⟩
section
variable{N r:Nat}{G:List Y4}{d:Rd}{last:Zc}{Zb:Int}
theorem TI(hS:gB E)(hX:nk M)(hP:qN E)(hN:N≤G.length)(h:RdV N r G d last Zb)(hJ:CO d last){m:Nat}(hZ:Cb m d)(hm:m≤1000000)(k:K){ws:List Zc}(hl:k.least≤ws.length)(hw:ws.length≤1000000)(hsl:∀ s∈ws,s.length≤1000000) :
  match qS k d last ws with
  |some d' => ∃ G',M.run k.fid [.ptr r 0,.slice .any 1 (ws.map ak)] G=some (.ret (.tuple []),G')∧RdV N r G' d' last Zb∧LoR N r G G'
  |none=>M.run k.fid [.ptr r 0,.slice .any 1 (ws.map ak)] G=some (.panic jH,G):=by
 obtain ⟨z1,z2,z3,z4,z5,z6,z7⟩:=hZ;cases k with
 |Z3=>
  obtain ⟨a,ws,rfl⟩:∃ a l,ws=a::l:=by cases ws with | nil=>simp [K.least] at hl | cons a l=>exact ⟨a,l,rfl⟩
  exact Xm M hS h rfl
 |trait=>
  obtain ⟨a,ws,rfl⟩:∃ a l,ws=a::l:=by cases ws with | nil=>simp [K.least] at hl | cons a l=>exact ⟨a,l,rfl⟩
  exact Xn M hS hN h rfl (by omega)
 |cla=>
  obtain ⟨a,ws,rfl⟩:∃ a l,ws=a::l:=by cases ws with | nil=>simp [K.least] at hl | cons a l=>exact ⟨a,l,rfl⟩
  exact Xq M hS hN h rfl (by omega)
 |slot=>
  obtain ⟨a,b,c,ws,rfl⟩:∃ a b c l,ws=a::b::c::l:=by
   match ws,hl with
   |a::b::c::l,_=>exact ⟨a,b,c,l,rfl⟩
   |[],h=>simp [K.least] at h
   |[_],h=>simp [K.least] at h
   |[_,_],h=>simp [K.least] at h
  simp only [qS]
  by_cases hk:last=kx∨last=qQ
  ·obtain ⟨i,x,hi⟩:=Ax (hJ.1 hk)
   have hx:x∈d.cl:=by rw [hi];simp
   have hil:i.length≤1000000:=by rw [hi,al8] at z2;omega
   have:=Xs M hS hX hP hN h hk (ws:=a::b::c::ws) rfl rfl rfl hi hil (by have:=z6 x hx;omega) hw hsl;rw [if_pos hk];have e0:(a::b::c::ws).drop 3=ws:=rfl;rw [e0] at this;rw [hi];simp only [xG];cases hn:wR a with
   |none=>simp only [hn] at this ⊢;exact this
   |some n=>
    cases hf:dq ws with
    |none=>simp only [hn,hf] at this ⊢;exact this
    |some fs=>simp only [hn,hf] at this ⊢;exact this
  ·rw [if_neg hk]
   rw [not_or] at hk;exact O6 M hS h (amg.2 hk.1) (amg.2 hk.2)
 |entry=>
  obtain ⟨a,b,ws,rfl⟩:∃ a b l,ws=a::b::l:=by
   match ws,hl with
   |a::b::l,_=>exact ⟨a,b,l,rfl⟩
   |[],h=>simp [K.least] at h
   |[_],h=>simp [K.least] at h
  have:=Xr M hS hX hN h (ws:=a::b::ws) rfl rfl (by omega) hw hsl;have e0:(a::b::ws).drop 2=ws:=rfl;rw [e0] at this;simp only [qS];cases hf:dq ws with
  |none=>simp only [hf] at this ⊢;exact this
  |some fs=>simp only [hf] at this ⊢;exact this
 |form=>
  obtain ⟨a,b,ws,rfl⟩:∃ a b l,ws=a::b::l:=by
   match ws,hl with
   |a::b::l,_=>exact ⟨a,b,l,rfl⟩
   |[],h=>simp [K.least] at h
   |[_],h=>simp [K.least] at h
  simp only [qS]
  by_cases hk:last=ky∨last=qR
  ·obtain ⟨i,x,hi⟩:=Ax (hJ.2 hk)
   have hx:x∈d.en:=by rw [hi];simp
   have hil:i.length≤1000000:=by rw [hi,al8] at z3;omega
   have:=Xt M hS hX hP hN h hk (ws:=a::b::ws) rfl rfl hi hil (by have:=z7 x hx;omega) hw hsl;rw [if_pos hk];rw [hi];simp only [xH];cases hn:wR a with
   |none=>simp only [hn] at this ⊢;exact this
   |some n=>simp only [hn] at this ⊢;exact this
  ·rw [if_neg hk]
   rw [not_or] at hk;exact O7 M hS h (amg.2 hk.1) (amg.2 hk.2)
 |spell=>
  obtain ⟨a,b,c,e,ws,rfl⟩:∃ a b c e l,ws=a::b::c::e::l:=by
   match ws,hl with
   |a::b::c::e::l,_=>exact ⟨a,b,c,e,l,rfl⟩
   |[],h=>simp [K.least] at h
   |[_],h=>simp [K.least] at h
   |[_,_],h=>simp [K.least] at h
   |[_,_,_],h=>simp [K.least] at h
  exact Xo M hS hN h rfl rfl rfl rfl (by omega)
 |link=>
  obtain ⟨a,b,ws,rfl⟩:∃ a b l,ws=a::b::l:=by
   match ws,hl with
   |a::b::l,_=>exact ⟨a,b,l,rfl⟩
   |[],h=>simp [K.least] at h
   |[_],h=>simp [K.least] at h
  have:=Xp M hS hX hN h (ws:=a::b::ws) rfl rfl (by omega) hw hsl;have e0:(a::b::ws).drop 2=ws:=rfl;rw [e0] at this;simp only [qS];cases hf:dq ws with
  |none=>simp only [hf] at this ⊢;exact this
  |some fs=>simp only [hf] at this ⊢;exact this
end
end
section
attribute [local congr] aF aS cC bn aG aX aL aH az aA aM aN
variable{E:br}(M:cH bM E)
abbrev Rs(q:Nat):AV:=.fn (.func aq) [] [.ptr q 0]
abbrev L8(H:List Y4)(q:Nat):List Y4:=(H++[Y4.cells [] dN]).set q (.cells [.bool false] el)
theorem Dq(hD:FN E){a:Env}{q:Nat}{H0 H:List Y4}{b:Bool}(hq:H[q]?=some (.cells [.bool b] el))(ha:fh a 4 = .ptr q 0):Im bM E M.go ag H0 a jH H (some (Rs q))=some (.ret (.bool false),L8 H q):=by
 have h1:(L8 H q)[q]?=some (.cells [.bool false] el):=amy (by have:=dS hq;simp;omega);simp only [Im,Rr M hD hq,MT];unfold fin;rw [show ag.res=[.cell 4 none] from rfl,show ag.mode = .Zn from rfl];simp only [HX,yt,ha,qC,h1,bO,amx,iZ]
theorem TJ(hD:FN E){a:Env}{q:Nat}{H0 H:List Y4}{b:Bool}(hq:H[q]?=some (.cells [.bool b] el))(ha:fh a 4 = .ptr q 0):Im bM E M.go ag H0 a .Zr H (some (Rs q))=some (.ret (.bool b),H):=by
 simp only [Im,Vv M hD,MT];unfold fin;rw [show ag.res=[.cell 4 none] from rfl,show ag.mode = .Zn from rfl];simp only [HX,yt,ha,qC,hq,bO,amx,iZ]
theorem qw:(∀ c k,si (.c c::k)=si k)∧(∀ l c h k,si (.lp l c h::k)=si k)∧(∀ i k,si (.ZU i::k)=si k)∧(∀ v k,si (.dr v::k)=some v):=⟨fun _ _=>rfl,fun _ _ _ _=>rfl,fun _ _=>rfl,fun _ _=>rfl⟩
theorem wl0(hS:gB E)(hD:FN E){ws:List Zc}(hw:ws.length≤1000000){q r kid:Nat}{s:Zc}{H H0:List Y4}{b:Bool}(hq:H[q]?=some (.cells [.bool b] el))(k:List ZA)(hk:si k=some (Rs q)):∀ (n i:Nat),i+n=ws.length→∀ (He:List Y4),
  M.go ag H0 (.c gk :: .lp ⟨(some [0,1,4,5,6,23,24,25]),[],false⟩ gk He :: .ZU 0 :: .c (.lv [0,1,4,5,6])::k) (kv [(0,.ptr r 0),(1,.str s),(4,.ptr q 0),(5,.slice .any 1 (ws.map ak)),(6,.ptr kid 0),(23,.slice .any 1 (ws.map ak)),(24,.int .i64 ws.length),(25,.int .i64 i)]) H =
   slc ((ws.drop i).all fun x => !(x == [])) (M.go ag H0 k (kv [(0,.ptr r 0),(1,.str s),(4,.ptr q 0),(5,.slice .any 1 (ws.map ak)),(6,.ptr kid 0)]) H) (some (.ret (.bool false),L8 H q))
 |0,i,h,He=>by
  have e:i=ws.length:=by omega
  subst e;rw [al9,aov,abc];rw [ah M gk.eq_1];simp (config:=apy) only [Zh M,↓Zi,Nat.reduceBEq,Nat.reduceAdd,env,ae,(show ag.res=[.cell 4 none] from rfl),(show ag.mode = .Zn from rfl),(show ag.Z7=(some ([⟨(some 10),none,(.op (.mf (.func aq) [] [(.t 4)]))⟩],(.t 10),al)) from rfl),ame]
 |n+1,i,h,He=>by
  have hi:i<ws.length:=by omega
  have hx:=al4 hi;have hd:=al6 hi;have hil:=aE (row:=ak) (tag:=.any) (sz:=1) (k:=.i64) hi;have hwr:=bt hi (show ws.length≤aZ by simp only [aZ];omega);have hdm:=fun b H=>qv M hS b H
  have ih:=wl0 hS hD hw (H0:=H0) (r:=r) (kid:=kid) (s:=s) hq k hk n (i+1) (by omega);simp only [Y6,Y8] at ih;rw [hd,anq];cases hz:(ws[i] == ([]:Zc)) with
  |true=>
   rw [anS,anl,aaR];rw [ah M gk.eq_1];simp (config:=apy) only [Zh M,↓Zi,Nat.reduceBEq,Nat.reduceAdd,env,ae,(show ag.res=[.cell 4 none] from rfl),(show ag.mode = .Zn from rfl),(show ag.Z7=(some ([⟨(some 10),none,(.op (.mf (.func aq) [] [(.t 4)]))⟩],(.t 10),al)) from rfl),hi,hx,hil,hz,hdm,Zv,anS,dh,Zq,qw,hk,Dq M hD hq]
  |false=>
   rw [anW,amY];rw [ah M gk.eq_1];simp (config:=apy) only [Zh M,↓Zi,Nat.reduceBEq,Nat.reduceAdd,env,ae,(show ag.res=[.cell 4 none] from rfl),(show ag.mode = .Zn from rfl),(show ag.Z7=(some ([⟨(some 10),none,(.op (.mf (.func aq) [] [(.t 4)]))⟩],(.t 10),al)) from rfl),hi,hx,hil,hz,hdm,Zv,anW,dh,hwr,ih]
end
end Go.Am
