import Derived.Test.YtnknpmlcimogcaaGreatDoorA5
import Derived.Lib.Bytealg
import Derived.Lib.AtoiAll
/-
  Part 6 of the tool: an abstract machine over the model, proved sound, and what it says of the functions that the law reaches. Condition: none but those that each theorem names.
-/
set_option linter.unusedVariables false
set_option linter.unusedSimpArgs false
set_option maxRecDepth 100000
set_option maxHeartbeats 4000000
namespace Go.Am
open Go.RowKit
section
attribute [local congr] aF aS cC bn aG aX aL aH az aA aM aN
variable{E:br}(M:cH bM E)
def za{α:Type}(p:α→Bool):Nat→α→Option AV:=fun i x=>Zv (p x) (some (.int .i64 (i:Int))) none
def vY{α:Type}(p:α→Bool):Nat→List α→Int
 |_,[] => -1
 |i,x::l=>Zv (p x) (i:Int) (vY p (i+1) l)
theorem oJ{α:Type}(p:α→Bool):∀ (l:List α) (i:Nat) (H:List Y4),orE (cL (za p) i l) H (some (.ret (.int .i64 (-1)),H))=some (.ret (.int .i64 (vY p i l)),H)
 |[],i,H=>rfl
 |x::l,i,H=>by
  rw [np,za,vY,Hb,Ea,Eb,Ec,BF,oJ p l];cases p x<;>rfl
theorem xz{α:Type}(p:α→Bool):∀ (l:List α) (i:Nat),decide ((0:Int)≤vY p i l)=l.any p
 |[],i=>rfl
 |x::l,i=>by
  rw [vY,anr,← xz p l (i+1)];cases p x with
  |true=>simp only [Zv,anF];exact amu (by omega)
  |false=>simp only [Zv,anH];rfl
theorem Kr{H H0:List Y4}{g:Nat}{fr cap:List AV}{p:bf→Bool}{tg:Tag}{l:List bf}(hs:l.length≤aZ)(hp:∀ x∈l,M.run g (fr ++ .agg (bf.row x)::cap) H=some (.ret (.bool (p x)),H))(hc:bY H0 H)(k:List ZA):∀ (n i:Nat) (He:List Y4),i+n=l.length →
  M.go bz H0 (.c cE :: .lp ⟨(some [0,1,7,8]),[],false⟩ cE He :: .ZU 0 :: .c (.lv [])::k) (kv [(0,.slice tg 2 (l.map bf.row)),(1,.fn (.func g) fr cap),(7,.int .i64 l.length),(8,.int .i64 i)]) H =
   orE (cL (za p) i (l.drop i)) (H.take H0.length) (M.go bz H0 k .leaf H)
 |0,i,He,h=>by
  have e:i=l.length:=by omega
  subst e;rw [ah M cE.eq_1];simp (config:=apy) only [Zh M,↓Zi,Nat.reduceBEq,Nat.reduceAdd,env,ae,fC,ame,al9]
 |n+1,i,He,h=>by
  have hi:i<l.length:=by omega
  have hx:=al4 hi;have hd:=al6 hi;have hm:=amc hi;have ih:=fun He=>Kr (H:=H) (H0:=H0) (g:=g) (fr:=fr) (cap:=cap) (p:=p) (tg:=tg) (l:=l) (hs:=hs) (hp:=hp) hc k n (i+1)  He (by omega)
  simp only [Y6,Y8] at ih;rw [ah M cE.eq_1];simp (config:=apy) only [Zh M,↓Zi,Nat.reduceBEq,Nat.reduceAdd,env,ae,fC,hx,hd,hi,ih,hp,hm,bt hi hs,aE hi,kI,za,hc]
theorem vJ(hf:E.fn bZ=some bz){g:Nat}{fr cap:List AV}{p:bf→Bool}{tg:Tag}{l:List bf}(hs:l.length≤aZ){H:List Y4}
  (hp:∀ x∈l,M.run g (fr ++ .agg (bf.row x)::cap) H=some (.ret (.bool (p x)),H)) :
  M.run bZ [.slice tg 2 (l.map bf.row),.fn (.func g) fr cap] H=some (.ret (.int .i64 (vY p 0 l)),H):=by
 rw [au M hf rfl (c:=fB) rfl,fB];have hl:=fun k He=>Kr M (tg:=tg) hs hp (Zt H) k l.length 0 He (by omega)
 simp only [Y6,Y8,amj,amf] at hl;simp (config:=apy) only [Zh M,↓Zi,Nat.reduceBEq,Nat.reduceAdd,env,ae,fC,hl];exact oJ p l 0 H
theorem An(hf:E.fn bZ=some bz)(hg:E.fn dt=some cr){g:Nat}{fr cap:List AV}{p:bf→Bool}{tg:Tag}{l:List bf}(hs:l.length≤aZ){H:List Y4}
  (hp:∀ x∈l,M.run g (fr ++ .agg (bf.row x)::cap) H=some (.ret (.bool (p x)),H)) :
  M.run dt [.slice tg 2 (l.map bf.row),.fn (.func g) fr cap] H=some (.ret (.bool (l.any p)),H):=by
 rw [au M hg rfl (c:=eG) rfl,eG];simp (config:=apy) only [Zh M,↓Zi,Nat.reduceBEq,Nat.reduceAdd,env,ae,oe,vJ M hf hs hp,xz]
theorem Ks{H H0:List Y4}{g:Nat}{fr cap:List AV}{p:aV→Bool}{tg:Tag}{l:List aV}(hs:l.length≤aZ)(hp:∀ x∈l,M.run g (fr ++ .agg (aV.row x)::cap) H=some (.ret (.bool (p x)),H))(hc:bY H0 H)(k:List ZA):∀ (n i:Nat) (He:List Y4),i+n=l.length →
  M.go bA H0 (.c cF :: .lp ⟨(some [0,1,7,8]),[],false⟩ cF He :: .ZU 0 :: .c (.lv [])::k) (kv [(0,.slice tg 2 (l.map aV.row)),(1,.fn (.func g) fr cap),(7,.int .i64 l.length),(8,.int .i64 i)]) H =
   orE (cL (za p) i (l.drop i)) (H.take H0.length) (M.go bA H0 k .leaf H)
 |0,i,He,h=>by
  have e:i=l.length:=by omega
  subst e;rw [ah M cF.eq_1];simp (config:=apy) only [Zh M,↓Zi,Nat.reduceBEq,Nat.reduceAdd,env,ae,fE,ame,al9]
 |n+1,i,He,h=>by
  have hi:i<l.length:=by omega
  have hx:=al4 hi;have hd:=al6 hi;have hm:=amc hi;have ih:=fun He=>Ks (H:=H) (H0:=H0) (g:=g) (fr:=fr) (cap:=cap) (p:=p) (tg:=tg) (l:=l) (hs:=hs) (hp:=hp) hc k n (i+1)  He (by omega)
  simp only [Y6,Y8] at ih;rw [ah M cF.eq_1];simp (config:=apy) only [Zh M,↓Zi,Nat.reduceBEq,Nat.reduceAdd,env,ae,fE,hx,hd,hi,ih,hp,hm,bt hi hs,aE hi,jy,za,hc]
theorem q9(hf:E.fn b7=some bA){g:Nat}{fr cap:List AV}{p:aV→Bool}{tg:Tag}{l:List aV}(hs:l.length≤aZ){H:List Y4}
  (hp:∀ x∈l,M.run g (fr ++ .agg (aV.row x)::cap) H=some (.ret (.bool (p x)),H)) :
  M.run b7 [.slice tg 2 (l.map aV.row),.fn (.func g) fr cap] H=some (.ret (.int .i64 (vY p 0 l)),H):=by
 rw [au M hf rfl (c:=fD) rfl,fD];have hl:=fun k He=>Ks M (tg:=tg) hs hp (Zt H) k l.length 0 He (by omega)
 simp only [Y6,Y8,amj,amf] at hl;simp (config:=apy) only [Zh M,↓Zi,Nat.reduceBEq,Nat.reduceAdd,env,ae,fE,hl];exact oJ p l 0 H
theorem Ao(hf:E.fn b7=some bA)(hg:E.fn du=some ct){g:Nat}{fr cap:List AV}{p:aV→Bool}{tg:Tag}{l:List aV}(hs:l.length≤aZ){H:List Y4}
  (hp:∀ x∈l,M.run g (fr ++ .agg (aV.row x)::cap) H=some (.ret (.bool (p x)),H)) :
  M.run du [.slice tg 2 (l.map aV.row),.fn (.func g) fr cap] H=some (.ret (.bool (l.any p)),H):=by
 rw [au M hg rfl (c:=eH) rfl,eH];simp (config:=apy) only [Zh M,↓Zi,Nat.reduceBEq,Nat.reduceAdd,env,ae,og,q9 M hf hs hp,xz]
theorem Ku{H H0:List Y4}{g:Nat}{fr cap:List AV}{p:bE→Bool}{tg:Tag}{l:List bE}(hs:l.length≤aZ)(hp:∀ x∈l,M.run g (fr ++ .agg (bE.row x)::cap) H=some (.ret (.bool (p x)),H))(hc:bY H0 H)(k:List ZA):∀ (n i:Nat) (He:List Y4),i+n=l.length →
  M.go aU H0 (.c bQ :: .lp ⟨(some [0,1,7,8]),[],false⟩ bQ He :: .ZU 0 :: .c (.lv [])::k) (kv [(0,.slice tg 2 (l.map bE.row)),(1,.fn (.func g) fr cap),(7,.int .i64 l.length),(8,.int .i64 i)]) H =
   orE (cL (za p) i (l.drop i)) (H.take H0.length) (M.go aU H0 k .leaf H)
 |0,i,He,h=>by
  have e:i=l.length:=by omega
  subst e;rw [ah M bQ.eq_1];simp (config:=apy) only [Zh M,↓Zi,Nat.reduceBEq,Nat.reduceAdd,env,ae,dR,ame,al9]
 |n+1,i,He,h=>by
  have hi:i<l.length:=by omega
  have hx:=al4 hi;have hd:=al6 hi;have hm:=amc hi;have ih:=fun He=>Ku (H:=H) (H0:=H0) (g:=g) (fr:=fr) (cap:=cap) (p:=p) (tg:=tg) (l:=l) (hs:=hs) (hp:=hp) hc k n (i+1)  He (by omega)
  simp only [Y6,Y8] at ih;rw [ah M bQ.eq_1];simp (config:=apy) only [Zh M,↓Zi,Nat.reduceBEq,Nat.reduceAdd,env,ae,dR,hx,hd,hi,ih,hp,hm,bt hi hs,aE hi,zF,za,hc]
theorem Cv(hf:E.fn bV=some aU){g:Nat}{fr cap:List AV}{p:bE→Bool}{tg:Tag}{l:List bE}(hs:l.length≤aZ){H:List Y4}
  (hp:∀ x∈l,M.run g (fr ++ .agg (bE.row x)::cap) H=some (.ret (.bool (p x)),H)) :
  M.run bV [.slice tg 2 (l.map bE.row),.fn (.func g) fr cap] H=some (.ret (.int .i64 (vY p 0 l)),H):=by
 rw [au M hf rfl (c:=dQ) rfl,dQ];have hl:=fun k He=>Ku M (tg:=tg) hs hp (Zt H) k l.length 0 He (by omega)
 simp only [Y6,Y8,amj,amf] at hl;simp (config:=apy) only [Zh M,↓Zi,Nat.reduceBEq,Nat.reduceAdd,env,ae,dR,hl];exact oJ p l 0 H
theorem Ap(hf:E.fn bV=some aU)(hg:E.fn cj=some bP){g:Nat}{fr cap:List AV}{p:bE→Bool}{tg:Tag}{l:List bE}(hs:l.length≤aZ){H:List Y4}
  (hp:∀ x∈l,M.run g (fr ++ .agg (bE.row x)::cap) H=some (.ret (.bool (p x)),H)) :
  M.run cj [.slice tg 2 (l.map bE.row),.fn (.func g) fr cap] H=some (.ret (.bool (l.any p)),H):=by
 rw [au M hg rfl (c:=dB) rfl,dB];simp (config:=apy) only [Zh M,↓Zi,Nat.reduceBEq,Nat.reduceAdd,env,ae,lB,Cv M hf hs hp,xz]
theorem Kw{H H0:List Y4}{g:Nat}{fr cap:List AV}{p:aT→Bool}{tg:Tag}{l:List aT}(hs:l.length≤aZ)(hp:∀ x∈l,M.run g (fr ++ .agg (aT.row x)::cap) H=some (.ret (.bool (p x)),H))(hc:bY H0 H)(k:List ZA):∀ (n i:Nat) (He:List Y4),i+n=l.length →
  M.go bB H0 (.c cG :: .lp ⟨(some [0,1,7,8]),[],false⟩ cG He :: .ZU 0 :: .c (.lv [])::k) (kv [(0,.slice tg 4 (l.map aT.row)),(1,.fn (.func g) fr cap),(7,.int .i64 l.length),(8,.int .i64 i)]) H =
   orE (cL (za p) i (l.drop i)) (H.take H0.length) (M.go bB H0 k .leaf H)
 |0,i,He,h=>by
  have e:i=l.length:=by omega
  subst e;rw [ah M cG.eq_1];simp (config:=apy) only [Zh M,↓Zi,Nat.reduceBEq,Nat.reduceAdd,env,ae,fG,ame,al9]
 |n+1,i,He,h=>by
  have hi:i<l.length:=by omega
  have hx:=al4 hi;have hd:=al6 hi;have hm:=amc hi;have ih:=fun He=>Kw (H:=H) (H0:=H0) (g:=g) (fr:=fr) (cap:=cap) (p:=p) (tg:=tg) (l:=l) (hs:=hs) (hp:=hp) hc k n (i+1)  He (by omega)
  simp only [Y6,Y8] at ih;rw [ah M cG.eq_1];simp (config:=apy) only [Zh M,↓Zi,Nat.reduceBEq,Nat.reduceAdd,env,ae,fG,hx,hd,hi,ih,hp,hm,bt hi hs,aE hi,kJ,za,hc]
theorem Cw(hf:E.fn cQ=some bB){g:Nat}{fr cap:List AV}{p:aT→Bool}{tg:Tag}{l:List aT}(hs:l.length≤aZ){H:List Y4}
  (hp:∀ x∈l,M.run g (fr ++ .agg (aT.row x)::cap) H=some (.ret (.bool (p x)),H)) :
  M.run cQ [.slice tg 4 (l.map aT.row),.fn (.func g) fr cap] H=some (.ret (.int .i64 (vY p 0 l)),H):=by
 rw [au M hf rfl (c:=fF) rfl,fF];have hl:=fun k He=>Kw M (tg:=tg) hs hp (Zt H) k l.length 0 He (by omega)
 simp only [Y6,Y8,amj,amf] at hl;simp (config:=apy) only [Zh M,↓Zi,Nat.reduceBEq,Nat.reduceAdd,env,ae,fG,hl];exact oJ p l 0 H
theorem Aq(hf:E.fn cQ=some bB)(hg:E.fn dv=some cu){g:Nat}{fr cap:List AV}{p:aT→Bool}{tg:Tag}{l:List aT}(hs:l.length≤aZ){H:List Y4}
  (hp:∀ x∈l,M.run g (fr ++ .agg (aT.row x)::cap) H=some (.ret (.bool (p x)),H)) :
  M.run dv [.slice tg 4 (l.map aT.row),.fn (.func g) fr cap] H=some (.ret (.bool (l.any p)),H):=by
 rw [au M hg rfl (c:=eI) rfl,eI];simp (config:=apy) only [Zh M,↓Zi,Nat.reduceBEq,Nat.reduceAdd,env,ae,om,Cw M hf hs hp,xz]
theorem Nc{H H0:List Y4}{g:Nat}{fr cap:List AV}{p:aw→Bool}{tg:Tag}{l:List aw}(hs:l.length≤aZ)(hp:∀ x∈l,M.run g (fr ++ .agg (aw.row x)::cap) H=some (.ret (.bool (p x)),H))(hc:bY H0 H)(k:List ZA):∀ (n i:Nat) (He:List Y4),i+n=l.length →
  M.go bG H0 (.c cS :: .lp ⟨(some [0,1,7,8]),[],false⟩ cS He :: .ZU 0 :: .c (.lv [])::k) (kv [(0,.slice tg 2 (l.map aw.row)),(1,.fn (.func g) fr cap),(7,.int .i64 l.length),(8,.int .i64 i)]) H =
   orE (cL (za p) i (l.drop i)) (H.take H0.length) (M.go bG H0 k .leaf H)
 |0,i,He,h=>by
  have e:i=l.length:=by omega
  subst e;rw [ah M cS.eq_1];simp (config:=apy) only [Zh M,↓Zi,Nat.reduceBEq,Nat.reduceAdd,env,ae,gf,ame,al9]
 |n+1,i,He,h=>by
  have hi:i<l.length:=by omega
  have hx:=al4 hi;have hd:=al6 hi;have hm:=amc hi;have ih:=fun He=>Nc (H:=H) (H0:=H0) (g:=g) (fr:=fr) (cap:=cap) (p:=p) (tg:=tg) (l:=l) (hs:=hs) (hp:=hp) hc k n (i+1)  He (by omega)
  simp only [Y6,Y8] at ih;rw [ah M cS.eq_1];simp (config:=apy) only [Zh M,↓Zi,Nat.reduceBEq,Nat.reduceAdd,env,ae,gf,hx,hd,hi,ih,hp,hm,bt hi hs,aE hi,pX,za,hc]
theorem Df(hf:E.fn c8=some bG){g:Nat}{fr cap:List AV}{p:aw→Bool}{tg:Tag}{l:List aw}(hs:l.length≤aZ){H:List Y4}
  (hp:∀ x∈l,M.run g (fr ++ .agg (aw.row x)::cap) H=some (.ret (.bool (p x)),H)) :
  M.run c8 [.slice tg 2 (l.map aw.row),.fn (.func g) fr cap] H=some (.ret (.int .i64 (vY p 0 l)),H):=by
 rw [au M hf rfl (c:=gb) rfl,gb];have hl:=fun k He=>Nc M (tg:=tg) hs hp (Zt H) k l.length 0 He (by omega)
 simp only [Y6,Y8,amj,amf] at hl;simp (config:=apy) only [Zh M,↓Zi,Nat.reduceBEq,Nat.reduceAdd,env,ae,gf,hl];exact oJ p l 0 H
theorem tS(hf:E.fn c8=some bG)(hg:E.fn cI=some cK){g:Nat}{fr cap:List AV}{p:aw→Bool}{tg:Tag}{l:List aw}(hs:l.length≤aZ){H:List Y4}
  (hp:∀ x∈l,M.run g (fr ++ .agg (aw.row x)::cap) H=some (.ret (.bool (p x)),H)) :
  M.run cI [.slice tg 2 (l.map aw.row),.fn (.func g) fr cap] H=some (.ret (.bool (l.any p)),H):=by
 rw [au M hg rfl (c:=fj) rfl,fj];simp (config:=apy) only [Zh M,↓Zi,Nat.reduceBEq,Nat.reduceAdd,env,ae,pO,Df M hf hs hp,xz]
theorem Nd{H H0:List Y4}{g:Nat}{fr cap:List AV}{p:bU→Bool}{tg:Tag}{l:List bU}(hs:l.length≤aZ)(hp:∀ x∈l,M.run g (fr ++ .agg (bU.row x)::cap) H=some (.ret (.bool (p x)),H))(hc:bY H0 H)(k:List ZA):∀ (n i:Nat) (He:List Y4),i+n=l.length →
  M.go bF H0 (.c cR :: .lp ⟨(some [0,1,7,8]),[],false⟩ cR He :: .ZU 0 :: .c (.lv [])::k) (kv [(0,.slice tg 4 (l.map bU.row)),(1,.fn (.func g) fr cap),(7,.int .i64 l.length),(8,.int .i64 i)]) H =
   orE (cL (za p) i (l.drop i)) (H.take H0.length) (M.go bF H0 k .leaf H)
 |0,i,He,h=>by
  have e:i=l.length:=by omega
  subst e;rw [ah M cR.eq_1];simp (config:=apy) only [Zh M,↓Zi,Nat.reduceBEq,Nat.reduceAdd,env,ae,ga,ame,al9]
 |n+1,i,He,h=>by
  have hi:i<l.length:=by omega
  have hx:=al4 hi;have hd:=al6 hi;have hm:=amc hi;have ih:=fun He=>Nd (H:=H) (H0:=H0) (g:=g) (fr:=fr) (cap:=cap) (p:=p) (tg:=tg) (l:=l) (hs:=hs) (hp:=hp) hc k n (i+1)  He (by omega)
  simp only [Y6,Y8] at ih;rw [ah M cR.eq_1];simp (config:=apy) only [Zh M,↓Zi,Nat.reduceBEq,Nat.reduceAdd,env,ae,ga,hx,hd,hi,ih,hp,hm,bt hi hs,aE hi,CJ,za,hc]
theorem Dg(hf:E.fn c7=some bF){g:Nat}{fr cap:List AV}{p:bU→Bool}{tg:Tag}{l:List bU}(hs:l.length≤aZ){H:List Y4}
  (hp:∀ x∈l,M.run g (fr ++ .agg (bU.row x)::cap) H=some (.ret (.bool (p x)),H)) :
  M.run c7 [.slice tg 4 (l.map bU.row),.fn (.func g) fr cap] H=some (.ret (.int .i64 (vY p 0 l)),H):=by
 rw [au M hf rfl (c:=fZ) rfl,fZ];have hl:=fun k He=>Nd M (tg:=tg) hs hp (Zt H) k l.length 0 He (by omega)
 simp only [Y6,Y8,amj,amf] at hl;simp (config:=apy) only [Zh M,↓Zi,Nat.reduceBEq,Nat.reduceAdd,env,ae,ga,hl];exact oJ p l 0 H
theorem A4(hf:E.fn c7=some bF)(hg:E.fn dC=some cJ){g:Nat}{fr cap:List AV}{p:bU→Bool}{tg:Tag}{l:List bU}(hs:l.length≤aZ){H:List Y4}
  (hp:∀ x∈l,M.run g (fr ++ .agg (bU.row x)::cap) H=some (.ret (.bool (p x)),H)) :
  M.run dC [.slice tg 4 (l.map bU.row),.fn (.func g) fr cap] H=some (.ret (.bool (l.any p)),H):=by
 rw [au M hg rfl (c:=fi) rfl,fi];simp (config:=apy) only [Zh M,↓Zi,Nat.reduceBEq,Nat.reduceAdd,env,ae,pN,Dg M hf hs hp,xz]
end
section
attribute [local congr] aF aS cC bn aG aX aL aH az aA aM aN
variable{E:br}(M:cH bM E)
def qo{α:Type}(F:Nat→α→Int):Nat→α→Option AV:=fun i x=>Zv (!(F i x == 0)) (some (.int .u8 (F i x))) none
def tF{α:Type}(F:Nat→α→Int):Nat→List α→Int
 |_,[]=>0
 |i,x::l=>Zv (!(F i x == 0)) (F i x) (tF F (i+1) l)
theorem ng{α:Type}(F:Nat→α→Int):∀ (l:List α) (i:Nat) (H:List Y4),orE (cL (qo F) i l) H (some (.ret (.int .u8 0),H))=some (.ret (.int .u8 (tF F i l)),H)
 |[],i,H=>rfl
 |x::l,i,H=>by
  rw [np,qo,tF,Hb,Ea,Eb,Ec,BF,ng F l];cases (!(F i x == 0))<;>rfl
def j9{α:Type}(most:Int)(F:Nat→α→Int)(l:List α):Int:=Zv (decide (most<(l.length:Int))) 3 (tF F 0 l)
theorem IP{H H0:List Y4}{g:Nat}{fr cap:List AV}{F:Nat→bf→Int}{tg:Tag}{l:List bf}(hs:l.length≤aZ)(hfw:Wk H.length (.fn (.func g) fr cap) (.fn (.func g) fr cap))(hlw:Wk H.length (.slice tg 2 (l.map bf.row)) (.slice tg 2 (l.map bf.row)))(hp:∀ (L:List Y4) (i:Nat) (x:bf),l[i]?=some x→M.run g (fr ++ .int .i64 i :: .agg (bf.row x)::cap) (H++L)=some (.ret (.int .u8 (F i x)),H++L))(hc:bY H0 H)(k:List ZA):∀ (n i:Nat),i+n=l.length →
  M.go eu H0 (.c gq :: .lp ⟨(some [2,14,15,16]),[],true⟩ gq H :: .ZU 0 :: .c (.lv [])::k) (kv [(2,.fn (.func g) fr cap),(14,.slice tg 2 (l.map bf.row)),(15,.int .i64 l.length),(16,.int .i64 i)]) H =
   orE (cL (qo F) i (l.drop i)) (H.take H0.length) (M.go eu H0 k .leaf H)
 |0,i,h=>by
  have e:i=l.length:=by omega
  subst e;rw [ah M gq.eq_1];simp (config:=apy) only [Zh M,↓Zi,Nat.reduceBEq,Nat.reduceAdd,env,ae,nE,ame,al9]
 |n+1,i,h=>by
  have hi:i<l.length:=by omega
  have hx:=al4 hi;have hd:=al6 hi;have hm:=amc hi;have ih:=IP (H:=H) (H0:=H0) (g:=g) (fr:=fr) (cap:=cap) (F:=F) (tg:=tg) (l:=l) (hs:=hs) (hfw:=hfw) (hlw:=hlw) (hp:=hp) hc k n (i+1)  (by omega);simp only [Y6,Y8] at ih;have hp:=fun L=>hp L i l[i] hx
  rw [ah M gq.eq_1];simp (config:=apy) only [Zh M,↓Zi,Nat.reduceBEq,Nat.reduceAdd,env,ae,nE,hx,hd,hi,ih,Zx,AV.cell,hp,hfw,hlw,bt hi hs,aE hi,kI,qo,hc]
theorem IQ(hf:E.fn kf=some eu){g:Nat}{fr cap:List AV}{F:Nat→bf→Int}{tg:Tag}{l:List bf}{H:List Y4}(hs:l.length≤aZ)(hfw:Wk H.length (.fn (.func g) fr cap) (.fn (.func g) fr cap))(hlw:Wk H.length (.slice tg 2 (l.map bf.row)) (.slice tg 2 (l.map bf.row)))
  (hp:∀ (L:List Y4) (i:Nat) (x:bf),l[i]?=some x→M.run g (fr ++ .int .i64 i :: .agg (bf.row x)::cap) (H++L)=some (.ret (.int .u8 (F i x)),H++L)) (most:Int) :
  M.run kf [.slice tg 2 (l.map bf.row),.int .i64 most,.fn (.func g) fr cap] H=some (.ret (.int .u8 (j9 most F l)),H):=by
 rw [au M hf rfl (c:=nD) rfl,nD];have hl:=fun k=>IP M (tg:=tg) hs hfw hlw hp (Zt H) k l.length 0 (by omega)
 simp only [Y6,Y8,amj,amf] at hl;simp (config:=apy) only [Zh M,↓Zi,Nat.reduceBEq,Nat.reduceAdd,env,ae,nE,hl];rw [ng,j9];cases decide (most<(l.length:Int))<;>rfl
theorem Kx{H H0:List Y4}{g:Nat}{fr cap:List AV}{F:Nat→aw→Int}{tg:Tag}{l:List aw}(hs:l.length≤aZ)(hfw:Wk H.length (.fn (.func g) fr cap) (.fn (.func g) fr cap))(hlw:Wk H.length (.slice tg 2 (l.map aw.row)) (.slice tg 2 (l.map aw.row)))(hp:∀ (L:List Y4) (i:Nat) (x:aw),l[i]?=some x→M.run g (fr ++ .int .i64 i :: .agg (aw.row x)::cap) (H++L)=some (.ret (.int .u8 (F i x)),H++L))(hc:bY H0 H)(k:List ZA):∀ (n i:Nat),i+n=l.length →
  M.go eX H0 (.c ig :: .lp ⟨(some [2,14,15,16]),[],true⟩ ig H :: .ZU 0 :: .c (.lv [])::k) (kv [(2,.fn (.func g) fr cap),(14,.slice tg 2 (l.map aw.row)),(15,.int .i64 l.length),(16,.int .i64 i)]) H =
   orE (cL (qo F) i (l.drop i)) (H.take H0.length) (M.go eX H0 k .leaf H)
 |0,i,h=>by
  have e:i=l.length:=by omega
  subst e;rw [ah M ig.eq_1];simp (config:=apy) only [Zh M,↓Zi,Nat.reduceBEq,Nat.reduceAdd,env,ae,py,ame,al9]
 |n+1,i,h=>by
  have hi:i<l.length:=by omega
  have hx:=al4 hi;have hd:=al6 hi;have hm:=amc hi;have ih:=Kx (H:=H) (H0:=H0) (g:=g) (fr:=fr) (cap:=cap) (F:=F) (tg:=tg) (l:=l) (hs:=hs) (hfw:=hfw) (hlw:=hlw) (hp:=hp) hc k n (i+1)  (by omega);simp only [Y6,Y8] at ih;have hp:=fun L=>hp L i l[i] hx
  rw [ah M ig.eq_1];simp (config:=apy) only [Zh M,↓Zi,Nat.reduceBEq,Nat.reduceAdd,env,ae,py,hx,hd,hi,ih,Zx,AV.cell,hp,hfw,hlw,bt hi hs,aE hi,pX,qo,hc]
theorem JO(hf:E.fn ll=some eX){g:Nat}{fr cap:List AV}{F:Nat→aw→Int}{tg:Tag}{l:List aw}{H:List Y4}(hs:l.length≤aZ)(hfw:Wk H.length (.fn (.func g) fr cap) (.fn (.func g) fr cap))(hlw:Wk H.length (.slice tg 2 (l.map aw.row)) (.slice tg 2 (l.map aw.row)))
  (hp:∀ (L:List Y4) (i:Nat) (x:aw),l[i]?=some x→M.run g (fr ++ .int .i64 i :: .agg (aw.row x)::cap) (H++L)=some (.ret (.int .u8 (F i x)),H++L)) (most:Int) :
  M.run ll [.slice tg 2 (l.map aw.row),.int .i64 most,.fn (.func g) fr cap] H=some (.ret (.int .u8 (j9 most F l)),H):=by
 rw [au M hf rfl (c:=px) rfl,px];have hl:=fun k=>Kx M (tg:=tg) hs hfw hlw hp (Zt H) k l.length 0 (by omega)
 simp only [Y6,Y8,amj,amf] at hl;simp (config:=apy) only [Zh M,↓Zi,Nat.reduceBEq,Nat.reduceAdd,env,ae,py,hl];rw [ng,j9];cases decide (most<(l.length:Int))<;>rfl
theorem Ky{H H0:List Y4}{g:Nat}{fr cap:List AV}{F:Nat→bU→Int}{tg:Tag}{l:List bU}(hs:l.length≤aZ)(hfw:Wk H.length (.fn (.func g) fr cap) (.fn (.func g) fr cap))(hlw:Wk H.length (.slice tg 4 (l.map bU.row)) (.slice tg 4 (l.map bU.row)))(hp:∀ (L:List Y4) (i:Nat) (x:bU),l[i]?=some x→M.run g (fr ++ .int .i64 i :: .agg (bU.row x)::cap) (H++L)=some (.ret (.int .u8 (F i x)),H++L))(hc:bY H0 H)(k:List ZA):∀ (n i:Nat),i+n=l.length →
  M.go eW H0 (.c hU :: .lp ⟨(some [2,14,15,16]),[],true⟩ hU H :: .ZU 0 :: .c (.lv [])::k) (kv [(2,.fn (.func g) fr cap),(14,.slice tg 4 (l.map bU.row)),(15,.int .i64 l.length),(16,.int .i64 i)]) H =
   orE (cL (qo F) i (l.drop i)) (H.take H0.length) (M.go eW H0 k .leaf H)
 |0,i,h=>by
  have e:i=l.length:=by omega
  subst e;rw [ah M hU.eq_1];simp (config:=apy) only [Zh M,↓Zi,Nat.reduceBEq,Nat.reduceAdd,env,ae,pj,ame,al9]
 |n+1,i,h=>by
  have hi:i<l.length:=by omega
  have hx:=al4 hi;have hd:=al6 hi;have hm:=amc hi;have ih:=Ky (H:=H) (H0:=H0) (g:=g) (fr:=fr) (cap:=cap) (F:=F) (tg:=tg) (l:=l) (hs:=hs) (hfw:=hfw) (hlw:=hlw) (hp:=hp) hc k n (i+1)  (by omega);simp only [Y6,Y8] at ih;have hp:=fun L=>hp L i l[i] hx
  rw [ah M hU.eq_1];simp (config:=apy) only [Zh M,↓Zi,Nat.reduceBEq,Nat.reduceAdd,env,ae,pj,hx,hd,hi,ih,Zx,AV.cell,hp,hfw,hlw,bt hi hs,aE hi,CJ,qo,hc]
theorem JP(hf:E.fn lg=some eW){g:Nat}{fr cap:List AV}{F:Nat→bU→Int}{tg:Tag}{l:List bU}{H:List Y4}(hs:l.length≤aZ)(hfw:Wk H.length (.fn (.func g) fr cap) (.fn (.func g) fr cap))(hlw:Wk H.length (.slice tg 4 (l.map bU.row)) (.slice tg 4 (l.map bU.row)))
  (hp:∀ (L:List Y4) (i:Nat) (x:bU),l[i]?=some x→M.run g (fr ++ .int .i64 i :: .agg (bU.row x)::cap) (H++L)=some (.ret (.int .u8 (F i x)),H++L)) (most:Int) :
  M.run lg [.slice tg 4 (l.map bU.row),.int .i64 most,.fn (.func g) fr cap] H=some (.ret (.int .u8 (j9 most F l)),H):=by
 rw [au M hf rfl (c:=ph) rfl,ph];have hl:=fun k=>Ky M (tg:=tg) hs hfw hlw hp (Zt H) k l.length 0 (by omega)
 simp only [Y6,Y8,amj,amf] at hl;simp (config:=apy) only [Zh M,↓Zi,Nat.reduceBEq,Nat.reduceAdd,env,ae,pj,hl];rw [ng,j9];cases decide (most<(l.length:Int))<;>rfl
theorem IR{H H0:List Y4}{g:Nat}{fr cap:List AV}{F:Nat→aV→Int}{tg:Tag}{l:List aV}(hs:l.length≤aZ)(hfw:Wk H.length (.fn (.func g) fr cap) (.fn (.func g) fr cap))(hlw:Wk H.length (.slice tg 2 (l.map aV.row)) (.slice tg 2 (l.map aV.row)))(hp:∀ (L:List Y4) (i:Nat) (x:aV),l[i]?=some x→M.run g (fr ++ .int .i64 i :: .agg (aV.row x)::cap) (H++L)=some (.ret (.int .u8 (F i x)),H++L))(hc:bY H0 H)(k:List ZA):∀ (n i:Nat),i+n=l.length →
  M.go ew H0 (.c gr :: .lp ⟨(some [2,14,15,16]),[],true⟩ gr H :: .ZU 0 :: .c (.lv [])::k) (kv [(2,.fn (.func g) fr cap),(14,.slice tg 2 (l.map aV.row)),(15,.int .i64 l.length),(16,.int .i64 i)]) H =
   orE (cL (qo F) i (l.drop i)) (H.take H0.length) (M.go ew H0 k .leaf H)
 |0,i,h=>by
  have e:i=l.length:=by omega
  subst e;rw [ah M gr.eq_1];simp (config:=apy) only [Zh M,↓Zi,Nat.reduceBEq,Nat.reduceAdd,env,ae,nG,ame,al9]
 |n+1,i,h=>by
  have hi:i<l.length:=by omega
  have hx:=al4 hi;have hd:=al6 hi;have hm:=amc hi;have ih:=IR (H:=H) (H0:=H0) (g:=g) (fr:=fr) (cap:=cap) (F:=F) (tg:=tg) (l:=l) (hs:=hs) (hfw:=hfw) (hlw:=hlw) (hp:=hp) hc k n (i+1)  (by omega);simp only [Y6,Y8] at ih;have hp:=fun L=>hp L i l[i] hx
  rw [ah M gr.eq_1];simp (config:=apy) only [Zh M,↓Zi,Nat.reduceBEq,Nat.reduceAdd,env,ae,nG,hx,hd,hi,ih,Zx,AV.cell,hp,hfw,hlw,bt hi hs,aE hi,jy,qo,hc]
theorem IS(hf:E.fn kg=some ew){g:Nat}{fr cap:List AV}{F:Nat→aV→Int}{tg:Tag}{l:List aV}{H:List Y4}(hs:l.length≤aZ)(hfw:Wk H.length (.fn (.func g) fr cap) (.fn (.func g) fr cap))(hlw:Wk H.length (.slice tg 2 (l.map aV.row)) (.slice tg 2 (l.map aV.row)))
  (hp:∀ (L:List Y4) (i:Nat) (x:aV),l[i]?=some x→M.run g (fr ++ .int .i64 i :: .agg (aV.row x)::cap) (H++L)=some (.ret (.int .u8 (F i x)),H++L)) (most:Int) :
  M.run kg [.slice tg 2 (l.map aV.row),.int .i64 most,.fn (.func g) fr cap] H=some (.ret (.int .u8 (j9 most F l)),H):=by
 rw [au M hf rfl (c:=nF) rfl,nF];have hl:=fun k=>IR M (tg:=tg) hs hfw hlw hp (Zt H) k l.length 0 (by omega)
 simp only [Y6,Y8,amj,amf] at hl;simp (config:=apy) only [Zh M,↓Zi,Nat.reduceBEq,Nat.reduceAdd,env,ae,nG,hl];rw [ng,j9];cases decide (most<(l.length:Int))<;>rfl
theorem IT{H H0:List Y4}{g:Nat}{fr cap:List AV}{F:Nat→aT→Int}{tg:Tag}{l:List aT}(hs:l.length≤aZ)(hfw:Wk H.length (.fn (.func g) fr cap) (.fn (.func g) fr cap))(hlw:Wk H.length (.slice tg 4 (l.map aT.row)) (.slice tg 4 (l.map aT.row)))(hp:∀ (L:List Y4) (i:Nat) (x:aT),l[i]?=some x→M.run g (fr ++ .int .i64 i :: .agg (aT.row x)::cap) (H++L)=some (.ret (.int .u8 (F i x)),H++L))(hc:bY H0 H)(k:List ZA):∀ (n i:Nat),i+n=l.length →
  M.go ey H0 (.c gu :: .lp ⟨(some [2,14,15,16]),[],true⟩ gu H :: .ZU 0 :: .c (.lv [])::k) (kv [(2,.fn (.func g) fr cap),(14,.slice tg 4 (l.map aT.row)),(15,.int .i64 l.length),(16,.int .i64 i)]) H =
   orE (cL (qo F) i (l.drop i)) (H.take H0.length) (M.go ey H0 k .leaf H)
 |0,i,h=>by
  have e:i=l.length:=by omega
  subst e;rw [ah M gu.eq_1];simp (config:=apy) only [Zh M,↓Zi,Nat.reduceBEq,Nat.reduceAdd,env,ae,nI,ame,al9]
 |n+1,i,h=>by
  have hi:i<l.length:=by omega
  have hx:=al4 hi;have hd:=al6 hi;have hm:=amc hi;have ih:=IT (H:=H) (H0:=H0) (g:=g) (fr:=fr) (cap:=cap) (F:=F) (tg:=tg) (l:=l) (hs:=hs) (hfw:=hfw) (hlw:=hlw) (hp:=hp) hc k n (i+1)  (by omega);simp only [Y6,Y8] at ih;have hp:=fun L=>hp L i l[i] hx
  rw [ah M gu.eq_1];simp (config:=apy) only [Zh M,↓Zi,Nat.reduceBEq,Nat.reduceAdd,env,ae,nI,hx,hd,hi,ih,Zx,AV.cell,hp,hfw,hlw,bt hi hs,aE hi,kJ,qo,hc]
theorem IU(hf:E.fn kh=some ey){g:Nat}{fr cap:List AV}{F:Nat→aT→Int}{tg:Tag}{l:List aT}{H:List Y4}(hs:l.length≤aZ)(hfw:Wk H.length (.fn (.func g) fr cap) (.fn (.func g) fr cap))(hlw:Wk H.length (.slice tg 4 (l.map aT.row)) (.slice tg 4 (l.map aT.row)))
  (hp:∀ (L:List Y4) (i:Nat) (x:aT),l[i]?=some x→M.run g (fr ++ .int .i64 i :: .agg (aT.row x)::cap) (H++L)=some (.ret (.int .u8 (F i x)),H++L)) (most:Int) :
  M.run kh [.slice tg 4 (l.map aT.row),.int .i64 most,.fn (.func g) fr cap] H=some (.ret (.int .u8 (j9 most F l)),H):=by
 rw [au M hf rfl (c:=nH) rfl,nH];have hl:=fun k=>IT M (tg:=tg) hs hfw hlw hp (Zt H) k l.length 0 (by omega)
 simp only [Y6,Y8,amj,amf] at hl;simp (config:=apy) only [Zh M,↓Zi,Nat.reduceBEq,Nat.reduceAdd,env,ae,nI,hl];rw [ng,j9];cases decide (most<(l.length:Int))<;>rfl
theorem IV{H H0:List Y4}{g:Nat}{fr cap:List AV}{F:Nat→bL→Int}{tg:Tag}{l:List bL}(hs:l.length≤aZ)(hfw:Wk H.length (.fn (.func g) fr cap) (.fn (.func g) fr cap))(hlw:Wk H.length (.slice tg 4 (l.map bL.row)) (.slice tg 4 (l.map bL.row)))(hp:∀ (L:List Y4) (i:Nat) (x:bL),l[i]?=some x→M.run g (fr ++ .int .i64 i :: .agg (bL.row x)::cap) (H++L)=some (.ret (.int .u8 (F i x)),H++L))(hc:bY H0 H)(k:List ZA):∀ (n i:Nat),i+n=l.length →
  M.go ez H0 (.c gv :: .lp ⟨(some [2,14,15,16]),[],true⟩ gv H :: .ZU 0 :: .c (.lv [])::k) (kv [(2,.fn (.func g) fr cap),(14,.slice tg 4 (l.map bL.row)),(15,.int .i64 l.length),(16,.int .i64 i)]) H =
   orE (cL (qo F) i (l.drop i)) (H.take H0.length) (M.go ez H0 k .leaf H)
 |0,i,h=>by
  have e:i=l.length:=by omega
  subst e;rw [ah M gv.eq_1];simp (config:=apy) only [Zh M,↓Zi,Nat.reduceBEq,Nat.reduceAdd,env,ae,nK,ame,al9]
 |n+1,i,h=>by
  have hi:i<l.length:=by omega
  have hx:=al4 hi;have hd:=al6 hi;have hm:=amc hi;have ih:=IV (H:=H) (H0:=H0) (g:=g) (fr:=fr) (cap:=cap) (F:=F) (tg:=tg) (l:=l) (hs:=hs) (hfw:=hfw) (hlw:=hlw) (hp:=hp) hc k n (i+1)  (by omega);simp only [Y6,Y8] at ih;have hp:=fun L=>hp L i l[i] hx
  rw [ah M gv.eq_1];simp (config:=apy) only [Zh M,↓Zi,Nat.reduceBEq,Nat.reduceAdd,env,ae,nK,hx,hd,hi,ih,Zx,AV.cell,hp,hfw,hlw,bt hi hs,aE hi,C4,qo,hc]
theorem IW(hf:E.fn ki=some ez){g:Nat}{fr cap:List AV}{F:Nat→bL→Int}{tg:Tag}{l:List bL}{H:List Y4}(hs:l.length≤aZ)(hfw:Wk H.length (.fn (.func g) fr cap) (.fn (.func g) fr cap))(hlw:Wk H.length (.slice tg 4 (l.map bL.row)) (.slice tg 4 (l.map bL.row)))
  (hp:∀ (L:List Y4) (i:Nat) (x:bL),l[i]?=some x→M.run g (fr ++ .int .i64 i :: .agg (bL.row x)::cap) (H++L)=some (.ret (.int .u8 (F i x)),H++L)) (most:Int) :
  M.run ki [.slice tg 4 (l.map bL.row),.int .i64 most,.fn (.func g) fr cap] H=some (.ret (.int .u8 (j9 most F l)),H):=by
 rw [au M hf rfl (c:=nJ) rfl,nJ];have hl:=fun k=>IV M (tg:=tg) hs hfw hlw hp (Zt H) k l.length 0 (by omega)
 simp only [Y6,Y8,amj,amf] at hl;simp (config:=apy) only [Zh M,↓Zi,Nat.reduceBEq,Nat.reduceAdd,env,ae,nK,hl];rw [ng,j9];cases decide (most<(l.length:Int))<;>rfl
theorem Kz{H H0:List Y4}{g:Nat}{fr cap:List AV}{F:Nat→dn→Int}{tg:Tag}{l:List dn}(hs:l.length≤aZ)(hfw:Wk H.length (.fn (.func g) fr cap) (.fn (.func g) fr cap))(hlw:Wk H.length (.slice tg 3 (l.map dn.row)) (.slice tg 3 (l.map dn.row)))(hp:∀ (L:List Y4) (i:Nat) (x:dn),l[i]?=some x→M.run g (fr ++ .int .i64 i :: .agg (dn.row x)::cap) (H++L)=some (.ret (.int .u8 (F i x)),H++L))(hc:bY H0 H)(k:List ZA):∀ (n i:Nat),i+n=l.length →
  M.go eV H0 (.c gW :: .lp ⟨(some [2,14,15,16]),[],true⟩ gW H :: .ZU 0 :: .c (.lv [])::k) (kv [(2,.fn (.func g) fr cap),(14,.slice tg 3 (l.map dn.row)),(15,.int .i64 l.length),(16,.int .i64 i)]) H =
   orE (cL (qo F) i (l.drop i)) (H.take H0.length) (M.go eV H0 k .leaf H)
 |0,i,h=>by
  have e:i=l.length:=by omega
  subst e;rw [ah M gW.eq_1];simp (config:=apy) only [Zh M,↓Zi,Nat.reduceBEq,Nat.reduceAdd,env,ae,o9,ame,al9]
 |n+1,i,h=>by
  have hi:i<l.length:=by omega
  have hx:=al4 hi;have hd:=al6 hi;have hm:=amc hi;have ih:=Kz (H:=H) (H0:=H0) (g:=g) (fr:=fr) (cap:=cap) (F:=F) (tg:=tg) (l:=l) (hs:=hs) (hfw:=hfw) (hlw:=hlw) (hp:=hp) hc k n (i+1)  (by omega);simp only [Y6,Y8] at ih;have hp:=fun L=>hp L i l[i] hx
  rw [ah M gW.eq_1];simp (config:=apy) only [Zh M,↓Zi,Nat.reduceBEq,Nat.reduceAdd,env,ae,o9,hx,hd,hi,ih,Zx,AV.cell,hp,hfw,hlw,bt hi hs,aE hi,Gi,qo,hc]
theorem JQ(hf:E.fn lf=some eV){g:Nat}{fr cap:List AV}{F:Nat→dn→Int}{tg:Tag}{l:List dn}{H:List Y4}(hs:l.length≤aZ)(hfw:Wk H.length (.fn (.func g) fr cap) (.fn (.func g) fr cap))(hlw:Wk H.length (.slice tg 3 (l.map dn.row)) (.slice tg 3 (l.map dn.row)))
  (hp:∀ (L:List Y4) (i:Nat) (x:dn),l[i]?=some x→M.run g (fr ++ .int .i64 i :: .agg (dn.row x)::cap) (H++L)=some (.ret (.int .u8 (F i x)),H++L)) (most:Int) :
  M.run lf [.slice tg 3 (l.map dn.row),.int .i64 most,.fn (.func g) fr cap] H=some (.ret (.int .u8 (j9 most F l)),H):=by
 rw [au M hf rfl (c:=o8) rfl,o8];have hl:=fun k=>Kz M (tg:=tg) hs hfw hlw hp (Zt H) k l.length 0 (by omega)
 simp only [Y6,Y8,amj,amf] at hl;simp (config:=apy) only [Zh M,↓Zi,Nat.reduceBEq,Nat.reduceAdd,env,ae,o9,hl];rw [ng,j9];cases decide (most<(l.length:Int))<;>rfl
end
section
attribute [local congr] aF wb aG aX aL aH az aA aM aN
variable{E:br}(M:cH bM E)
def l8(c:UInt8):Bool:=decide (97≤(c.toNat:Int))&&decide ((c.toNat:Int)≤122)
theorem qp(h:E.fn cP=some iL)(c:UInt8)(H:List Y4):M.run cP [.int .u8 c.toNat] H=some (.ret (.bool (l8 c)),H):=by
 rw [au M h rfl (c:=wA) rfl,wA];simp +contextual -implicitDefEqProofs only [am1 M,am2,am3,am4,↓ZK,Nat.reduceBEq,Nat.reduceAdd,env,ae,(show iL.res=[.t 2] from rfl),(show iL.mode = .drop from rfl),(show iL.Z7=none from rfl),anL,ant,anc,amY,anz,anl,l8]
theorem IX(h:E.fn iu=some fM)(c:UInt8)(H:List Y4):M.run iu [.int .u8 c.toNat] H=some (.ret (.bool (l8 c)),H):=by
 rw [au M h rfl (c:=nP) rfl,nP];simp +contextual -implicitDefEqProofs only [am1 M,am2,am3,am4,↓ZK,Nat.reduceBEq,Nat.reduceAdd,env,ae,(show fM.res=[.t 2] from rfl),(show fM.mode = .drop from rfl),(show fM.Z7=none from rfl),anL,ant,anc,amY,anz,anl,l8]
def Nf(c:UInt8):Bool:=decide (33≤(c.toNat:Int))&&decide ((c.toNat:Int)≤126)
theorem Q6(h:E.fn p9=some kT)(c:UInt8)(H:List Y4):M.run p9 [.int .u8 c.toNat] H=some (.ret (.bool (Nf c)),H):=by
 rw [au M h rfl (c:=wG) rfl,wG];simp +contextual -implicitDefEqProofs only [am1 M,am2,am3,am4,↓ZK,Nat.reduceBEq,Nat.reduceAdd,env,ae,(show kT.res=[.t 2] from rfl),(show kT.mode = .drop from rfl),(show kT.Z7=none from rfl),anL,ant,anc,amY,anz,anl,Nf]
def GT(c:UInt8):Bool:=decide (65≤(c.toNat:Int))&&decide ((c.toNat:Int)≤90)
def Tb(c:UInt8):Bool:=decide (48≤(c.toNat:Int))&&decide ((c.toNat:Int)≤57)
theorem FB(hl:E.fn cP=some iL)(h:E.fn gp=some jG)(c:UInt8)(H:List Y4):M.run gp [.int .u8 c.toNat] H=some (.ret (.bool (l8 c||GT c)),H):=by
 rw [au M h rfl (c:=wD) rfl,wD];simp +contextual -implicitDefEqProofs only [am1 M,am2,am3,am4,↓ZK,Nat.reduceBEq,Nat.reduceAdd,env,ae,(show jG.res=[.t 2] from rfl),(show jG.mode = .drop from rfl),(show jG.Z7=none from rfl),anL,ant,anc,amY,anz,anl,qp M hl];cases l8 c<;>simp [Zv,GT]
end
section
attribute [local congr] aF wb aG aX aL aH az aA aM aN
variable{E:br}(M:cH bM E)
theorem Q7(hl:E.fn cP=some iL)(h1:E.fn gp=some jG)(h:E.fn mL=some kR)(c:UInt8){H:List Y4}{T:TypeId} :
  M.run mL [.int .u8 c.toNat,.ptr H.length 0] (H++[.cells [.fn (.func gp) [] []] T])=some (.ret (.bool (l8 c||GT c||Tb c||((c.toNat:Int) == 95))),H++[.cells [.fn (.func gp) [] []] T]):=by
 rw [au M h rfl (c:=wE) rfl,wE];simp +contextual -implicitDefEqProofs only [am1 M,am2,am3,am4,↓ZK,Nat.reduceBEq,Nat.reduceAdd,env,ae,(show kR.res=[.t 3] from rfl),(show kR.mode = .drop from rfl),(show kR.Z7=none from rfl),anL,ant,anc,amY,anz,anl,FB M hl h1,amH,amt];rw [show H.length+1=(H++[Y4.cells [AV.fn (Fn.func gp) [] []] T]).length by simp,anQ]
 rfl
theorem Ng{g:Nat}{fr cap:List AV}{p:UInt8→Bool}{s:List UInt8}(hs:s.length≤aZ){H:List Y4}(hp:∀ c:UInt8,M.run g (fr ++ .int .u8 c.toNat::cap) H=some (.ret (.bool (p c)),H))
  {H0:List Y4} (hc:bY H0 H) (k:List ZA):∀ (n i:Nat) (He:List Y4),i+n=s.length →
  M.go fA H0 (.c rA :: .lp ⟨some [0,1,7,8],[],false⟩ rA He :: .ZU 0 :: .c (.lv [])::k) (kv [(0,.str s),(1,.fn (.func g) fr cap),(7,.int .i64 s.length),(8,.int .i64 i)]) H =
   Zv ((s.drop i).all p) (M.go fA H0 k .leaf H) (some (.ret (.bool false),H.take H0.length))
 |0,i,He,h=>by
  have e:i=s.length:=by omega
  subst e;rw [ah M rA.eq_1];simp +contextual -implicitDefEqProofs only [am1 M,am2,am3,am4,↓ZK,Nat.reduceBEq,Nat.reduceAdd,(show fA.res=[.t 4] from rfl),(show fA.mode = .drop from rfl),(show fA.Z7=none from rfl),anL,ant,ano,anj,ame,al9,aov]
 |n+1,i,He,h=>by
  have hi:i<s.length:=by omega
  have hx:=al4 hi;have hd:=al6 hi;have ih:=Ng hs hp hc k n (i+1) H (by omega);simp only [Y6,Y8] at ih;rw [ah M rA.eq_1];simp +contextual -implicitDefEqProofs only [am1 M,am2,am3,am4,↓ZK,Nat.reduceBEq,Nat.reduceAdd,(show fA.res=[.t 4] from rfl),(show fA.mode = .drop from rfl),(show fA.Z7=none from rfl),anL,ant,ano,anj,hx,hp,bt hi hs,hi,hc,ih,hd,anq]
theorem Hc(hf:E.fn p7=some fA){g:Nat}{fr cap:List AV}{p:UInt8→Bool}{s:List UInt8}(hs:s.length≤aZ){H:List Y4}(hp:∀ c:UInt8,M.run g (fr ++ .int .u8 c.toNat::cap) H=some (.ret (.bool (p c)),H)) :
  M.run p7 [.str s,.fn (.func g) fr cap] H=some (.ret (.bool (s.all p)),H):=by
 rw [au M hf rfl (c:=BM) rfl,BM];have hl:=fun k He=>Ng M hs hp (Zt H) k s.length 0 He (by omega)
 simp only [Y6,Y8,amj,amf] at hl;simp +contextual -implicitDefEqProofs only [am1 M,am2,am3,am4,↓ZK,Nat.reduceBEq,Nat.reduceAdd,env,ae,(show fA.res=[.t 4] from rfl),(show fA.mode = .drop from rfl),(show fA.Z7=none from rfl),hl];rw [anc]
structure dx (E:br):Prop where
 letter:E.fn cP=some iL
 agp:E.fn iu=some fM
 agm:E.fn gp=some jG
 alg:E.fn mL=some kR
 alf:E.fn p9=some kT
 all:E.fn p7=some fA
 name:E.fn sW=some kq
 word:E.fn zI=some qI
 plain:E.fn uh=some oH
 ald:E.fn jA=some b9
 akU:E.fn p8=some ca
 ajv:E.fn ja=some jj
 rof:E.fn cV=some bh
def KA(s:List UInt8):Bool:=decide (1≤(s.length:Int))&&decide ((s.length:Int)≤24)&&s.all Nf
theorem Tc(hE:dx E){s:List UInt8}(hs:s.length≤aZ)(H:List Y4):M.run zI [.str s] H=some (.ret (.bool (KA s)),H):=by
 rw [au M hE.word rfl (c:=zU) rfl,zU];have ha:=Hc M hE.all (g:=p9) (fr:=[]) (cap:=[]) hs (H:=H) (fun c=>Q6 M hE.alf c H);simp +contextual -implicitDefEqProofs only [am1 M,am2,am3,am4,↓ZK,Nat.reduceBEq,Nat.reduceAdd,env,ae,anL,ant,ano,anj,anc,amY,anz,anl,amH,amt,(show qI.res=[.t 2] from rfl),(show qI.mode = .drop from rfl),(show qI.Z7=none from rfl),ha,KA]
def sw(s:List UInt8):Bool:=KA s&&s.all l8
theorem FC(hE:dx E){s:List UInt8}(hs:s.length≤aZ)(H:List Y4):M.run uh [.str s] H=some (.ret (.bool (sw s)),H):=by
 rw [au M hE.plain rfl (c:=xX) rfl,xX];have ha:=Hc M hE.all (g:=cP) (fr:=[]) (cap:=[]) hs (H:=H) (fun c=>qp M hE.letter c H);simp +contextual -implicitDefEqProofs only [am1 M,am2,am3,am4,↓ZK,Nat.reduceBEq,Nat.reduceAdd,env,ae,anL,ant,ano,anj,anc,amY,anz,anl,amH,amt,(show oH.res=[.t 2] from rfl),(show oH.mode = .drop from rfl),(show oH.Z7=none from rfl),ha,Tc M hE hs,sw]
end
section
attribute [local congr] aF wb aG aX aL aH az aA aM aN
variable{E:br}(M:cH bM E)
def OE(c:UInt8):Bool:=l8 c||GT c||Tb c||((c.toNat:Int) == 95)
def nh(s:List UInt8):Bool:=match s with
 |[]=>false
 |c::t=>decide ((((c::t).length:Nat):Int)≤12)&&(l8 c||GT c)&&(c::t).all OE
theorem IY(hE:dx E){s:List UInt8}(hs:s.length≤aZ)(H:List Y4):M.run sW [.str s] H=some (.ret (.bool (nh s)),H):=by
 rw [au M hE.name rfl (c:=zQ) rfl,zQ];have h2:∀ (T:TypeId) (c:UInt8),M.run mL ([] ++ .int .u8 c.toNat::[.ptr H.length 0]) (H++[.cells [.fn (.func gp) [] []] T])=some (.ret (.bool (OE c)),H++[.cells [.fn (.func gp) [] []] T]):=fun T c=>Q7 M hE.letter hE.agm hE.alg c
 have ha:=fun T=>Hc M hE.all (g:=mL) (fr:=[]) (cap:=[.ptr H.length 0]) hs (h2 T)
 cases s with
 |nil=>
  simp +contextual -implicitDefEqProofs only [am1 M,am2,am3,am4,am5,abe,aa5,anG,amk,amw,amJ,amp,anq,aov,AV.cell,amW,↓ZK,Nat.reduceBEq,Nat.reduceAdd,env,ae,anL,ant,ano,anj,anc,amY,anz,anl,amH,amt,(show kq.res=[.t 2] from rfl),(show kq.mode = .drop from rfl),(show kq.Z7=none from rfl),ha,FB M hE.letter hE.agm,nh,amw,List.getElem?_nil,(show decide ((1:Int)≤((0:Nat):Int))=false from rfl)]
 |cons c t=>
  have hlen:decide ((1:Int)≤((t.length+1:Nat):Int))=true:=amu (by omega);simp +contextual -implicitDefEqProofs only [am1 M,am2,am3,am4,am5,abe,aa5,anG,amk,amw,amJ,amp,anq,aov,AV.cell,amW,↓ZK,Nat.reduceBEq,Nat.reduceAdd,env,ae,anL,ant,ano,anj,anc,amY,anz,anl,amH,amt,(show kq.res=[.t 2] from rfl),(show kq.mode = .drop from rfl),(show kq.Z7=none from rfl),ha,FB M hE.letter hE.agm,nh,amx,hlen]
end
section
attribute [local congr] aF wb aG aX aL aH az aA aM aN
variable{E:br}(M:cH bM E)
def Hd(c:UInt8):Bool:=decide ((c.toNat:Int)<33)||decide (126<(c.toNat:Int))
theorem Q8:(fun c => !Hd c)=Nf:=by
 funext c;rw [anw];simp [Hd,Nf]
theorem IZ{s:List UInt8}(hs:s.length≤aZ){H H0:List Y4}(hc:bY H0 H)(k:List ZA):∀ (n i:Nat) (He:List Y4),i+n=s.length →
  M.go ca H0 (.c iO :: .lp ⟨some [0,3],[],false⟩ iO He :: .ZU 0 :: .c (.lv [])::k) (kv [(0,.str s),(3,.int .i64 i)]) H =
   Zv ((s.drop i).all fun c => !Hd c) (M.go ca H0 k .leaf H) (some (.ret (.bool false),H.take H0.length))
 |0,i,He,h=>by
  have e:i=s.length:=by omega
  subst e;rw [ah M iO.eq_1];simp +contextual -implicitDefEqProofs only [am1 M,am2,am3,am4,↓ZK,Nat.reduceBEq,Nat.reduceAdd,(show ca.res=[.t 2] from rfl),(show ca.mode = .drop from rfl),(show ca.Z7=none from rfl),anL,ant,ano,anj,ame,al9,aov]
 |n+1,i,He,h=>by
  have hi:i<s.length:=by omega
  have hx:=al4 hi;have hd:=al6 hi;have ih:=IZ hs hc k n (i+1) H (by omega);simp only [Y6,Y8] at ih;rw [ah M iO.eq_1];simp +contextual -implicitDefEqProofs only [am1 M,am2,am3,am4,↓ZK,Nat.reduceBEq,Nat.reduceAdd,(show ca.res=[.t 2] from rfl),(show ca.mode = .drop from rfl),(show ca.Z7=none from rfl),anL,ant,ano,anj,hx,bt hi hs,hi,hc,ih,hd,anq,Hd]
  generalize (decide ((s[i].toNat:Int)<33)||decide ((126:Int)<(s[i].toNat:Int)))=b;cases b<;>simp only [Zv,anW,anS,amY,anl]
theorem Q9(hE:dx E){s:List UInt8}(hs:s.length≤aZ)(H:List Y4):M.run p8 [.str s] H=some (.ret (.bool (KA s)),H):=by
 rw [au M hE.akU rfl (c:=ql) rfl,ql];have hl:=fun k He=>IZ M hs (Zt H) k s.length 0 He (by omega)
 simp only [Y6,Y8,amj,amf] at hl;simp +contextual -implicitDefEqProofs only [am1 M,am2,am3,am4,↓ZK,Nat.reduceBEq,Nat.reduceAdd,env,ae,(show ca.res=[.t 2] from rfl),(show ca.mode = .drop from rfl),(show ca.Z7=none from rfl),anL,ant,ano,anj,hl];rw [anc,Q8,KA]
 have e:(!(decide ((s.length:Int)<1)||decide ((24:Int)<(s.length:Int))))=(decide ((1:Int)≤(s.length:Int))&&decide ((s.length:Int)≤24)):=by
  rw [anw];simp
 rw [e]
theorem OF(hE:dx E){s:List UInt8}(hs:s.length≤aZ)(H:List Y4)(hof:M.run cV [.str s,.str []] H=some (.ret (.bool (s.all l8)),H)):M.run ja [.str s] H=some (.ret (.bool (sw s)),H):=by
 rw [au M hE.ajv rfl (c:=pr) rfl,pr];simp +contextual -implicitDefEqProofs only [am1 M,am2,am3,am4,↓ZK,Nat.reduceBEq,Nat.reduceAdd,env,ae,(show jj.res=[.t 2] from rfl),(show jj.mode = .drop from rfl),(show jj.Z7=none from rfl),anL,ant,ano,anj,anc,amY,anz,anl,amH,amt,Q9 M hE hs,hof,sw]
end
section
attribute [local congr] aF wb aG aX aL aH az aA aM aN
variable{E:br}(M:cH bM E)
theorem Wq{s more:List UInt8}(hs:s.length≤aZ)(hm:more.length≤aZ){j:Nat}(hj:j<s.length){H H0:List Y4}(k:List ZA):∀ (n i:Nat) (b:Bool) (He:List Y4),i+n=more.length →
  M.go bh H0 (.c jB :: .lp ⟨some [0,1,5,6,7],[],false⟩ jB He :: .ZU 2 :: .c (.lv [0,1,5,6])::k) (kv [(0,.str s),(1,.str more),(5,.int .i64 j),(6,.bool b),(7,.int .i64 i)]) H =
   M.go bh H0 k (kv [(0,.str s),(1,.str more),(5,.int .i64 j),(6,.bool (b||(more.drop i).any fun c=>((s[j].toNat:Int) == (c.toNat:Int))))]) H
 |0,i,b,He,h=>by
  have e:i=more.length:=by omega
  subst e;rw [ah M jB.eq_1];simp +contextual -implicitDefEqProofs only [am1 M,am2,am3,am4,am5,↓ZK,Nat.reduceBEq,Nat.reduceAdd,(show bh.res=[.t 4] from rfl),(show bh.mode = .drop from rfl),(show bh.Z7=none from rfl),anL,ant,ano,anj,ame,al9,aow,aoo]
 |n+1,i,b,He,h=>by
  have hi:i<more.length:=by omega
  have hx:=al4 hi;have hxj:s[j]?=some s[j]:=al4 hj;have hd:=al6 hi;have ih:=fun b=>Wq hs hm hj (H:=H) (H0:=H0) k n (i+1) b H (by omega)
  simp only [Y6,Y8] at ih;rw [ah M jB.eq_1];simp +contextual -implicitDefEqProofs only [am1 M,am2,am3,am4,am5,↓ZK,Nat.reduceBEq,Nat.reduceAdd,(show bh.res=[.t 4] from rfl),(show bh.mode = .drop from rfl),(show bh.Z7=none from rfl),anL,ant,ano,anj,hx,hxj,bt hi hm,hi,ih,hd,anr,an4]
def ofF(more:List UInt8)(s:List UInt8):Bool:=s.all fun c=>l8 c||more.any fun d=>c.toNat == d.toNat
theorem Td(more:List UInt8)(c:UInt8)(l:List UInt8):ofF more (c::l)=((l8 c||more.any fun d=>c.toNat == d.toNat)&&ofF more l):=by
 simp only [ofF,anq]
theorem Te(hE:dx E){s more:List UInt8}(hs:s.length≤aZ)(hm:more.length≤aZ){H H0:List Y4}(hc:bY H0 H)(k:List ZA):∀ (n i:Nat) (He:List Y4),i+n=s.length →
  M.go bh H0 (.c jC :: .lp ⟨some [0,1,5],[],false⟩ jC He :: .ZU 0 :: .c (.lv [])::k) (kv [(0,.str s),(1,.str more),(5,.int .i64 i)]) H =
   Zv (ofF more (s.drop i)) (M.go bh H0 k .leaf H) (some (.ret (.bool false),H.take H0.length))
 |0,i,He,h=>by
  have e:i=s.length:=by omega
  subst e;rw [ah M jC.eq_1];simp +contextual -implicitDefEqProofs only [am1 M,am2,am3,am4,am5,↓ZK,Nat.reduceBEq,Nat.reduceAdd,(show bh.res=[.t 4] from rfl),(show bh.mode = .drop from rfl),(show bh.Z7=none from rfl),anL,ant,ano,anj,ame,al9,ofF,aov]
 |n+1,i,He,h=>by
  have hi:i<s.length:=by omega
  have hx:=al4 hi;have hd:=al6 hi;have ih:=Te hE hs hm hc k n (i+1) H (by omega);have hin:=fun k b He=>Wq M hs hm hi (H:=H) (H0:=H0) k more.length 0 b He (by omega)
  simp only [Y6,Y8,amj,amf] at ih hin;rw [ah M jC.eq_1];simp +contextual -implicitDefEqProofs only [am1 M,am2,am3,am4,am5,↓ZK,Nat.reduceBEq,Nat.reduceAdd,(show bh.res=[.t 4] from rfl),(show bh.mode = .drop from rfl),(show bh.Z7=none from rfl),anL,ant,ano,anj,hx,bt hi hs,hi,hin,ih,hd,hc,amH,amt,IX M hE.agp];rw [Td]
theorem Ar(hE:dx E){s more:List UInt8}(hs:s.length≤aZ)(hm:more.length≤aZ)(H:List Y4):M.run cV [.str s,.str more] H=some (.ret (.bool (ofF more s)),H):=by
 rw [au M hE.rof rfl (c:=sj) rfl,sj];have hl:=fun k He=>Te M hE hs hm (Zt H) k s.length 0 He (by omega)
 simp only [Y6,Y8,amj,amf] at hl;simp +contextual -implicitDefEqProofs only [am1 M,am2,am3,am4,↓ZK,Nat.reduceBEq,Nat.reduceAdd,env,ae,(show bh.res=[.t 4] from rfl),(show bh.mode = .drop from rfl),(show bh.Z7=none from rfl),anL,ant,ano,anj,hl,anc]
theorem LU(s:List UInt8):ofF [] s=s.all l8:=by
 simp only [ofF,aow,aoo]
theorem xA(hE:dx E){s:List UInt8}(hs:s.length≤aZ)(H:List Y4):M.run ja [.str s] H=some (.ret (.bool (sw s)),H):=
 OF M hE hs H (by rw [Ar M hE hs (by simp) H,LU])
end
section
attribute [local congr] aF wb aG aX aL aH az aA aM aN
variable{E:br}(M:cH bM E)
def OG(i:Nat)(c:UInt8):Bool := !l8 c && !GT c&&(((i:Int) == 0)||(!Tb c && !((c.toNat:Int) == 95)))
def okR:Nat→List UInt8→Bool
 |_,[]=>true
 |i,c::l => !OG i c&&okR (i+1) l
theorem I0(hE:dx E){s:List UInt8}(hs:s.length≤aZ){H H0:List Y4}(hc:bY H0 H)(k:List ZA):∀ (n i:Nat) (He:List Y4),i+n=s.length →
  M.go b9 H0 (.c iM :: .lp ⟨some [0,3],[],false⟩ iM He :: .ZU 0 :: .c (.lv [])::k) (kv [(0,.str s),(3,.int .i64 i)]) H =
   Zv (okR i (s.drop i)) (M.go b9 H0 k .leaf H) (some (.ret (.bool false),H.take H0.length))
 |0,i,He,h=>by
  have e:i=s.length:=by omega
  subst e;rw [ah M iM.eq_1];simp +contextual -implicitDefEqProofs only [am1 M,am2,am3,am4,↓ZK,Nat.reduceBEq,Nat.reduceAdd,(show b9.res=[.t 2] from rfl),(show b9.mode = .drop from rfl),(show b9.Z7=none from rfl),anL,ant,ano,anj,ame,al9,okR]
 |n+1,i,He,h=>by
  have hi:i<s.length:=by omega
  have hx:=al4 hi;have hd:=al6 hi;have ih:=I0 hE hs hc k n (i+1) H (by omega);simp only [Y6,Y8] at ih;rw [ah M iM.eq_1];simp (maxSteps:=3000000) +contextual -implicitDefEqProofs only [am1 M,am2,am3,am4,↓ZK,Nat.reduceBEq,Nat.reduceAdd,(show b9.res=[.t 2] from rfl),(show b9.mode = .drop from rfl),(show b9.Z7=none from rfl),anL,ant,ano,anj,hx,bt hi hs,hi,hc,ih,hd,okR,amH,amt,IX M hE.agp]
  change Zv (OG i s[i]) _ _=_;generalize OG i s[i]=b;cases b<;>simp only [Zv,anW,anS,amY,anl]
theorem Ra(i:Nat)(c:UInt8):OG (i+1) c = !OE c:=by
 have h:(((i+1:Nat):Int) == 0)=false:=by simp;omega
 unfold OG OE;rw [h];cases l8 c<;>cases GT c<;>cases Tb c<;>cases ((c.toNat:Int) == 95)<;>rfl
theorem Nh:∀ (l:List UInt8) (i:Nat),okR (i+1) l=l.all OE
 |[],_=>rfl
 |c::l,i=>by rw [okR,Nh l,Ra,Bool.not_not,anq]
theorem Tg(c:UInt8)(l:List UInt8):okR 0 (c::l)=((l8 c||GT c)&&(c::l).all OE):=by
 rw [okR,Nh,anq]
 have h:OG 0 c = !(l8 c||GT c):=by
  unfold OG;cases l8 c<;>cases GT c<;>rfl
 have h2:∀ b:Bool,OE c=(l8 c||GT c||Tb c||((c.toNat:Int) == 95)):=fun _=>rfl
 rw [h,h2 true];cases l8 c<;>cases GT c<;>simp
theorem FD(hE:dx E){s:List UInt8}(hs:s.length≤aZ)(H:List Y4):M.run jA [.str s] H=some (.ret (.bool (nh s)),H):=by
 rw [au M hE.ald rfl (c:=qk) rfl,qk];have hl:=fun k He=>I0 M hE hs (Zt H) k s.length 0 He (by omega)
 simp only [Y6,Y8,amj,amf] at hl;simp +contextual -implicitDefEqProofs only [am1 M,am2,am3,am4,↓ZK,Nat.reduceBEq,Nat.reduceAdd,env,ae,(show b9.res=[.t 2] from rfl),(show b9.mode = .drop from rfl),(show b9.Z7=none from rfl),anL,ant,ano,anj,hl,anc]
 have e:(!(decide ((s.length:Int)<1)||decide ((12:Int)<(s.length:Int)))&&okR 0 s)=nh s:=by
  cases s with
  |nil=>rfl
  |cons c t=>
   rw [Tg,nh];have h1:decide (((c::t).length:Int)<1)=false:=amq (by simp only [amk];omega)
   have h2:(!decide ((12:Int)<((c::t).length:Int)))=decide (((c::t).length:Int)≤12):=by
    rw [anw];simp
   rw [h1,anH,h2,Bool.and_assoc]
 rw [e]
end
section
attribute [local congr] aF aS cC bn aG aX aL aH az aA aM aN
variable{E:br}(M:cH bM E)
structure ov (E:br):Prop where
 abH:E.fn ke=some fL
 aaT:E.fn j3=some dI
 aaK:E.fn ft=some fv
 abq:E.fn jI=some jP
 ZS:E.fn bZ=some bz
 aah:E.fn dt=some cr
 abU:E.fn k6=some gl
 abI:E.fn kf=some eu
 adj:E.fn rM=some rT
 abr:E.fn jJ=some jQ
 ZI:E.fn b7=some bA
 aai:E.fn du=some ct
 adW:E.fn ju=some uo
 aa7:E.fn iv=some iN
 abd:E.fn jv=some jx
 abY:E.fn ll=some eX
 abG:E.fn ir=some kr
 abj:E.fn jK=some jR
 ab0:E.fn lg=some eW
 abR:E.fn k7=some lq
 abC:E.fn kg=some ew
 adk:E.fn rN=some rU
 abk:E.fn jN=some jU
 Z9:E.fn bV=some aU
 Z5:E.fn cj=some bP
 acS:E.fn lW=some pI
 ab7:E.fn lK=some rY
 abo:E.fn jL=some jS
 aat:E.fn cQ=some bB
 aag:E.fn dv=some cu
 acR:E.fn pG=some pJ
 ZY:E.fn c8=some bG
 ZR:E.fn cI=some cK
 adq:E.fn rR=some sd
 adU:E.fn xN=some uq
 abp:E.fn jM=some jT
 aaw:E.fn c7=some bF
 aam:E.fn dC=some cJ
 ab2:E.fn k8=some gm
 abJ:E.fn kh=some ey
 adf:E.fn rO=some rV
 adJ:E.fn mJ=some s9
 adM:E.fn p6=some tc
 abZ:E.fn k9=some lA
 abz:E.fn ki=some ez
 ads:E.fn rP=some rW
 acg:E.fn lV=some lY
 ab5:E.fn lf=some eV
 adp:E.fn rQ=some rX
 ad1:E.fn xM=some oG
 adZ:E.fn ml=some uk
def eO(e:Int):Option AV:=Zv (!(e == 0)) (some (.int .u8 e)) none
theorem l9{α:Type}(F:Nat→α→Int)(i:Nat)(x:α):qo F i x=eO (F i x):=rfl
theorem Th(b:Bool)(e e':Int):eO (Zv b e e')=Zv b (eO e) (eO e'):=by cases b<;>rfl
theorem En{α:Type}(F:Nat→α→Int):∀ (l:List α) (i:Nat),eO (tF F i l)=cL (qo F) i l
 |[],_=>rfl
 |x::l,i=>by
  rw [tF,np,← En F l,Th];unfold qo eO;cases h:(F i x == 0)<;>simp [Zv,orO,h]
theorem LV(e:Int)(H:List Y4)(x:Option Out):orE (eO e) H x=Zv (e == 0) x (some (.ret (.int .u8 e),H)):=by
 unfold eO;cases e == 0<;>rfl
theorem qE:(∀ (b:Bool) (e e':Int),eO (slc b e e')=slc b (eO e) (eO e'))∧eO 0=none∧eO 1=some (.int .u8 1)∧eO 3=some (.int .u8 3)∧eO 5=some (.int .u8 5)∧eO 6=some (.int .u8 6)∧eO 7=some (.int .u8 7)∧eO 10=some (.int .u8 10):=
 ⟨Th,rfl,rfl,rfl,rfl,rfl,rfl,rfl⟩
theorem sx{α:Type}(p:α→Bool):∀ (l:List α) (i:Nat),(vY p i l = -1∧l.find? p=none)∨∃ (j:Nat) (x:α),vY p i l=((i+j:Nat):Int)∧l[j]?=some x∧l.find? p=some x
 |[],_=>.inl ⟨rfl,rfl⟩
 |x::l,i=>by
  cases h:p x with
  |true=>exact .inr ⟨0,x,by simp [vY,h,Zv],rfl,by simp [h]⟩
  |false=>
   rcases sx p l (i+1) with ⟨h1,h2⟩ | ⟨j,y,h1,h2,h3⟩
   ·exact .inl ⟨by simp [vY,h,Zv,h1],by simp [h,h2]⟩
   ·exact .inr ⟨j+1,y,by simp [vY,h,Zv,h1];omega,by simpa using h2,by simp [h,h3]⟩
theorem ZX{H H0:List Y4}{v:Zc}{tg:Tag}{l:List Zc}(hs:l.length≤aZ)(hc:bY H0 H)(k:List ZA):∀ (n i:Nat) (He:List Y4),i+n=l.length →
  M.go dI H0 (.c ee :: .lp ⟨(some [0,1,7,8]),[],false⟩ ee He :: .ZU 0 :: .c (.lv [])::k) (kv [(0,.slice tg 1 (l.map ak)),(1,.str v),(7,.int .i64 l.length),(8,.int .i64 i)]) H =
   orE (cL (za fun s=>v == s) i (l.drop i)) (H.take H0.length) (M.go dI H0 k .leaf H)
 |0,i,He,h=>by
  have e:i=l.length:=by omega
  subst e;rw [ah M ee.eq_1];simp (config:=apy) only [Zh M,↓Zi,Nat.reduceBEq,Nat.reduceAdd,env,ae,j6,ame,al9]
 |n+1,i,He,h=>by
  have hi:i<l.length:=by omega
  have hx:=al4 hi;have hd:=al6 hi;have hm:=amc hi;have ih:=fun He=>ZX (H:=H) (H0:=H0) (v:=v) (tg:=tg) (l:=l) (hs:=hs) hc k n (i+1)  He (by omega)
  simp only [Y6,Y8] at ih;rw [ah M ee.eq_1];simp (config:=apy) only [Zh M,↓Zi,Nat.reduceBEq,Nat.reduceAdd,env,ae,j6,hx,hd,hi,ih,bt hi hs,aE hi,dh,za,hc]
theorem At(hE:ov E){v:Zc}{tg:Tag}{l:List Zc}(hs:l.length≤aZ)(H:List Y4):M.run ft [.slice tg 1 (l.map ak),.str v] H=some (.ret (.bool (l.any fun s=>v == s)),H):=by
 have h1:M.run j3 [.slice tg 1 (l.map ak),.str v] H=some (.ret (.int .i64 (vY (fun s=>v == s) 0 l)),H):=by
  rw [au M hE.aaT rfl (c:=j5) rfl,j5];have hl:=fun k He=>ZX M (tg:=tg) (v:=v) hs (Zt H) k l.length 0 He (by omega)
  simp only [Y6,Y8,amj,amf] at hl;simp (config:=apy) only [Zh M,↓Zi,Nat.reduceBEq,Nat.reduceAdd,env,ae,j6,hl];exact oJ _ l 0 H
 rw [au M hE.aaK rfl (c:=iU) rfl,iU];simp (config:=apy) only [Zh M,↓Zi,Nat.reduceBEq,Nat.reduceAdd,env,ae,tM,h1,xz]
def AL(c:UInt8):Bool:=l8 c||((c.toNat:Int) == 43)
def CL(c:UInt8):Bool:=AL c||((c.toNat:Int) == 35)||((c.toNat:Int) == 86)||((c.toNat:Int) == 67)
theorem I1(hN:dx E)(hE:ov E)(c:UInt8)(H:List Y4):M.run mJ [.int .u8 c.toNat] H=some (.ret (.bool (AL c)),H):=by
 rw [au M hE.adJ rfl (c:=wB) rfl,wB];simp (config:=apy) only [Zh M,↓Zi,Nat.reduceBEq,Nat.reduceAdd,env,ae,Iz,qp M hN.letter,AL]
theorem OH(hN:dx E)(hE:ov E)(c:UInt8)(H:List Y4):M.run p6 [.int .u8 c.toNat] H=some (.ret (.bool (CL c)),H):=by
 rw [au M hE.adM rfl (c:=wC) rfl,wC];simp (config:=apy) only [Zh M,↓Zi,Nat.reduceBEq,Nat.reduceAdd,env,ae,IA,I1 M hN hE,CL,an4]
def jq(p:UInt8→Bool)(s:Zc):Bool:=decide ((s.length:Int)≤6)&&s.all p
theorem zd(hN:dx E)(hE:ov E){g:Nat}{fr cap:List AV}{p:UInt8→Bool}{s:Zc}(hs:s.length≤aZ){H:List Y4}(hp:∀ c:UInt8,M.run g (fr ++ .int .u8 c.toNat::cap) H=some (.ret (.bool (p c)),H)) :
  M.run ju [.str s,.fn (.func g) fr cap] H=some (.ret (.bool (jq p s)),H):=by
 rw [au M hE.adW rfl (c:=xW) rfl,xW];simp (config:=apy) only [Zh M,↓Zi,Nat.reduceBEq,Nat.reduceAdd,env,ae,JE,Hc M hN.all hs hp,jq]
def Ni(v:Zc):Nat→UInt8→Bool
 |0,c => !l8 c
 |i+1,c => !l8 c||(match v[i]? with
  |some d=>decide ((c.toNat:Int)≤(d.toNat:Int))
  |none=>false)
theorem KB(v:Zc)(c:UInt8):Ni v 0 c = !l8 c:=rfl
theorem KC{v:Zc}{i:Nat}{d:UInt8}(h:v[i]?=some d)(c:UInt8):Ni v (i+1) c=(!l8 c||decide ((c.toNat:Int)≤(d.toNat:Int))):=by simp only [Ni,h]
theorem Z3{H H0:List Y4}(hN:dx E){v:Zc}(hs:v.length≤aZ)(hc:bY H0 H)(k:List ZA):∀ (n i:Nat) (He:List Y4),i+n=v.length →
  M.go fL H0 (.c eP :: .lp ⟨(some [3,9,10]),[],false⟩ eP He :: .ZU 0 :: .c (.lv [])::k) (kv [(3,.str v),(9,.int .i64 v.length),(10,.int .i64 i)]) H =
   orE (cL (qo fun i c=>Zv (Ni v i c) 1 0) i (v.drop i)) (H.take H0.length) (M.go fL H0 k .leaf H)
 |0,i,He,h=>by
  have e:i=v.length:=by omega
  subst e;rw [ah M eP.eq_1];simp (config:=apy) only [Zh M,↓Zi,Nat.reduceBEq,Nat.reduceAdd,env,ae,ko,ame,al9]
 |n+1,i,He,h=>by
  have hi:i<v.length:=by omega
  have hx:=al4 hi;have hd:=al6 hi;have hm:=amc hi;have ih:=fun He=>Z3 (H:=H) (H0:=H0) (hN:=hN) (v:=v) (hs:=hs) hc k n (i+1)  He (by omega)
  simp only [Y6,Y8] at ih;cases i with
  |zero=>
   rw [ah M eP.eq_1];simp (config:=apy) only [Zh M,↓Zi,Nat.reduceBEq,Nat.reduceAdd,env,ae,ko,hx,hd,hi,ih,bt hi hs,qp M hN.letter,hc,l9,qE,KB,(show decide ((0:Int)<((0:Nat):Int))=false from rfl)]
  |succ j=>
   have hj:j<v.length:=by omega
   have hxj:v[j]?=some v[j]:=al4 hj;rw [ah M eP.eq_1];simp (config:=apy) only [Zh M,↓Zi,Nat.reduceBEq,Nat.reduceAdd,env,ae,ko,hx,hd,hi,ih,bt hi hs,E7 (show j+1≤aZ by omega),hxj,qp M hN.letter,hc,l9,qE,KC hxj,(show decide ((0:Int)<((j+1:Nat):Int))=true from amu (by omega))]
def Nj(l:Lex):Int:=tF (fun i c=>Zv (Ni l.Zs i c) 1 0) 0 l.Zs
theorem OI(hN:dx E)(hE:ov E){l:Lex}{n:Nat}(hl:l.ok n)(H:List Y4):M.run ke [.agg l.row] H=some (.ret (.int .u8 (Nj l)),H):=by
 rw [au M hE.abH rfl (c:=nC) rfl,nC];have hl:=fun k L He=>Z3 M hN hl.Zs (Zz H L) k l.Zs.length 0 He (by omega)
 simp only [Y6,Y8,amj,amf] at hl;simp (config:=apy) only [Zh M,↓Zi,Nat.reduceBEq,Nat.reduceAdd,env,ae,ko,hl,dD,Zz];exact ng _ _ 0 H
end
section
attribute [local congr] aF aS cC bn aG aX aL aH az aA aM aN
variable{E:br}(M:cH bM E)
theorem Nk(hE:ov E)(o t:bf){H:List Y4}{q:Nat}{T:TypeId}(hq:H[q]?=some (.cells t.row T)):M.run jI [.agg o.row,.ptr q 0] H=some (.ret (.bool (o.name == t.name)),H):=by
 rw [au M hE.abq rfl (c:=mX) rfl,mX];simp (config:=apy) only [Zh M,↓Zi,Nat.reduceBEq,Nat.reduceAdd,env,ae,yD,kI,hq,bR hq]
def Ti(t:bf)(k:Nat)(v:Zc):Int:=Zv (!nh v) 5 (Zv ((t.values.l.take k).any fun s=>v == s) 6 0)
theorem trl{H H0:List Y4}(hN:dx E)(hE:ov E){t:bf}{n0:Nat}(ht:t.ok n0){p:Nat}{T:TypeId}(hp:H[p]?=some (.cells t.row T))(hc:bY H0 H)(k:List ZA):∀ (n i:Nat) (He:List Y4),i+n=(t.values.l).length →
  M.go gl H0 (.c gU :: .lp ⟨(some [5,33,34,35]),[],false⟩ gU He :: .ZU 1 :: .c (.lv [])::k) (kv [(5,.ptr p 0),(33,.slice t.values.tag 1 (t.values.l.map ak)),(34,.int .i64 t.values.l.length),(35,.int .i64 i)]) H =
   orE (cL (qo (Ti t)) i (t.values.l.drop i)) (H.take H0.length) (M.go gl H0 k .leaf H)
 |0,i,He,h=>by
  have e:i=(t.values.l).length:=by omega
  subst e;rw [ah M gU.eq_1];simp (config:=apy) only [Zh M,↓Zi,Nat.reduceBEq,Nat.reduceAdd,env,ae,oY,ame,al9]
 |n+1,i,He,h=>by
  have hi:i<(t.values.l).length:=by omega
  have hx:=al4 hi;have hd:=al6 hi;have hm:=amc hi;have ih:=fun He=>trl (H:=H) (H0:=H0) (hN:=hN) (hE:=hE) (t:=t) (n0:=n0) (ht:=ht) (p:=p) (T:=T) (hp:=hp) hc k n (i+1)  He (by omega)
  simp only [Y6,Y8] at ih;rw [ah M gU.eq_1];simp (config:=apy) only [Zh M,↓Zi,Nat.reduceBEq,Nat.reduceAdd,env,ae,oY,hx,hd,hi,ih,bt hi ht.values.len,aE hi,dh,kI,hp,IY M hN (ht.values.all _ hm),E6 hi,At M hE (yz ht.values.len i),hc,l9,Ti,qE]
def Dh(l:Lex)(i:Nat)(t:bf):Int:=
 Zv (!nh t.name) 5 (Zv ((l.Y9.l.take i).any fun o=>o.name == t.name) 6 (Zv (decide ((8:Int)<(t.values.l.length:Int))) 3 (Zv ((t.values.l.length:Int) == 0) 1 (tF (Ti t) 0 t.values.l))))
theorem sy{α:Type}(F:Nat→α→Int)(l:List α)(H:List Y4):orE (cL (qo F) 0 l) H (some (.ret (.int .u8 0),H))=some (.ret (.int .u8 (tF F 0 l)),H):=ng F l 0 H
theorem pK(b:Bool)(x y:Int):Zv b (AV.int .u8 x) (AV.int .u8 y) = .int .u8 (Zv b x y):=by cases b<;>rfl
theorem Rb(hN:dx E)(hE:ov E){l:Lex}{t:bf}{n:Nat}(hl:l.ok n)(ht:t.ok n){i:Nat}(hi:i<l.Y9.l.length)(H:List Y4) :
  M.run k6 [.agg l.row,.int .i64 i,.agg t.row] H=some (.ret (.int .u8 (Dh l i t)),H):=by
 rw [au M hE.abU rfl (c:=oX) rfl,oX];have hq:(H++[Y4.cells l.row bI,.cells t.row bW])[H.length+1]?=some (.cells t.row bW):=by rw [ZV];rfl
 have hcf:=An M hE.ZS hE.aah (g:=jI) (fr:=[]) (cap:=[.ptr (H.length+1) 0]) (p:=fun o=>o.name == t.name) (tg:=.any) (yz hl.Y9.len i) (fun x _=>Nk M hE x t hq);have hlp:=fun k He=>trl M hN hE ht hq (Zz H _) k t.values.l.length 0 He (by omega)
 simp only [Y6,Y8,amj,amf] at hlp;simp (config:=apy) only [Zh M,↓Zi,Nat.reduceBEq,Nat.reduceAdd,env,ae,oY,hlp,hcf,dD,kI,E6 hi,IY M hN ht.name,Zz,sy,pK,Dh]
theorem I2(hE:ov E)(t:bf)(f:aw){H:List Y4}{q:Nat}{T:TypeId}(hq:H[q]?=some (.cells f.row T)):M.run iv [.agg t.row,.ptr q 0] H=some (.ret (.bool (t.name == f.name)),H):=by
 rw [au M hE.aa7 rfl (c:=kS) rfl,kS];simp (config:=apy) only [Zh M,↓Zi,Nat.reduceBEq,Nat.reduceAdd,env,ae,wF,kI,pX,hq,bR hq]
end
section
attribute [local congr] aF aS cC bn aG aX aL aH az aA aM aN
variable{E:br}(M:cH bM E)
def Di{α:Type}(l:List α)(q:α→Bool):Nat→Bool
 |0=>false
 |i+1=>match l[i]? with
  |some g=>q g
  |none=>false
theorem qq{α:Type}{l:List α}{i:Nat}{g:α}(h:l[i]?=some g)(q:α→Bool):Di l q (i+1)=q g:=by simp only [Di,h]
theorem Yk:decide ((0:Int)<((0:Nat):Int))=false:=rfl
theorem Yl(j:Nat):decide ((0:Int)<((j+1:Nat):Int))=true:=amu (by omega)
theorem Nl(j:Nat):decide (((j:Nat):Int)<0)=false:=amq (by omega)
theorem Va:decide ((-1:Int)<0)=true:=rfl
def BY(l:Lex)(b:List aw)(i:Nat)(f:aw):Int:=
 match l.Y9.l.find? fun t=>t.name == f.name with
 |none=>5
 |some t=>Zv (!(t.values.l.any fun s=>f.value == s)) 1 (Zv (Di b (fun g=>g.name == f.name) i) 6 (Zv (Di b (fun g => !(Op.bytesLess g.name f.name||g.name == f.name)) i) 1 0))
theorem LW(hE:ov E){l:Lex}{b:List aw}{tg:Tag}{n:Nat}(hl:l.ok n)(hb:b.length≤aZ){i:Nat}{f:aw}(hf:b[i]?=some f){H:List Y4}{p q:Nat}{T T2:TypeId}
  (hp:H[p]?=some (.cells l.row T)) (hq:H[q]?=some (.cells [.slice tg 2 (b.map aw.row)] T2)) :
  M.run jv [.int .i64 i,.agg f.row,.ptr p 0,.ptr q 0] H=some (.ret (.int .u8 (BY l b i f)),H):=by
 rw [au M hE.abd rfl (c:=mw) rfl,mw];have hi:i<b.length:=(al3.1 hf).1;have hr:(H++[Y4.cells f.row aR])[H.length]?=some (.cells f.row aR):=by rw [cY];rfl
 have hp':=fun L=>bR (L:=L) hp
 have hq':=fun L=>bR (L:=L) hq
 have hcf:=vJ M hE.ZS (g:=iv) (fr:=[]) (cap:=[.ptr H.length 0]) (p:=fun t=>t.name == f.name) (tg:=l.Y9.tag) hl.Y9.len (fun x _=>I2 M hE x f hr);rcases sx (fun t:bf=>t.name == f.name) l.Y9.l 0 with ⟨h1,h2⟩ | ⟨j,t,h1,h2,h3⟩
 ·rw [h1] at hcf
  simp (config:=apy) only [Zh M,↓Zi,Nat.reduceBEq,Nat.reduceAdd,env,ae,my,hcf,dD,pX,hp',hq',BY,h2,Va]
 ·rw [h1,amJ] at hcf
  have hj:j<l.Y9.l.length:=(al3.1 h2).1;have hm:t∈l.Y9.l:=aml h2;cases i with
  |zero=>
   simp (config:=apy) only [Zh M,↓Zi,Nat.reduceBEq,Nat.reduceAdd,env,ae,my,hcf,dD,pX,kI,hp',hq',BY,h2,h3,Nl,Yk,Di,aE hj,At M hE (hl.Y9.all t hm).values.len,pK]
  |succ i=>
   have hx:b[i]?=some b[i]:=al4 (by omega);simp (config:=apy) only [Zh M,↓Zi,Nat.reduceBEq,Nat.reduceAdd,env,ae,my,hcf,dD,pX,kI,hp',hq',BY,h2,h3,Nl,Yl,qq hx,hx,hf,aE hj,aE (show i<b.length by omega),E7 (show i+1≤aZ by omega),At M hE (hl.Y9.all t hm).values.len,pK]
end
section
attribute [local congr] aF aS cC bn aG aX aL aH az aA aM aN
variable{E:br}(M:cH bM E)
theorem Vb{b:Sl aw}{n m:Nat}(h:b.ok n (aw.ok n))(hm:n≤m):Wk m (.slice b.tag 2 (b.l.map aw.row)) (.slice b.tag 2 (b.l.map aw.row)):=
 (h.mono hm (fun _ h=>h)).wk (fun _ h=>(h.mono hm).wk)
def iW(l:Lex)(b:List aw):Int:=j9 8 (BY l b) b
theorem Dj(hE:ov E){l:Lex}{b:Sl aw}{n:Nat}(hl:l.ok n)(hb:b.ok n (aw.ok n)){H:List Y4}(hn:n≤H.length) :
  M.run ir [.agg l.row,.slice b.tag 2 (b.l.map aw.row)] H=some (.ret (.int .u8 (iW l b.l)),H):=by
 rw [au M hE.abG rfl (c:=nO) rfl,nO]
 have he:=JO M hE.abY (g:=jv) (fr:=[]) (cap:=[.ptr H.length 0,.ptr (H.length+1) 0]) (F:=BY l b.l) (tg:=b.tag) (l:=b.l) (H:=H++[.cells l.row bI,.cells [.slice b.tag 2 (b.l.map aw.row)] fI]) hb.len
  (abg trivial ⟨ZN (by simp),ZN (by simp),trivial⟩) (Vb hb (by simp;omega))
  (fun L i x hx=>LW M hE hl hb.len hx (T:=bI) (T2:=fI) (by rw [amr,cY];rfl) (by rw [amr,ZV];rfl))
 simp (config:=apy) only [Zh M,↓Zi,Nat.reduceBEq,Nat.reduceAdd,env,ae,zR,he 8,dD,iW]
theorem Nm(hE:ov E)(o t:aV){H:List Y4}{q:Nat}{T:TypeId}(hq:H[q]?=some (.cells t.row T)):M.run jJ [.agg o.row,.ptr q 0] H=some (.ret (.bool (o.name == t.name)),H):=by
 rw [au M hE.abr rfl (c:=mY) rfl,mY];simp (config:=apy) only [Zh M,↓Zi,Nat.reduceBEq,Nat.reduceAdd,env,ae,yE,jy,hq,bR hq]
def BZ(l:Lex)(s:bU):Int:=
 Zv (decide (s.cut<0)||decide (24<s.cut) || !jq l8 s.pre || !jq l8 s.add) 1 (iW l s.Zf.l)
theorem Nn(hN:dx E)(hE:ov E){l:Lex}{s:bU}{n:Nat}(hl:l.ok n)(hs:s.ok n){H:List Y4}(hn:n≤H.length){p:Nat}{T:TypeId}(hp:H[p]?=some (.cells l.row T))(i:Int) :
  M.run jK [.int .i64 i,.agg s.row,.ptr p 0] H=some (.ret (.int .u8 (BZ l s)),H):=by
 rw [au M hE.abj rfl (c:=mZ) rfl,mZ];have hp':=fun L=>bR (L:=L) hp
 have h1:=fun (H:List Y4)=>zd M hN hE (g:=cP) (fr:=[]) (cap:=[]) hs.pre (fun c=>qp M hN.letter c H)
 have h2:=fun (H:List Y4)=>zd M hN hE (g:=cP) (fr:=[]) (cap:=[]) hs.add (fun c=>qp M hN.letter c H)
 simp (config:=apy) only [Zh M,↓Zi,Nat.reduceBEq,Nat.reduceAdd,env,ae,yF,h1,h2,hp',CJ,dD,hn,Dj M hE hl hs.Zf,BZ,pK,an4]
def B1(l:Lex)(i:Nat)(c:aV):Int:=
 Zv (!nh c.name) 5 (Zv ((l.Y7.l.take i).any fun o=>o.name == c.name) 6 (Zv (decide ((24:Int)<(c.Zd.l.length:Int))) 3 (Zv ((c.Zd.l.length:Int) == 0) 1 (j9 24 (fun _ s=>BZ l s) c.Zd.l))))
theorem Rc(hN:dx E)(hE:ov E){l:Lex}{c:aV}{n:Nat}(hl:l.ok n)(hc:c.ok n){i:Nat}(hi:i<l.Y7.l.length){H:List Y4}(hn:n≤H.length) :
  M.run k7 [.agg l.row,.int .i64 i,.agg c.row] H=some (.ret (.int .u8 (B1 l i c)),H):=by
 rw [au M hE.abR rfl (c:=oZ) rfl,oZ];have hq:(H++[Y4.cells l.row bI,.cells c.row aJ])[H.length+1]?=some (.cells c.row aJ):=by rw [ZV];rfl
 have hcf:=Ao M hE.ZI hE.aai (g:=jJ) (fr:=[]) (cap:=[.ptr (H.length+1) 0]) (p:=fun o=>o.name == c.name) (tg:=.any) (yz hl.Y7.len i) (fun x _=>Nm M hE x c hq)
 have he:=JP M hE.ab0 (g:=jK) (fr:=[]) (cap:=[.ptr H.length 0]) (F:=fun _ s=>BZ l s) (tg:=c.Zd.tag) (l:=c.Zd.l) (H:=H++[.cells l.row bI,.cells c.row aJ]) hc.Zd.len
  (abg trivial ⟨ZN (by simp),trivial⟩) ((hc.Zd.mono (by simp;omega) (fun _ h=>h)).wk (fun _ h=>(h.mono (by simp;omega)).wk))
  (fun L i x hx=>Nn M hN hE hl (hc.Zd.all x (aml hx)) (by simp;omega) (T:=bI) (by rw [amr,cY];rfl) i)
 simp (config:=apy) only [Zh M,↓Zi,Nat.reduceBEq,Nat.reduceAdd,env,ae,AW,hcf,he 24,dD,jy,E6 hi,IY M hN hc.name,Zz,pK,B1]
end
section
attribute [local congr] aF aS cC bn aG aX aL aH az aA aM aN
variable{E:br}(M:cH bM E)
theorem CM(hE:ov E)(o:aV)(s:Zc){H:List Y4}{q:Nat}{T:TypeId}(hq:H[q]?=some (.cells [.str s] T)):M.run lW [.agg o.row,.ptr q 0] H=some (.ret (.bool (o.name == s)),H):=by
 rw [au M hE.acS rfl (c:=th) rfl,th];simp (config:=apy) only [Zh M,↓Zi,Nat.reduceBEq,Nat.reduceAdd,env,ae,Ek,jy,hq,bR hq]
def uR(l:Lex)(s:Zc):Option aV:=l.Y7.l.find? fun c=>c.name == s
def Ci:aV:=⟨[],⟨.nil,[]⟩⟩
theorem xB:[AV.str [],.slice .nil 4 []]=Ci.row:=rfl
theorem ze(hE:ov E){l:Lex}{s:Zc}{n:Nat}(hl:l.ok n)(hf:uR l s=none)(H:List Y4) :
  M.run lK [.agg l.row,.str s] H=some (.ret (.tuple [.agg Ci.row,.bool false]),H):=by
 rw [au M hE.ab7 rfl (c:=oh) rfl,oh]
 have hcf:=q9 M hE.ZI (g:=lW) (fr:=[]) (cap:=[.ptr (H.length+1) 0]) (p:=fun c=>c.name == s) (tg:=l.Y7.tag) hl.Y7.len
  (H:=H++[.cells l.row ab,.cells [.str s] aI,.cells Ci.row aJ]) (fun x _=>CM M hE x s (T:=aI) (by rw [ZV];rfl))
 rcases sx (fun c:aV=>c.name == s) l.Y7.l 0 with ⟨h1,h2⟩ | ⟨j,t,h1,h2,h3⟩
 ·rw [h1] at hcf
  simp (config:=apy) only [Zh M,↓Zi,Nat.reduceBEq,Nat.reduceAdd,env,ae,AI,Zx,AV.cell,Nat.reduceMul,Nat.reduceLeDiff,xB,hcf,dD,jy,Va,lC,(show WkL H.length Ci.row Ci.row from ⟨ZH _ _,abx trivial (tX _),trivial⟩)]
 ·exact absurd (hf.symm.trans h3) (by simp)
theorem zf(hE:ov E){l:Lex}{s:Zc}{n:Nat}(hl:l.ok n){c:aV}(hf:uR l s=some c){H:List Y4}(hn:n≤H.length) :
  M.run lK [.agg l.row,.str s] H=some (.ret (.tuple [.agg c.row,.bool true]),H):=by
 rw [au M hE.ab7 rfl (c:=oh) rfl,oh]
 have hcf:=q9 M hE.ZI (g:=lW) (fr:=[]) (cap:=[.ptr (H.length+1) 0]) (p:=fun c=>c.name == s) (tg:=l.Y7.tag) hl.Y7.len
  (H:=H++[.cells l.row ab,.cells [.str s] aI,.cells Ci.row aJ]) (fun x _=>CM M hE x s (T:=aI) (by rw [ZV];rfl))
 rcases sx (fun c:aV=>c.name == s) l.Y7.l 0 with ⟨h1,h2⟩ | ⟨j,t,h1,h2,h3⟩
 ·exact absurd (hf.symm.trans h2) (by simp)
 ·obtain rfl:c=t:=by have:=hf.symm.trans h3;simpa using this
  rw [h1,amJ] at hcf;have hj:j<l.Y7.l.length:=(al3.1 h2).1;have hw:WkL H.length c.row c.row:=((hl.Y7.all c (aml h2)).mono hn).wk;simp (config:=apy) only [Zh M,↓Zi,Nat.reduceBEq,Nat.reduceAdd,env,ae,AI,Zx,AV.cell,Nat.reduceMul,Nat.reduceLeDiff,xB,hcf,dD,jy,Nl,aE hj,h2,hw]
end
section
attribute [local congr] aF aS cC bn aG aX aL aH az aA aM aN
variable{E:br}(M:cH bM E)
def ma(f g:aw):Bool:=f.name == g.name && !(f.value == g.value)
def re(a b:List aw):Bool:=a.any fun f=>b.any fun g=>ma f g
theorem JR(hE:ov E)(g f:aw){H:List Y4}{q:Nat}{T:TypeId}(hq:H[q]?=some (.cells f.row T)):M.run pG [.agg g.row,.ptr q 0] H=some (.ret (.bool (ma f g)),H):=by
 rw [au M hE.acR rfl (c:=tj) rfl,tj];simp (config:=apy) only [Zh M,↓Zi,Nat.reduceBEq,Nat.reduceAdd,env,ae,El,pX,hq,bR hq,ma]
theorem No(hE:ov E)(f:aw){b:Sl aw}{n:Nat}(hb:b.l.length≤aZ){H:List Y4}{q:Nat}{T:TypeId}(hq:H[q]?=some (.cells [.slice b.tag 2 (b.l.map aw.row)] T)) :
  M.run rR [.agg f.row,.ptr q 0] H=some (.ret (.bool (b.l.any fun g=>ma f g)),H):=by
 rw [au M hE.adq rfl (c:=vu) rfl,vu];have hcf:=tS M hE.ZY hE.ZR (g:=pG) (fr:=[]) (cap:=[.ptr H.length 0]) (p:=fun g=>ma f g) (tg:=b.tag) hb (H:=H++[.cells f.row aR]) (fun x _=>JR M hE x f (T:=aR) (by rw [cY];rfl));simp (config:=apy) only [Zh M,↓Zi,Nat.reduceBEq,Nat.reduceAdd,env,ae,GG,hcf,pX,bR hq]
theorem Re(hE:ov E){a b:Sl aw}(ha:a.l.length≤aZ)(hb:b.l.length≤aZ)(H:List Y4) :
  M.run xN [.slice a.tag 2 (a.l.map aw.row),.slice b.tag 2 (b.l.map aw.row)] H=some (.ret (.bool (re a.l b.l)),H):=by
 rw [au M hE.adU rfl (c:=xY) rfl,xY];have hcf:=tS M hE.ZY hE.ZR (g:=rR) (fr:=[]) (cap:=[.ptr H.length 0]) (p:=fun f=>b.l.any fun g=>ma f g) (tg:=a.tag) ha (H:=H++[.cells [.slice b.tag 2 (b.l.map aw.row)] fI]) (fun x _=>No M hE x (n:=0) hb (T:=fI) (by rw [cY];rfl));simp (config:=apy) only [Zh M,↓Zi,Nat.reduceBEq,Nat.reduceAdd,env,ae,JF,hcf,re]
theorem Np(hE:ov E)(o x:aT){H:List Y4}{q:Nat}{T:TypeId}(hq:H[q]?=some (.cells x.row T)):M.run jL [.agg o.row,.ptr q 0] H=some (.ret (.bool (o.lem == x.lem&&o.cls == x.cls)),H):=by
 rw [au M hE.abo rfl (c:=na) rfl,na];simp (config:=apy) only [Zh M,↓Zi,Nat.reduceBEq,Nat.reduceAdd,env,ae,yG,kJ,hq,bR hq]
theorem Nq(hE:ov E){s:bU}{x:aT}{n m:Nat}(hs:s.ok n)(hx:x.ok m){H:List Y4}{q:Nat}{T:TypeId}(hq:H[q]?=some (.cells x.row T)):M.run jM [.agg s.row,.ptr q 0] H=some (.ret (.bool (re x.Zf.l s.Zf.l)),H):=by
 rw [au M hE.abp rfl (c:=nd) rfl,nd];simp (config:=apy) only [Zh M,↓Zi,Nat.reduceBEq,Nat.reduceAdd,env,ae,yH,kJ,CJ,hq,bR hq,Re M hE hx.Zf.len hs.Zf.len]
theorem Nr(hE:ov E)(o x:bE){H:List Y4}{q:Nat}{T:TypeId}(hq:H[q]?=some (.cells x.row T)):M.run jN [.agg o.row,.ptr q 0] H=some (.ret (.bool (o.slot == x.slot)),H):=by
 rw [au M hE.abk rfl (c:=nf) rfl,nf];simp (config:=apy) only [Zh M,↓Zi,Nat.reduceBEq,Nat.reduceAdd,env,ae,yI,zF,hq,bR hq]
def KD(n:Nat)(l:List bE)(k:Nat)(f:bE):Int:=
 Zv (decide (f.slot<0)||decide ((n:Int)≤f.slot)) 7 (Zv ((l.take k).any fun o=>o.slot == f.slot) 6 (Zv (!(f.word == []) && !sw f.word) 1 0))
theorem enl{H H0:List Y4}(hN:dx E)(hE:ov E){x:aT}{c:aV}{n0:Nat}(hx0:x.ok n0)(hn:n0≤H.length){p q:Nat}{T T2:TypeId}(hp:H[p]?=some (.cells x.row T))(hq:H[q]?=some (.cells c.row T2))(hc:bY H0 H)(k:List ZA):∀ (n i:Nat),i+n=(x.Zg.l).length →
  M.go gm H0 (.c gV :: .lp ⟨(some [5,7,48,49,50]),[],true⟩ gV H :: .ZU 1 :: .c (.lv [])::k) (kv [(5,.ptr p 0),(7,.ptr q 0),(48,.slice x.Zg.tag 2 (x.Zg.l.map bE.row)),(49,.int .i64 x.Zg.l.length),(50,.int .i64 i)]) H =
   orE (cL (qo (KD c.Zd.l.length x.Zg.l)) i (x.Zg.l.drop i)) (H.take H0.length) (M.go gm H0 k .leaf H)
 |0,i,h=>by
  have e:i=(x.Zg.l).length:=by omega
  subst e;rw [ah M gV.eq_1];simp (config:=apy) only [Zh M,↓Zi,Nat.reduceBEq,Nat.reduceAdd,env,ae,lu,ame,al9]
 |n+1,i,h=>by
  have hi:i<(x.Zg.l).length:=by omega
  have hx:=al4 hi;have hd:=al6 hi;have hm:=amc hi;have ih:=enl (H:=H) (H0:=H0) (hN:=hN) (hE:=hE) (x:=x) (c:=c) (n0:=n0) (hx0:=hx0) (hn:=hn) (p:=p) (q:=q) (T:=T) (T2:=T2) (hp:=hp) (hq:=hq) hc k n (i+1)  (by omega);simp only [Y6,Y8] at ih
  have hp':=fun L=>bR (L:=L) hp
  have hq':=fun L=>bR (L:=L) hq
  have w1:Wk H.length (.ptr p 0) (.ptr p 0):=ZN (al3.1 hp).1;have w2:Wk H.length (.ptr q 0) (.ptr q 0):=ZN (al3.1 hq).1;have w3:Wk H.length (.slice x.Zg.tag 2 (x.Zg.l.map bE.row)) (.slice x.Zg.tag 2 (x.Zg.l.map bE.row)):=(hx0.Zg.mono hn (fun _ h=>h.mono hn)).wk (fun _ h=>h.wk);have hcf:=Ap M hE.Z9 hE.Z5 (g:=jN) (fr:=[]) (cap:=[.ptr H.length 0]) (p:=fun o=>o.slot == x.Zg.l[i].slot) (tg:=.any) (yz hx0.Zg.len i) (H:=H++[.cells x.Zg.l[i].row bk]) (fun o _=>Nr M hE o _ (T:=bk) (by rw [cY];rfl))
  rw [ah M gV.eq_1];simp (config:=apy) only [Zh M,↓Zi,Nat.reduceBEq,Nat.reduceAdd,env,ae,lu,hx,hd,hi,ih,Zx,AV.cell,hp',hq',w1,w2,w3,hcf,bt hi hx0.Zg.len,aE hi,zF,kJ,jy,FC M hN (hx0.Zg.all _ hm).word,E6 hi,hc,l9,KD,qE]
end
section
attribute [local congr] aF aS cC bn aG aX aL aH az aA aM aN
variable{E:br}(M:cH bM E)
def wM(l:Lex)(i:Nat)(x:aT):Int:=
 match uR l x.cls with
 |none=>Zv (!sw x.lem) 1 5
 |some c=>Zv (!sw x.lem) 1 (Zv ((l.entries.l.take i).any fun o=>o.lem == x.lem&&o.cls == x.cls) 6 (Zv (!(iW l x.Zf.l == 0)) (iW l x.Zf.l)
   (Zv (c.Zd.l.any fun s=>re x.Zf.l s.Zf.l) 10 (tF (KD c.Zd.l.length x.Zg.l) 0 x.Zg.l))))
theorem Rf(hN:dx E)(hE:ov E){l:Lex}{x:aT}{n:Nat}(hl:l.ok n)(hx:x.ok n){i:Nat}(hi:i<l.entries.l.length){H:List Y4}(hn:n≤H.length) :
  M.run k8 [.agg l.row,.int .i64 i,.agg x.row] H=some (.ret (.int .u8 (wM l i x)),H):=by
 rw [au M hE.ab2 rfl (c:=o6) rfl,o6];cases hc:uR l x.cls with
 |none=>
  have h1:=fun H=>ze M hE hl hc H
  simp (config:=apy) only [Zh M,↓Zi,Nat.reduceBEq,Nat.reduceAdd,env,ae,lu,Zx,AV.cell,Nat.reduceMul,Nat.reduceLeDiff,h1,dD,kJ,jy,xB,FC M hN hx.lem,wM,hc,pK]
 |some c=>
  have hcm:c∈l.Y7.l:=aok hc;have hco:=hl.Y7.all c hcm;have h2:=Aq M hE.aat hE.aag (g:=jL) (fr:=[]) (cap:=[.ptr (H.length+1) 0]) (p:=fun o=>o.lem == x.lem&&o.cls == x.cls) (tg:=.any) (yz hl.entries.len i) (H:=H++[.cells l.row bI,.cells x.row aD,.cells c.row aJ]) (fun o _=>Np M hE o x (T:=aD) (by rw [ZV];rfl))
  have h3:=A4 M hE.aaw hE.aam (g:=jM) (fr:=[]) (cap:=[.ptr (H.length+1) 0]) (p:=fun s=>re x.Zf.l s.Zf.l) (tg:=c.Zd.tag) hco.Zd.len (H:=H++[.cells l.row bI,.cells x.row aD,.cells c.row aJ]) (fun s hs=>Nq M hE (hco.Zd.all s hs) hx (T:=aD) (by rw [ZV];rfl));have h4:=fun k=>enl M hN hE (H:=H++[.cells l.row bI,.cells x.row aD,.cells c.row aJ]) (H0:=H) hx (by simp;omega) (c:=c) (p:=H.length+1) (q:=H.length+2) (T:=aD) (T2:=aJ) (by rw [ZV];rfl) (by rw [ZV];rfl) (Zz H _) k x.Zg.l.length 0 (by omega)
  simp only [Y6,Y8,amj,amf] at h4;simp (config:=apy) only [Zh M,↓Zi,Nat.reduceBEq,Nat.reduceAdd,env,ae,lu,Zx,AV.cell,Nat.reduceMul,Nat.reduceLeDiff,zf M hE hl hc,hn,h2,h3,h4,dD,kJ,jy,FC M hN hx.lem,Dj M hE hl hx.Zf,E6 hi,wM,hc,pK,sy]
def wN(x:bL):Int:=
 Zv (x.frm == [] || !jq AL x.frm || !jq AL x.to || !jq CL x.left || !jq CL x.right) 1 0
theorem Ns(hN:dx E)(hE:ov E){l:Lex}{x:bL}{n:Nat}(hx:x.ok n)(i:Int)(H:List Y4) :
  M.run k9 [.agg l.row,.int .i64 i,.agg x.row] H=some (.ret (.int .u8 (wN x)),H):=by
 rw [au M hE.abZ rfl (c:=o7) rfl,o7];have h1:=fun (H:List Y4) (s:Zc) hs=>zd M hN hE (g:=mJ) (fr:=[]) (cap:=[]) (s:=s) hs (fun c=>I1 M hN hE c H)
 have h2:=fun (H:List Y4) (s:Zc) hs=>zd M hN hE (g:=p6) (fr:=[]) (cap:=[]) (s:=s) hs (fun c=>OH M hN hE c H)
 simp (config:=apy) only [Zh M,↓Zi,Nat.reduceBEq,Nat.reduceAdd,env,ae,AX,h1,h2,hx.frm,hx.to,hx.left,hx.right,dD,C4,wN,pK,an4]
def B2(l:Lex)(x:dn):Int:=
 match uR l x.cls with
 |none=>5
 |some _=>Zv (!jq l8 x.glue) 1 (iW l x.Zf.l)
theorem OJ(hN:dx E)(hE:ov E){l:Lex}{x:dn}{n:Nat}(hl:l.ok n)(hx:x.ok n)(i:Int){H:List Y4}(hn:n≤H.length) :
  M.run lV [.agg l.row,.int .i64 i,.agg x.row] H=some (.ret (.int .u8 (B2 l x)),H):=by
 rw [au M hE.acg rfl (c:=qg) rfl,qg];have h1:=fun (H:List Y4)=>zd M hN hE (g:=cP) (fr:=[]) (cap:=[]) hx.glue (fun c=>qp M hN.letter c H)
 cases hc:uR l x.cls with
 |none=>
  have h2:=fun H=>ze M hE hl hc H
  simp (config:=apy) only [Zh M,↓Zi,Nat.reduceBEq,Nat.reduceAdd,env,ae,uB,Zx,AV.cell,Nat.reduceMul,Nat.reduceLeDiff,h2,dD,Gi,jy,xB,B2,hc,pK]
 |some c=>
  simp (config:=apy) only [Zh M,↓Zi,Nat.reduceBEq,Nat.reduceAdd,env,ae,uB,Zx,AV.cell,Nat.reduceMul,Nat.reduceLeDiff,zf M hE hl hc,hn,h1,dD,Gi,jy,Dj M hE hl hx.Zf,B2,hc,pK]
end
section
attribute [local congr] aF aS cC bn aG aX aL aH az aA aM aN
variable{E:br}(M:cH bM E)
def pC(l:Lex):Int:=j9 8 (Dh l) l.Y9.l
theorem Nt(hN:dx E)(hE:ov E){l:Lex}{n:Nat}(hl:l.ok n){H:List Y4}(hn:n≤H.length){p q:Nat}{T T2:TypeId}(hp:H[p]?=some (.cells l.row T))(hq:H[q]?=some (.cells l.row T2)) :
  M.run rM [.ptr p 0,.ptr q 0] H=some (.ret (.int .u8 (pC l)),H):=by
 rw [au M hE.adj rfl (c:=ve) rfl,ve]
 have he:=IQ M hE.abI (g:=k6) (fr:=[.agg l.row]) (cap:=[]) (F:=Dh l) (tg:=l.Y9.tag) (l:=l.Y9.l) (H:=H) hl.Y9.len
  (abg ⟨abv (hl.mono hn).wk,trivial⟩ trivial) ((hl.Y9.mono hn (fun _ h=>h.mono hn)).wk (fun _ h=>h.wk))
  (fun L i x hx=>Rb M hN hE hl (hl.Y9.all x (aml hx)) (al3.1 hx).1 _)
 simp (config:=apy) only [Zh M,↓Zi,Nat.reduceBEq,Nat.reduceAdd,env,ae,Gu,he 8,dD,hp,hq,pC]
def pD(l:Lex):Int:=j9 16 (B1 l) l.Y7.l
theorem Nu(hN:dx E)(hE:ov E){l:Lex}{n:Nat}(hl:l.ok n){H:List Y4}(hn:n≤H.length){p q:Nat}{T T2:TypeId}(hp:H[p]?=some (.cells l.row T))(hq:H[q]?=some (.cells l.row T2)) :
  M.run rN [.ptr p 0,.ptr q 0] H=some (.ret (.int .u8 (pD l)),H):=by
 rw [au M hE.adk rfl (c:=vf) rfl,vf]
 have he:=IS M hE.abC (g:=k7) (fr:=[.agg l.row]) (cap:=[]) (F:=B1 l) (tg:=l.Y7.tag) (l:=l.Y7.l) (H:=H) hl.Y7.len
  (abg ⟨abv (hl.mono hn).wk,trivial⟩ trivial) ((hl.Y7.mono hn (fun _ h=>h.mono hn)).wk (fun _ h=>h.wk))
  (fun L i x hx=>Rc M hN hE hl (hl.Y7.all x (aml hx)) (al3.1 hx).1 (by simp;omega))
 simp (config:=apy) only [Zh M,↓Zi,Nat.reduceBEq,Nat.reduceAdd,env,ae,Gv,he 16,dD,hp,hq,pD]
def tG(l:Lex):Int:=j9 128 (wM l) l.entries.l
theorem Nv(hN:dx E)(hE:ov E){l:Lex}{n:Nat}(hl:l.ok n){H:List Y4}(hn:n≤H.length){p q:Nat}{T T2:TypeId}(hp:H[p]?=some (.cells l.row T))(hq:H[q]?=some (.cells l.row T2)) :
  M.run rO [.ptr p 0,.ptr q 0] H=some (.ret (.int .u8 (tG l)),H):=by
 rw [au M hE.adf rfl (c:=vg) rfl,vg]
 have he:=IU M hE.abJ (g:=k8) (fr:=[.agg l.row]) (cap:=[]) (F:=wM l) (tg:=l.entries.tag) (l:=l.entries.l) (H:=H) hl.entries.len
  (abg ⟨abv (hl.mono hn).wk,trivial⟩ trivial) ((hl.entries.mono hn (fun _ h=>h.mono hn)).wk (fun _ h=>h.wk))
  (fun L i x hx=>Rf M hN hE hl (hl.entries.all x (aml hx)) (al3.1 hx).1 (by simp;omega))
 simp (config:=apy) only [Zh M,↓Zi,Nat.reduceBEq,Nat.reduceAdd,env,ae,Gw,he 128,dD,hp,hq,tG]
def vF(l:Lex):Int:=j9 16 (fun _ x=>wN x) l.Ze.l
theorem Nw(hN:dx E)(hE:ov E){l:Lex}{n:Nat}(hl:l.ok n){H:List Y4}(hn:n≤H.length){p q:Nat}{T T2:TypeId}(hp:H[p]?=some (.cells l.row T))(hq:H[q]?=some (.cells l.row T2)) :
  M.run rP [.ptr p 0,.ptr q 0] H=some (.ret (.int .u8 (vF l)),H):=by
 rw [au M hE.ads rfl (c:=vh) rfl,vh]
 have he:=IW M hE.abz (g:=k9) (fr:=[.agg l.row]) (cap:=[]) (F:=fun _ x=>wN x) (tg:=l.Ze.tag) (l:=l.Ze.l) (H:=H) hl.Ze.len
  (abg ⟨abv (hl.mono hn).wk,trivial⟩ trivial) ((hl.Ze.mono hn (fun _ h=>h.mono hn)).wk (fun _ h=>h.wk))
  (fun L i x hx=>Ns M hN hE (hl.Ze.all x (aml hx)) i _)
 simp (config:=apy) only [Zh M,↓Zi,Nat.reduceBEq,Nat.reduceAdd,env,ae,Gx,he 16,dD,hp,hq,vF]
def ud(l:Lex):Int:=j9 8 (fun _ x=>B2 l x) l.Zm.l
theorem Nx(hN:dx E)(hE:ov E){l:Lex}{n:Nat}(hl:l.ok n){H:List Y4}(hn:n≤H.length){p q:Nat}{T T2:TypeId}(hp:H[p]?=some (.cells l.row T))(hq:H[q]?=some (.cells l.row T2)) :
  M.run rQ [.ptr p 0,.ptr q 0] H=some (.ret (.int .u8 (ud l)),H):=by
 rw [au M hE.adp rfl (c:=vi) rfl,vi]
 have he:=JQ M hE.ab5 (g:=lV) (fr:=[.agg l.row]) (cap:=[]) (F:=fun _ x=>B2 l x) (tg:=l.Zm.tag) (l:=l.Zm.l) (H:=H) hl.Zm.len
  (abg ⟨abv (hl.mono hn).wk,trivial⟩ trivial) ((hl.Zm.mono hn (fun _ h=>h.mono hn)).wk (fun _ h=>h.wk))
  (fun L i x hx=>OJ M hN hE hl (hl.Zm.all x (aml hx)) i (by simp;omega))
 simp (config:=apy) only [Zh M,↓Zi,Nat.reduceBEq,Nat.reduceAdd,env,ae,Gy,he 8,dD,hp,hq,ud]
structure Clo where
 g:Nat
 fr:List AV
 cap:List AV
 e:Int
def Clo.row(x:Clo):List AV:=[.fn (.func x.g) x.fr x.cap]
theorem YZ:(∀ x:Clo,bO none x.row 0=some (.fn (.func x.g) x.fr x.cap)):=fun _=>rfl
theorem fst{H H0:List Y4}{tg:Tag}{l:List Clo}(hs:l.length≤aZ)(hp:∀ x∈l,M.run x.g (x.fr++x.cap) H=some (.ret (.int .u8 x.e),H))(hc:bY H0 H)(k:List ZA):∀ (n i:Nat) (He:List Y4),i+n=l.length →
  M.go oG H0 (.c od :: .lp ⟨(some [6,7,8]),[],false⟩ od He :: .ZU 0 :: .c (.lv [])::k) (kv [(6,.slice tg 1 (l.map Clo.row)),(7,.int .i64 l.length),(8,.int .i64 i)]) H =
   orE (cL (qo fun _ x=>x.e) i (l.drop i)) (H.take H0.length) (M.go oG H0 k .leaf H)
 |0,i,He,h=>by
  have e:i=l.length:=by omega
  subst e;rw [ah M od.eq_1];simp (config:=apy) only [Zh M,↓Zi,Nat.reduceBEq,Nat.reduceAdd,env,ae,xU,ame,al9]
 |n+1,i,He,h=>by
  have hi:i<l.length:=by omega
  have hx:=al4 hi;have hd:=al6 hi;have hm:=amc hi;have ih:=fun He=>fst (H:=H) (H0:=H0) (tg:=tg) (l:=l) (hs:=hs) (hp:=hp) hc k n (i+1)  He (by omega)
  simp only [Y6,Y8] at ih;rw [ah M od.eq_1];simp (config:=apy) only [Zh M,↓Zi,Nat.reduceBEq,Nat.reduceAdd,env,ae,xU,hx,hd,hi,ih,hp _ hm,bt hi hs,aE hi,YZ,hc,qo]
theorem Rg(hE:ov E){tg:Tag}{l:List Clo}(hs:l.length≤aZ){H:List Y4}(hp:∀ x∈l,M.run x.g (x.fr++x.cap) H=some (.ret (.int .u8 x.e),H)) :
  M.run xM [.slice tg 1 (l.map Clo.row)] H=some (.ret (.int .u8 (tF (fun _ x=>x.e) 0 l)),H):=by
 rw [au M hE.ad1 rfl (c:=xS) rfl,xS];have hl:=fun k He=>fst M (tg:=tg) hs hp (Zt H) k l.length 0 He (by omega)
 simp only [Y6,Y8,amj,amf] at hl;simp (config:=apy) only [Zh M,↓Zi,Nat.reduceBEq,Nat.reduceAdd,env,ae,xU,hl];exact ng _ l 0 H
def iV(l:Lex):Int:=
 tF (fun _ e=>e) 0 [Nj l,pC l,pD l,tG l,vF l,ud l]
theorem KE(hN:dx E)(hE:ov E){l:Lex}{n:Nat}(hl:l.ok n){H:List Y4}(hn:n≤H.length) :
  M.run ml [.agg l.row] H=some (.ret (.int .u8 (iV l)),H):=by
 rw [au M hE.adZ rfl (c:=xQ) rfl,xQ]
 have hf:=Rg M hE (tg:=.full) (H:=H++[.cells l.row ab,.cells l.row bI])
  (l:=[⟨ke,[.agg l.row],[],Nj l⟩,⟨rM,[],[.ptr H.length 0,.ptr (H.length+1) 0],pC l⟩,⟨rN,[],[.ptr H.length 0,.ptr (H.length+1) 0],pD l⟩,
   ⟨rO,[],[.ptr H.length 0,.ptr (H.length+1) 0],tG l⟩,⟨rP,[],[.ptr H.length 0,.ptr (H.length+1) 0],vF l⟩,⟨rQ,[],[.ptr H.length 0,.ptr (H.length+1) 0],ud l⟩]) (by simp [aZ]) (by
  have h0:(H++[Y4.cells l.row ab,.cells l.row bI])[H.length]?=some (.cells l.row ab):=by rw [cY];rfl
  have h1:(H++[Y4.cells l.row ab,.cells l.row bI])[H.length+1]?=some (.cells l.row bI):=by rw [ZV];rfl
  have h2:n≤(H++[Y4.cells l.row ab,.cells l.row bI]).length:=by simp;omega
  intro x hx;simp only [ank,List.not_mem_nil,or_false] at hx;rcases hx with rfl | rfl | rfl | rfl | rfl | rfl
  ·exact OI M hN hE hl _
  ·exact Nt M hN hE hl h2 h0 h1
  ·exact Nu M hN hE hl h2 h0 h1
  ·exact Nv M hN hE hl h2 h0 h1
  ·exact Nw M hN hE hl h2 h0 h1
  ·exact Nx M hN hE hl h2 h0 h1)
 simp only [amN,anm,Clo.row] at hf;simp (config:=apy) only [Zh M,↓Zi,Nat.reduceBEq,Nat.reduceAdd,env,ae,JC,Zx,AV.cell,Nat.reduceMul,Nat.reduceLeDiff,hf,dD];rfl
end
section
attribute [local congr] aF aS cC bn aG aX aL aH az aA aM aN
variable{E:br}(M:cH bM E)
def fJ(n:Nat):Zc:=if n<10 then [UInt8.ofNat (48+n)] else if n<100 then [UInt8.ofNat (48+n / 10),UInt8.ofNat (48+n % 10)] else [UInt8.ofNat (48+n / 100),UInt8.ofNat (48+n / 10 % 10),UInt8.ofNat (48+n % 10)]
def atV(s:Zc):Int:=match Lib.atoiAll s with
 |.ok v=>v
 |.range=>Lib.atoiSat s
 |_=>0
def atE(s:Zc):AV:=match Lib.atoiAll s with
 |.ok _=>.Zr
 |_=>.iface gH .ZW
structure nk (M:cH bM E):Prop where
 index:∀ (s:Zc) (c:UInt8) (H:List Y4),M.run dw [.str s,.int .u8 c.toNat] H=some (.ret (.int .i64 (Lib.indexByte s c)),H)
 same:∀ (i o:Nat) (H:List Y4),M.run gG [.ptr i o] H=some (.ret (.ptr i o),H)
 atoi:∀ (s:Zc) (H:List Y4),s.length≤1000000→M.run mM [.str s] H=some (.ret (.tuple [.int .i64 (atV s),atE s]),H)
 fmt:∀ (n:Nat) (H:List Y4),n<1000→M.run aj [.int .i64 (n:Int),.int .i64 10] H=some (.ret (.str (fJ n)),H)
 count:∀ (s:Zc) (c:UInt8) (H:List Y4),M.run dY [.str s,.int .u8 c.toNat] H=some (.ret (.int .i64 (Lib.countByte s c:Nat)),H)
 aj0:∀ (n:Nat) (H:List Y4),n≤281474976710656→M.run dA [.int .i64 n] H=some (.ret (.Za H.length 0 n 1 true),H++[.cells (List.replicate n .ZW) cq])
structure yg (E:br):Prop where
 aaQ:E.fn aQ=some gg
 aaY:E.fn eZ=some ij
 abf:E.fn eM=some jw
 abT:E.fn kZ=some ln
 aaq:E.fn fc=some ik
 abE:E.fn nA=some ku
 aby:E.fn km=some ks
abbrev jl(s:Zc):List (List AV):=s.map fun b=>[.int .u8 (b.toNat:Int)]
theorem OK(s:Zc):sg 1 (jl s)=true:=by simp [sg,jl,AV.cell]
theorem Ep:∀ s:Zc,rF (jl s)=some s
 |[]=>rfl
 |c::s=>by
  have:=Ep s;simp only [jl] at this ⊢;simp only [amN,rF,this,amO];congr 2;simp
theorem Ny:∀ s:Zc,Cg (jl s)=true
 |[]=>rfl
 |c::s=>by
  have:=Ny s;simp only [jl] at this ⊢;simp only [amN,Cg,this,anc,amb,ana];have:=c.toNat_lt;omega
theorem Rh(w s:Zc):jl (w++s)=jl w++(jl s).map (·.map AV.strip):=by
 simp only [jl,anP,aoJ];congr 1
theorem Vc(s:Zc)(H:List Y4):xJ H 1 true (.str s)=some (jl s):=by simp [xJ]
theorem Ym(n:Nat)(w:Zc):Qr (.slice (.own n) 1 (jl w))=some (.sdp n (jl w)):=by cases w<;>rfl
theorem Tj(n:Nat)(w:Zc):mE n (jl w):=by
 rw [aaF];exact fun _ _=>⟨aab _ _ _,trivial⟩
theorem qU:(∀ (a:Env) (H:List Y4) (x:RX),Z1 a H (.usl x)=cf H (Qr (rx a x)))∧(∀ (a:Env) (H:List Y4) (e:TypeId) (x n:RX),Z1 a H (.ust e x n)=cf H (N5 H e (rx a x) (rx a n)))∧(∀ (a:Env) (H:List Y4) (x:RX),Z1 a H (.cvu x)=cf H (RT H (rx a x)))∧(∀ (a:Env) (H:List Y4) (u:TypeId) (sz:Nat) (x:RX),Z1 a H (.cvf u sz x)=cf H (WA H u sz (rx a x)))∧(∀ (a:Env) (H:List Y4) (u:TypeId) (us:List TypeId) (sz:Nat) (x:RX),Z1 a H (.cvg u us sz x)=cf H (RU H u us sz (rx a x))) ∧
 (∀ (a:Env) (H:List Y4) (cs:List AV) (e:TypeId) (j:Nat) (T:TypeId),Z1 a H (.nwb cs e j T)=some (.ptr (H.length+1) 0,H++[.tok 0 T,.cells (cs.set j (.slice (.own H.length) 1 [])) e])):=
 ⟨fun _ _ _=>rfl,fun _ _ _ _ _=>rfl,fun _ _ _=>rfl,fun _ _ _ _ _=>rfl,fun _ _ _ _ _ _=>rfl,fun _ _ _ _ _ _=>rfl⟩
theorem Tk:req .ptr .ZB .ZB=some true:=rfl
theorem OL(i o:Nat):req .ptr (.ptr i o) .ZB=some false:=rfl
theorem Nz(i o:Nat):req .ptr (.ptr i o) (.ptr i o)=some true:=by simp [req]
theorem dS{G:List Y4}{i:Nat}{x:Y4}(h:G[i]?=some x):i<G.length:=(al3.1 h).1
theorem Tl{G:List Y4}{i:Nat}{o:Y4}(hw:R1 G.length o):bY G (G.set i o):=by
 refine ⟨by simp,fun j x hj hx => ?_⟩;rw [anZ] at hx;split at hx
 ·split at hx
  ·cases hx;exact .inr hw
  ·cases hx
 ·exact .inl hx
def vG(N:Nat)(e:TypeId)(sz:Nat)(G:List Y4)(v:AV)(rows:List (List AV)):Prop:=
 (rows=[]∧v = .slice .nil sz [])∨∃ t,N≤t∧v = .slice (.own t) sz rows∧G[t]?=some (.tok (rows.length*sz) e)
def Wr(N b:Nat)(e:TypeId)(G G':List Y4):Prop:=
 G.length≤G'.length∧(∀ i,i<N→i≠b→G'[i]?=G[i]?)∧∀ i,i<G.length→i≠b→(∀ n,G[i]?≠some (.tok n e))→G'[i]?=G[i]?
theorem Wr.refl(N b:Nat)(e:TypeId)(G:List Y4):Wr N b e G G:=⟨amp _,fun _ _ _=>rfl,fun _ _ _ _=>rfl⟩
theorem vG.cell{N:Nat}{e:TypeId}{sz:Nat}{G:List Y4}{v:AV}{rows:List (List AV)}(h:vG N e sz G v rows):v.cell=true∧dM v=some [v]:=by
 rcases h with ⟨_,rfl⟩ | ⟨t,_,rfl,_⟩<;>exact ⟨rfl,rfl⟩
theorem vG.len{N:Nat}{e:TypeId}{sz:Nat}{G:List Y4}{v:AV}{rows:List (List AV)}(h:vG N e sz G v rows)(H:List Y4):CX H .sl v=some (.int .i64 (rows.length:Int)):=by
 rcases h with ⟨rfl,rfl⟩ | ⟨t,_,rfl,_⟩<;>rfl
theorem vG.wk{N:Nat}{e:TypeId}{sz:Nat}{G:List Y4}{v:AV}{rows:List (List AV)}(h:vG N e sz G v rows)(hr:mE G.length rows):Wk G.length v v:=by
 rcases h with ⟨rfl,rfl⟩ | ⟨t,_,rfl,hg⟩
 ·exact abx trivial (tX _)
 ·exact abx (dS hg) hr
theorem vG.stay{N:Nat}{e:TypeId}{sz:Nat}{G G':List Y4}{v:AV}{rows:List (List AV)}(h:vG N e sz G v rows)(hs:∀ t,N≤t→G[t]?=some (.tok (rows.length*sz) e)→G'[t]?=G[t]?):vG N e sz G' v rows:=by
 rcases h with ⟨h1,h2⟩ | ⟨t,ht,h1,hg⟩
 ·exact .inl ⟨h1,h2⟩
 ·exact .inr ⟨t,ht,h1,by rw [hs t ht hg];exact hg⟩
theorem B3{N:Nat}{e:TypeId}{sz bytes:Nat}{G:List Y4}{v:AV}{rows:List (List AV)}(h:vG N e sz G v rows)(hN:N≤G.length){r:List AV}(h1:r.length=sz)(h2:r.all AV.cell=true)(h3:r.map AV.strip=r)
  (hl:(rows.length+1)*bytes≤140737488355328) (hl2:rows.length+1≤4611686018427387904) :
  ∃ v' G',rap false G e sz bytes false v (.slice .full sz [r])=some (v',G')∧vG N e sz G' v' (rows++[r])∧G.length≤G'.length∧(∀ i,i<N→G'[i]?=G[i]?)∧∀ i,i<G.length→(∀ n,G[i]?≠some (.tok n e))→G'[i]?=G[i]? := by
 have hr:=zG h1 h2;rcases h with ⟨rfl,rfl⟩ | ⟨t,ht,rfl,hg⟩
 ·refine ⟨.slice (.own G.length) sz [r],G++[.tok (1*sz) e], ?_,.inr ⟨G.length,hN,rfl,by rw [cY];rfl⟩,by simp,fun i hi=>al7 (by omega),fun i hi _=>al7 hi⟩
  simp only [rap,yq,xJ,or_true,if_true,amw,amk,amJ,true_or,true_and,hr,and_true,amH,amN,anm,h3];rw [if_pos ⟨by simpa using hl,by omega⟩]
 ·refine ⟨.slice (.own t) sz (rows++[r]),G.set t (.tok (rows.length*sz+1*sz) e), ?_,.inr ⟨t,ht,rfl, ?_⟩,by simp,fun i hi => ?_,fun i hi hn => ?_⟩
  ·simp only [rap,yq,xJ,or_true,if_true,amk,amw,amJ,true_and,hr,and_true,hg,amN,anm,h3]
   rw [if_pos ⟨hl,by omega⟩]
  ·rw [amy (dS hg),al8,amT];rfl
  ·rw [ami (by omega)]
  ·rw [ami (fun e1=>hn _ (by rw [← e1];exact hg))]
theorem jW{G:List Y4}{p off:Nat}{cs:List AV}{v:AV}{T:TypeId}(hc:v.cell=true)(ho:off<cs.length):stO 1 G p off [v] (some (.cells cs T))=some (G.set p (.cells (cs.set off v) T)):=by
 simp only [stO];rw [if_pos ⟨rfl,by omega,by simp [hc]⟩];rfl
theorem ue(w:Zc):(jl w).length=w.length:=by simp [jl]
theorem Tm{G:List Y4}{b:Nat}{x:Y4}(h:G[b]?=some x):G.set b x=G:=by
 refine an5 fun i => ?_
 by_cases e:b=i
 ·subst e;rw [amy (dS h),h]
 ·rw [ami e]
def isU(x:Y4):Prop:=(∃ n,x = .tok n cq)∨∃ cs,x = .cells cs cq
def Dk(N:Nat)(G:List Y4)(v:AV)(w:Zc):Prop:=
 vG N cq 1 G v (jl w)∨(w=[]∧∃ t cs,N≤t∧v = .Za t 0 0 1 true∧G[t]?=some (.cells cs cq))
structure mA (T:TypeId) (N b:Nat) (G:List Y4) (w:Zc):Prop where
 ex:∃ ad bv,G[b]?=some (.cells [ad,bv] T)∧(ad = .ZB∨ad = .ptr b 0)∧Dk N G bv w
 ty:T≠cq
structure lG (N b:Nat) (G G':List Y4):Prop where
 len:G.length≤G'.length
 low:∀ i,i<N→i≠b→G'[i]?=G[i]?
 obj:∀ (i:Nat) (x:Y4),G[i]?=some x→i≠b→¬ isU x→G'[i]?=some x
theorem lG.trans{N b:Nat}{A B C:List Y4}(h:lG N b A B)(k:lG N b B C):lG N b A C:=
 ⟨ams h.len k.len,fun i hi hn=>(k.low i hi hn).trans (h.low i hi hn),fun i x hx hn hu=>k.obj i x (h.obj i x hx hn hu) hn hu⟩
theorem lG.refl(N b:Nat)(G:List Y4):lG N b G G:=⟨amp _,fun _ _ _=>rfl,fun _ _ h _ _=>h⟩
theorem Dk.cell{N:Nat}{G:List Y4}{v:AV}{w:Zc}(h:Dk N G v w):v.cell=true∧dM v=some [v]:=by
 rcases h with h | ⟨_,t,cs,_,rfl,_⟩
 ·exact h.cell
 ·exact ⟨rfl,rfl⟩
theorem Dk.len{N:Nat}{G:List Y4}{v:AV}{w:Zc}(h:Dk N G v w)(H:List Y4):CX H .sl v=some (.int .i64 (w.length:Int)):=by
 rcases h with h | ⟨rfl,t,cs,_,rfl,_⟩
 ·rw [h.len,ue]
 ·rfl
theorem Dk.wk{N:Nat}{G:List Y4}{v:AV}{w:Zc}(h:Dk N G v w):Wk G.length v v:=by
 rcases h with h | ⟨rfl,t,cs,_,rfl,hg⟩
 ·exact h.wk (Tj _ w)
 ·exact adx (dS hg)
theorem Dk.stay{N b:Nat}{T:TypeId}{G G':List Y4}{v:AV}{w:Zc}{ds:List AV}(h:Dk N G v w)(hb:G[b]?=some (.cells ds T))(hT:T≠cq)(hs:∀ t,t≠b→G'[t]?=G[t]?):Dk N G' v w:=by
 rcases h with h | ⟨rfl,t,cs,h1,rfl,hg⟩
 ·refine .inl (h.stay fun t _ ht=>hs t ?_)
  rintro rfl;rw [hb] at ht;cases ht
 ·refine .inr ⟨rfl,t,cs,h1,rfl, ?_⟩
  rw [hs t ?_];exact hg;rintro rfl;rw [hb] at hg;cases hg;exact hT rfl
def okB(T:TypeId):Bool:=Nat.beq T cT||[mo,aO].any (Nat.beq T)
theorem OM(hC:yg E)(hX:nk M){G:List Y4}{N b:Nat}{T:TypeId}(hok:okB T=true)(hT:T≠cq){ad bv:AV}{w:Zc}(hg:G[b]?=some (.cells [ad,bv] T))(ha:ad = .ZB∨ad = .ptr b 0)(hv:Dk N G bv w) :
  M.run fc [.ptr b 0] G=some (.ret (.tuple []),G.set b (.cells [.ptr b 0,bv] T)):=by
 have l0:∀ x y:AV,bO none [x,y] 0=some x:=fun _ _=>rfl
 have hwb:=hv.wk;rcases ha with rfl | rfl
 ·have hwk:R1 G.length (.cells [.ptr b 0,bv] T):=by
   intro c hc;simp at hc;rcases hc with rfl | rfl
   ·exact ZN (dS hg)
   ·exact hwb
  have hu:RT G (.ptr b 0)=some (.ptr b 0):=by simp [RT,hg]
  have hf:RU G cT [mo,aO] 2 (.ptr b 0)=some (.ptr b 0):=by
   unfold okB at hok;simp only [RU,hg];rw [if_pos ⟨hok,by simp⟩]
  have hs:stO 1 G b 0 [.ptr b 0] (some (.cells [.ZB,bv] T))=some (G.set b (.cells [.ptr b 0,bv] T)):=jW rfl (by simp);have h1:=hX.same b 0;rw [au M hC.aaq rfl (c:=fe) rfl,fe];simp (config:=apy) only [Zh M,↓Zi,Nat.reduceBEq,Nat.reduceAdd,env,ae,pH,Zx,AV.cell,Nat.reduceMul,Nat.reduceLeDiff,rnc,qU,hg,l0,Tk,hu,hf,h1,hs,Zl,Nz,Tl hwk,aaV]
  rw [am8 (by simp)]
 ·rw [Tm hg]
  rw [au M hC.aaq rfl (c:=fe) rfl,fe];simp (config:=apy) only [Zh M,↓Zi,Nat.reduceBEq,Nat.reduceAdd,env,ae,pH,rnc,hg,l0,OL,Nz,aav,aaV]
theorem Xb{N:Nat}{G:List Y4}{v:AV}{w u:Zc}(h:Dk N G v w)(hN:N≤G.length)(hl:w.length+u.length≤1000000000)(str:Bool)(x:AV)(hx:∀ H,xJ H 1 str x=some (jl u)) :
  ∃ v' G',rap false G cq 1 1 str v x=some (v',G')∧Dk N G' v' (w++u)∧G.length≤G'.length∧(∀ i,i<N→G'[i]?=G[i]?)∧∀ (i:Nat) (x:Y4),G[i]?=some x→¬ isU x→G'[i]?=some x:=by
 have h2:(jl u).length=u.length:=by simp [jl]
 have hu:=OK u
 have own:∀ (G:List Y4) (t:Nat),N≤t→G[t]?=some (.tok w.length cq)→∃ G',yq G cq 1 1 str (.slice (.own t) 1 (jl w)) x=some (.slice (.own t) 1 (jl (w++u)),G')∧G'[t]?=some (.tok (w++u).length cq)∧G'.length=G.length∧∀ i,i≠t→G'[i]?=G[i]? := fun G t _ hg=>by
  cases u with
  |nil=>
   refine ⟨G, ?_,by simpa using hg,rfl,fun _ _=>rfl⟩;simp only [yq,hx,h2,or_true,true_and,amw,ann,ue,hu,and_true];rw [if_pos (by simp at hl;omega)];simp [jl]
  |cons c u=>
   refine ⟨G.set t (.tok (w++c::u).length cq), ?_,amy (dS hg),by simp,fun i hi=>ami (Ne.symm hi)⟩;have e:jl (c::u)=[.int .u8 (c.toNat:Int)]::jl u:=rfl;rw [Rh];simp only [yq,hx,h2,or_true,true_and,ue,hu,and_true];rw [if_pos (by omega)];rw [e];simp only [hg,ue,aod,and_self,if_true,true_and];rw [← e,al8]
 rcases h with h | ⟨rfl,t,cs,h1,rfl,hg⟩
 ·rcases h with ⟨h1,rfl⟩ | ⟨t,ht,rfl,hg⟩
  ·have hw:w=[]:=by cases w with | nil=>rfl | cons c w=>cases h1
   subst hw;cases u with
   |nil=>
    refine ⟨.slice .nil 1 [],G, ?_,.inl (.inl ⟨rfl,rfl⟩),amp _,fun _ _=>rfl,fun _ _ h _=>h⟩;simp [rap,yq,hx,jl,sg]
   |cons c u=>
    refine ⟨.slice (.own G.length) 1 (jl (c::u)),G++[.tok (jl (c::u)).length cq], ?_,.inl (.inr ⟨G.length,hN,rfl,by rw [cY];simp⟩),by simp,fun i hi=>al7 (by omega),fun i x hx _=>bR hx⟩;have e:jl (c::u)=[.int .u8 (c.toNat:Int)]::jl u:=rfl;have e2:(jl (c::u)).map (·.map AV.strip)=jl (c::u):=by simp [jl,AV.strip]
    simp only [rap,yq,hx,h2,true_or,true_and,amw,amJ,hu,and_true,amH];rw [if_pos (by omega),e2,e];simp only [aod,← h2,e]
  ·rw [ue,aod] at hg
   obtain ⟨G',a1,a2,a3,a4⟩:=own G t ht hg;refine ⟨_,G',a1,.inl (.inr ⟨t,ht,rfl,by rw [ue,aod];exact a2⟩),by omega,fun i hi=>a4 i (by omega),fun i y hy hu => ?_⟩;rw [a4 i (by rintro rfl;rw [hg] at hy;cases hy;exact hu (.inl ⟨_,rfl⟩))];exact hy
 ·have hlt:=dS hg
  obtain ⟨G',a1,a2,a3,a4⟩:=own (G.set t (.tok 0 cq)) t h1 (amy hlt);refine ⟨_,G', ?_,.inl (.inr ⟨t,h1,rfl,by rw [ue,aod];exact a2⟩),by simp at a3;omega,fun i hi => ?_,fun i y hy hu => ?_⟩
  ·rw [← a1]
   simp only [rap,hg];rfl
  ·rw [a4 i (by omega),ami (by omega)]
  ·have hne:i≠t:=by rintro rfl;rw [hg] at hy;cases hy;exact hu (.inr ⟨_,rfl⟩)
   rw [a4 i hne,ami (Ne.symm hne)];exact hy
theorem PT{N b:Nat}{T:TypeId}{G:List Y4}{ad bv:AV}{w u:Zc}(hT:T≠cq)(hg:G[b]?=some (.cells [ad,bv] T))(hv:Dk N G bv w)(hN:N≤G.length)(hl:w.length+u.length≤1000000000)(str:Bool)(x:AV)(hx:∀ H,xJ H 1 str x=some (jl u)) :
  ∃ v' G2,rap false (G.set b (.cells [.ptr b 0,bv] T)) cq 1 1 str bv x=some (v',G2)∧(G.set b (.cells [.ptr b 0,bv] T))[b]?=some (.cells [.ptr b 0,bv] T)∧G2[b]?=some (.cells [.ptr b 0,bv] T)∧dM v'=some [v'] ∧
   stO 1 G2 b 1 [v'] (some (.cells [.ptr b 0,bv] T))=some (G2.set b (.cells [.ptr b 0,v'] T))∧mA T N b (G2.set b (.cells [.ptr b 0,v'] T)) (w++u)∧lG N b G (G2.set b (.cells [.ptr b 0,v'] T)):=by
 have hlt:=dS hg;have nU:¬ isU (.cells [.ptr b 0,bv] T):=by rintro (⟨n,e⟩ | ⟨cs,e⟩)<;>cases e;exact hT rfl
 have hg1:(G.set b (.cells [.ptr b 0,bv] T))[b]?=some (.cells [.ptr b 0,bv] T):=amy hlt;have hv1:Dk N (G.set b (.cells [.ptr b 0,bv] T)) bv w:=hv.stay hg hT fun t ht=>ami (Ne.symm ht)
 obtain ⟨v',G2,a1,a2,a3,a4,a5⟩:=Xb hv1 (by simpa using hN) hl str x hx;have hg2:=a5 b _ hg1 nU;refine ⟨v',G2,a1,hg1,hg2,a2.cell.2,jW a2.cell.1 (by simp),⟨⟨.ptr b 0,v',amy (dS hg2),.inr rfl,a2.stay hg2 hT fun t ht=>ami (Ne.symm ht)⟩,hT⟩,⟨by simp at a3 ⊢;omega,fun i hi hne => ?_,fun i y hy hne hu => ?_⟩⟩
 ·rw [ami (Ne.symm hne),a4 i hi,ami (Ne.symm hne)]
 ·rw [ami (Ne.symm hne),a5 i y (by rw [ami (Ne.symm hne)];exact hy) hu]
theorem I3(hC:yg E)(hX:nk M){G:List Y4}{N b:Nat}{T:TypeId}(hok:okB T=true){w:Zc}(h:mA T N b G w)(hN:N≤G.length){u:Zc}(hl:w.length+u.length≤1000000000) :
  ∃ G',M.run aQ [.ptr b 0,.str u] G=some (.ret (.tuple [.int .i64 u.length,.Zr]),G')∧mA T N b G' (w++u)∧lG N b G G':=by
 obtain ⟨⟨ad,bv,hg,ha,hv⟩,hT⟩:=h;have hcc:=OM M hC hX hok hT hg ha hv;obtain ⟨v',G2,a1,hg1,hg2,hac,hst,k1,k2⟩:=PT hT hg hv hN hl true (.str u) (Vc u);refine ⟨_, ?_,k1,k2⟩;have l1:∀ x y:AV,bO none [x,y] 1=some y:=fun _ _=>rfl
 generalize G.set b (.cells [.ptr b 0,bv] T)=G1 at *
 rw [au M hC.aaQ rfl (c:=jD) rfl,jD];simp (config:=apy) only [Zh M,↓Zi,Nat.reduceBEq,Nat.reduceAdd,env,ae,uC,Zx,AV.cell,Nat.reduceMul,Nat.reduceLeDiff,rnc,hcc,hg1,hg2,l1,a1,hac,hst,Zl]
theorem Xc(hC:yg E)(hX:nk M){G:List Y4}{N b:Nat}{T:TypeId}(hok:okB T=true){w:Zc}(h:mA T N b G w)(hN:N≤G.length)(hl:w.length+1≤1000000000)(c:UInt8) :
  ∃ G',M.run eZ [.ptr b 0,.int .u8 c.toNat] G=some (.ret .Zr,G')∧mA T N b G' (w++[c])∧lG N b G G':=by
 obtain ⟨⟨ad,bv,hg,ha,hv⟩,hT⟩:=h;have hcc:=OM M hC hX hok hT hg ha hv;obtain ⟨v',G2,a1,hg1,hg2,hac,hst,k1,k2⟩:=PT (u:=[c]) hT hg hv hN (by simpa using hl) false (.slice .full 1 [[.int .u8 (c.toNat:Int)]]) (fun H=>by simp [xJ,jl]);refine ⟨_, ?_,k1,k2⟩;have l1:∀ x y:AV,bO none [x,y] 1=some y:=fun _ _=>rfl
 generalize G.set b (.cells [.ptr b 0,bv] T)=G1 at *
 rw [au M hC.aaY rfl (c:=kp) rfl,kp];simp (config:=apy) only [Zh M,↓Zi,Nat.reduceBEq,Nat.reduceAdd,env,ae,vS,Zx,AV.cell,Nat.reduceMul,Nat.reduceLeDiff,rnc,hcc,hg1,hg2,l1,a1,hac,hst,Zl]
theorem NA(hC:yg E){G:List Y4}{N b:Nat}{T:TypeId}{w:Zc}(h:mA T N b G w)(hne:w≠[])(hl:w.length≤1000000000):M.run eM [.ptr b 0] G=some (.ret (.str w),G):=by
 obtain ⟨⟨ad,bv,hg,ha,hv⟩,hT⟩:=h;have l1:∀ x y:AV,bO none [x,y] 1=some y:=fun _ _=>rfl
 have hlen:=hv.len
 have hu:∃ q,Qr bv=some q∧N5 G cq q (.int .i64 (w.length:Int))=some (.str w):=by
  rcases hv with (⟨h1,rfl⟩ | ⟨t,_,rfl,ht⟩) | ⟨h1,_⟩
  ·exact absurd (by cases w with | nil=>rfl | cons c w=>cases h1) hne
  ·refine ⟨_,Ym t w, ?_⟩
   cases w with
   |nil=>simp [jl,N5]
   |cons c w=>
    have h1:=Ep (c::w);have h2:=Ny (c::w);simp only [jl,amN] at h1 h2 ht ⊢;simp only [N5,ht,h1,h2];rw [if_pos];exact ⟨trivial,trivial,by simp,by simp at hl ⊢;omega,trivial⟩
  ·exact absurd h1 hne
 obtain ⟨q,h1,h2⟩:=hu;rw [au M hC.abf rfl (c:=mr) rfl,mr];simp (config:=apy) only [Zh M,↓Zi,Nat.reduceBEq,Nat.reduceAdd,env,ae,xR,qU,rnc,hg,l1,hlen,h1,h2,aav]
theorem Vd(hC:yg E){G:List Y4}{N b:Nat}{T:TypeId}{w:Zc}(h:mA T N b G w):M.run kZ [.ptr b 0] G=some (.ret (.int .i64 w.length),G):=by
 obtain ⟨⟨ad,bv,hg,ha,hv⟩,hT⟩:=h;have l1:∀ x y:AV,bO none [x,y] 1=some y:=fun _ _=>rfl
 have hlen:=hv.len;rw [au M hC.abT rfl (c:=oU) rfl,oU];simp (config:=apy) only [Zh M,↓Zi,Nat.reduceBEq,Nat.reduceAdd,env,ae,AU,qU,rnc,hg,l1,hlen,aav]
end
section
attribute [local congr] aF aS cC bn aG aX aL aH az aA aM aN
variable{E:br}(M:cH bM E)
theorem Hf{H G:List Y4}(hl:H.length≤G.length)(h:∀ i,i<H.length→G[i]?=H[i]?):bY H G:=⟨hl,fun i x hi hx=>.inl (by rw [← h i hi];exact hx)⟩
theorem Er{H G:List Y4}(hl:H.length≤G.length)(h:∀ i,i<H.length→G[i]?=H[i]?):G.take H.length=H:=by
 refine an5 fun i => ?_
 by_cases hi:i<H.length
 ·rw [am9 hi,h i hi]
 ·rw [am0 (by simp;omega),am0 (by omega)]
theorem ON{g:FuncId}{first cap args:List AV}{H H':List Y4}{v:AV}(h:H'.take H.length=H)(T L:List Nat):sC bM E .Zn (.fn (.func g) first cap) args H T L (some (.ret v,H'))=some (v,H',T,L):=by
 unfold sC rH;simp only [Ki h,AQ.b,if_true]
abbrev B4(T:TypeId)(a x:AV):Y4:=.cells [a,x] T
theorem Tn(hC:yg E)(hX:nk M)(H:List Y4)(T:TypeId){n:Nat}(hn:n≤281474976710656) :
  M.run nA [.ptr H.length 0,.int .i64 n] (H++[B4 T (.ptr H.length 0) (.slice .nil 1 [])])=some (.ret (.tuple []),H++[B4 T (.ptr H.length 0) (.Za (H.length+1) 0 0 1 true),.cells (List.replicate n .ZW) cq]):=by
 rw [au M hC.abE rfl (c:=nR) rfl,nR];have w1:IntKind.i64.wrap (2*0)=0:=by decide
 have w2:IntKind.i64.wrap (0+(n:Int))=(n:Int):=by rw [eY (by omega) (by omega)];omega
 have h1:=fun H=>hX.aj0 n H hn
 have e0:((0:Nat):Int)=0:=rfl;have e1:RR (.slice .nil 1 [])=some (.int .i64 0):=rfl;have e2:AN 1 (.Za (H.length+1) 0 n 1 true) none (some (.int .i64 0)) none=some (.Za (H.length+1) 0 0 1 true):=by simp [AN,fX]
 have e3:rcp (H++[B4 T (.ptr H.length 0) (.slice .nil 1 []),.cells (List.replicate n .ZW) cq]) 1 false (.Za (H.length+1) 0 0 1 true) (.slice .nil 1 [])=some (.int .i64 0,H++[B4 T (.ptr H.length 0) (.slice .nil 1 []),.cells (List.replicate n .ZW) cq]):=by
  simp only [rcp,xJ,true_or,if_true,ZV,amX,amx,amw,amp,anC,aof,ann,true_and,and_true,List.flatten_nil,bq];rw [if_pos (by rfl)];rw [anE _ _ (by omega)];simp
 have hdk:=fun T' L=>ON (E:=E) (g:=dA) (first:=[]) (cap:=[]) (args:=[.int .i64 n]) (H:=H++[B4 T (.ptr H.length 0) (.slice .nil 1 [])]) (H':=H++[B4 T (.ptr H.length 0) (.slice .nil 1 []),.cells (List.replicate n .ZW) cq]) (v:=.Za (H.length+1) 0 n 1 true) (by
  rw [show H++[B4 T (.ptr H.length 0) (.slice .nil 1 []),Y4.cells (List.replicate n .ZW) cq]=(H++[B4 T (.ptr H.length 0) (.slice .nil 1 [])])++[.cells (List.replicate n .ZW) cq] by simp,List.take_left]) T' L
 simp (config:=apy) only [Zh M,↓Zi,Nat.reduceBEq,Nat.reduceAdd,env,ae,zV,Zx,AV.cell,Nat.reduceMul,Nat.reduceLeDiff,rnc,w1,w2,h1,e0,e1,e2,e3,hdk]
theorem Ri(hC:yg E)(hX:nk M)(H:List Y4){T:TypeId}(hok:okB T=true)(hT:T≠cq){n:Nat}(h0:0<n)(hn:n≤281474976710656) :
  M.run km [.ptr H.length 0,.int .i64 n] (H++[B4 T .ZB (.slice .nil 1 [])])=some (.ret (.tuple []),H++[B4 T (.ptr H.length 0) (.Za (H.length+1) 0 0 1 true),.cells (List.replicate n .ZW) cq]):=by
 rw [au M hC.aby rfl (c:=nQ) rfl,nQ];have w1:IntKind.i64.wrap (0-0)=0:=by decide
 have e0:((0:Nat):Int)=0:=rfl;have e1:RR (.slice .nil 1 [])=some (.int .i64 0):=rfl;have d1:decide ((n:Int)<0)=false:=amq (by omega);have d2:decide ((0:Int)<(n:Int))=true:=amu (by omega);have d3:decide (0<n)=true:=amu h0;have hcc:=OM M hC hX hok hT (G:=H++[B4 T .ZB (.slice .nil 1 [])]) (N:=0) (b:=H.length) (ad:=.ZB) (bv:=.slice .nil 1 []) (w:=[]) (by rw [cY];rfl) (.inl rfl) (.inl (.inl ⟨rfl,rfl⟩))
 have hs:(H++[B4 T .ZB (.slice .nil 1 [])]).set H.length (.cells [.ptr H.length 0,.slice .nil 1 []] T)=H++[B4 T (.ptr H.length 0) (.slice .nil 1 [])]:=by rw [abQ];rfl
 rw [hs] at hcc;simp (config:=apy) only [Zh M,↓Zi,Nat.reduceBEq,Nat.reduceAdd,env,ae,zT,Zx,AV.cell,Nat.reduceMul,Nat.reduceLeDiff,rnc,hcc,Tn M hC hX H T hn,w1,e0,e1,d1,d2,d3]
def lI:List Zc→Nat
 |[]=>0
 |s::l=>s.length+lI l
def rD:List Zc→Zc
 |[]=>[]
 |s::l=>32::(s++rD l)
def tT:List Zc→Zc
 |[]=>[]
 |s::l=>s++rD l
theorem Cj:∀ l:List Zc,(rD l).length=l.length+lI l
 |[]=>rfl
 |s::l=>by simp only [rD,amk,al8,Cj l,lI];omega
theorem Ve{n:Nat}(h0:0<n)(h:n≤100000000):∃ q,mj .quo .i64 9223372036854775807 (n:Int)=some (.int .i64 q)∧decide (q≤1)=false:=by
 have hn:(n:Int)≠0:=by omega
 have hq:(2:Int)≤Int.tdiv 9223372036854775807 n:=by
  rw [aoh (by decide)];exact (Int.le_ediv_iff_mul_le (by omega)).2 (by omega)
 have hq2:Int.tdiv 9223372036854775807 n≤9223372036854775807:=by
  rw [aoh (by decide)];exact Int.ediv_le_self _ (by decide)
 refine ⟨Int.tdiv 9223372036854775807 n, ?_,amq (by omega)⟩;simp [mj,hn,eY (show -9223372036854775808≤Int.tdiv 9223372036854775807 n by omega) hq2];omega
theorem jn0{H H0:List Y4}{tg:Tag}{l:List Zc}(hc:bY H0 H)(k:List ZA):∀ (n i:Nat) (m:Nat) (hq:m+lI (l.drop i)≤1000000000) (hs:l.length≤1000000000) (He:List Y4),i+n=l.length →
  M.go jE H0 (.c mU :: .lp ⟨(some [0,1,5,39,40,41]),[],false⟩ mU He :: .ZU 1 :: .c (.lv [0,1,5])::k) (kv [(0,.slice tg 1 (l.map ak)),(1,.str [32]),(5,.int .i64 m),(39,.slice tg 1 (l.map ak)),(40,.int .i64 l.length),(41,.int .i64 i)]) H =
   (M.go jE H0 k (kv [(0,.slice tg 1 (l.map ak)),(1,.str [32]),(5,.int .i64 ((m+lI (l.drop i):Nat):Int))]) (H))
 |0,i,m,hq,hs,He,h=>by
  have e:i=l.length:=by omega
  subst e;rw [ah M mU.eq_1];simp (config:=apy) only [Zh M,↓Zi,Nat.reduceBEq,Nat.reduceAdd,env,ae,kP,ame,al9,lI,ann]
 |n+1,i,m,hq,hs,He,h=>by
  have hi:i<l.length:=by omega
  have hx:=al4 hi;have hd:=al6 hi;have hm:=amc hi;have ih:=fun m hq hs He=>jn0 (H:=H) (H0:=H0) (tg:=tg) (l:=l) hc k n (i+1) m hq hs He (by omega)
  simp only [Y6,Y8] at ih;have hx':=hx;rw [hd,lI] at hq;have ih2:=ih (m+l[i].length) (by omega) hs;have w1:IntKind.i64.wrap (9223372036854775807-(m:Int))=9223372036854775807-(m:Int):=eY (by omega) (by omega);have d1:decide ((9223372036854775807-(m:Int))<(l[i].length:Int))=false:=amq (by omega);have w2:IntKind.i64.wrap ((m:Int)+(l[i].length:Int))=((m+l[i].length:Nat):Int):=by rw [eY (by omega) (by omega)];omega
  have e3:m+lI (l.drop i)=m+l[i].length+lI (l.drop (i+1)):=by rw [hd,lI];omega
  rw [e3];rw [ah M mU.eq_1];simp (config:=apy) only [Zh M,↓Zi,Nat.reduceBEq,Nat.reduceAdd,env,ae,kP,hi,hx,w1,d1,w2,ih2,bt hi (show l.length≤aZ by simp only [aZ];omega),aE hi,dh]
theorem jn1(hC:yg E)(hX:nk M){N b:Nat}{T:TypeId}(hok:okB T=true){tg:Tag}{l:List Zc}(hl:l.length≤1000000000)(H0:List Y4):∀ (n i:Nat) (w:Zc) (G:List Y4),i+n=l.length→mA T N b G w→N≤G.length→w.length+(rD (l.drop i)).length≤1000000000 →
  ∃ G',mA T N b G' (w++rD (l.drop i))∧lG N b G G'∧∀ (k:List ZA) (He:List Y4),M.go jE H0 (.c mV :: .lp ⟨(some [1,8,63,64,65]),[],false⟩ mV He :: .ZU 3 :: .c (.lv [8])::k) (kv [(1,.str [32]),(8,.ptr b 0),(63,.slice tg 1 (l.map ak)),(64,.int .i64 l.length),(65,.int .i64 i)]) G=M.go jE H0 k (kv [(8,.ptr b 0)]) G'
 |0,i,w,G,h,hb,hN,hw=>by
  have e:i=l.length:=by omega
  subst e;rw [al9,rD,amt];refine ⟨G,hb,.refl _ _ _,fun k He => ?_⟩;rw [ah M mV.eq_1];simp (config:=apy) only [Zh M,↓Zi,Nat.reduceBEq,Nat.reduceAdd,env,ae,kP,ame]
 |n+1,i,w,G,h,hb,hN,hw=>by
  have hi:i<l.length:=by omega
  have hx:=al4 hi;have hd:=al6 hi;rw [hd,rD] at hw ⊢;simp only [amk,al8] at hw;obtain ⟨G1,r1,b1,t1⟩:=I3 M hC hX hok hb hN (u:=[32]) (by simp;omega);obtain ⟨G2,r2,b2,t2⟩:=I3 M hC hX hok b1 (ams hN t1.len) (u:=l[i]) (by simp;omega);obtain ⟨G3,b3,t3,r3⟩:=jn1 hC hX hok (tg:=tg) hl H0 n (i+1) _ G2 (by omega) b2 (ams hN (ams t1.len t2.len)) (by simp;omega)
  refine ⟨G3,by simpa [amr] using b3,(t1.trans t2).trans t3,fun k He => ?_⟩;have r3:=r3 k;simp only [Y6,Y8] at r3;rw [ah M mV.eq_1];simp (config:=apy) only [Zh M,↓Zi,Nat.reduceBEq,Nat.reduceAdd,env,ae,kP,hi,hx,r1,r2,r3,bt hi (show l.length≤aZ by simp only [aZ];omega),aE hi,dh]
theorem To(hC:yg E)(hX:nk M)(hJ:E.fn sV=some jE){tg:Tag}{ws:List Zc}(hn:ws.length+lI ws≤100000000)(H:List Y4) :
  M.run sV [.slice tg 1 (ws.map ak),.str [32]] H=some (.ret (.str (tT ws)),H):=by
 rw [au M hJ rfl (c:=wz) rfl,wz];cases ws with
 |nil=>simp (config:=apy) only [Zh M,↓Zi,Nat.reduceBEq,Nat.reduceAdd,env,ae,kP,anm,amw,tT,(show ((0:Nat):Int)=0 from rfl),(show ((0:Int) == 0)=true from rfl)]
 |cons x l=>
  cases l with
  |nil=>simp (config:=apy) only [Zh M,↓Zi,Nat.reduceBEq,Nat.reduceAdd,env,ae,kP,amN,anm,amk,amw,tT,rD,amt,(show ((0:Nat):Int)=0 from rfl),(show ((0+1:Nat):Int)=1 from rfl),(show ((1:Int) == 0)=false from rfl),(show ((1:Int) == 1)=true from rfl),(show qV 1 (.slice tg 1 [ak x]) (.int .i64 0)=some (.Zu 1 [ak x] 0 0) from rfl),amx,dh]
  |cons y l=>
   have hlen:(x::y::l).length=l.length+2:=rfl;have hS:lI (x::y::l)=x.length+(y.length+lI l):=rfl;rw [hlen,hS] at hn;have w1:IntKind.i64.wrap (((l.length+1+1:Nat):Int)-1)=((l.length+1:Nat):Int):=by rw [eY (by omega) (by omega)];omega
   have w2:IntKind.i64.wrap (1*((l.length+1:Nat):Int))=((l.length+1:Nat):Int):=by rw [eY (by omega) (by omega)];omega
   have w3:IntKind.i64.wrap (0+((l.length+1:Nat):Int))=((l.length+1:Nat):Int):=by rw [eY (by omega) (by omega)];omega
   have z1:(((l.length+1+1:Nat):Int) == 0)=false:=amg.2 (by omega);have z2:(((l.length+1+1:Nat):Int) == 1)=false:=amg.2 (by omega);obtain ⟨q,hq,hq1⟩:∃ q,mj .quo .i64 9223372036854775807 ((l.length+1:Nat):Int)=some (.int .i64 q)∧decide (q≤1)=false:=Ve (by omega) (by omega);have l0:=fun k He=>jn0 M (H:=H) (H0:=H) (tg:=tg) (l:=x::y::l) (Zt H) k (l.length+2) 0 (l.length+1) (by rw [amf,hS];omega) (by rw [hlen];omega) He (by rw [hlen];omega)
   rw [amf,hS] at l0;simp only [Y6,Y8,amj,amk] at l0;have hT:cT≠cq:=by decide
   have hok:okB cT=true:=by simp [okB]
   have hg:=Ri M hC hX H hok hT (n:=l.length+1+(x.length+(y.length+lI l))) (by omega) (by omega)
   have b0:mA cT H.length H.length (H++[B4 cT (.ptr H.length 0) (.Za (H.length+1) 0 0 1 true),.cells (List.replicate (l.length+1+(x.length+(y.length+lI l))) .ZW) cq]) []:=
    ⟨⟨_,_,by rw [cY];rfl,.inr rfl,.inr ⟨rfl,H.length+1,_,by omega,rfl,by rw [ZV];rfl⟩⟩,hT⟩
   have hlow:∀ i,i<H.length→(H++[B4 cT (.ptr H.length 0) (.Za (H.length+1) 0 0 1 true),.cells (List.replicate (l.length+1+(x.length+(y.length+lI l))) .ZW) cq])[i]?=H[i]? := fun i hi=>al7 hi
   have hlow2:H.length≤(H++[B4 cT (.ptr H.length 0) (.Za (H.length+1) 0 0 1 true),.cells (List.replicate (l.length+1+(x.length+(y.length+lI l))) .ZW) cq]).length:=by simp
   generalize H++[B4 cT (.ptr H.length 0) (.Za (H.length+1) 0 0 1 true),.cells (List.replicate (l.length+1+(x.length+(y.length+lI l))) .ZW) cq]=G0 at *
   obtain ⟨G1,r1,b1,t1⟩:=I3 M hC hX hok b0 hlow2 (u:=x) (by simp;omega);obtain ⟨G2,b2,t2,r2⟩:=jn1 M hC hX hok (tg:=.any) (l:=y::l) (by simp;omega) H (l.length+1) 0 _ G1 (by simp) b1 (ams hlow2 t1.len) (by rw [amf,Cj,lI];simp;omega);rw [amf] at b2;simp only [Y6,Y8,amj,amk] at r2;have hne:([]++x++rD (y::l))≠[]:=by simp [rD]
   have hs:=NA M hC b2 hne (by rw [al8,al8,Cj,lI];simp;omega);have tt:=t1.trans t2;have hl2:∀ i,i<H.length→G2[i]?=H[i]? := fun i hi=>(tt.low i hi (by omega)).trans (hlow i hi)
   have hl3:H.length≤G2.length:=ams hlow2 tt.len;have c1:=Hf hl3 hl2;have c2:=Er hl3 hl2
   have sl1:AN 1 (.slice tg 1 ((x::y::l).map ak)) (some (.int .i64 1)) none none=some (.slice .any 1 ((y::l).map ak)):=by
    have:=M7 (row:=ak) (tag:=tg) (sz:=1) (k:=.i64) (l:=x::y::l) (i:=1) (by simp) (by simp);simpa using this
   have l1:CX H .sl (.slice .any 1 ((y::l).map ak))=some (.int .i64 ((l.length+1:Nat):Int)):=by simp [CX]
   have hw:((l.length+1+(x.length+(y.length+lI l)):Nat):Int)=((l.length+1+(x.length+(y.length+lI l)):Nat):Int):=rfl;have gt:decide ((0:Int)<1)=true:=rfl;simp (config:=apy) only [Zh M,↓Zi,Nat.reduceBEq,Nat.reduceAdd,env,ae,kP,Zx,AV.cell,Nat.reduceMul,Nat.reduceLeDiff,amk,w1,w2,w3,z1,z2,hq,hq1,l0,hg,r1,r2,hs,c1,c2,sl1,l1,gt,tT,ZH,(show ((1:Nat):Int)=1 from rfl),(show ((0+1:Nat):Int)=1 from rfl),(show qV 1 (.slice tg 1 ((x::y::l).map ak)) (.int .i64 0)=some (.Zu 1 ((x::y::l).map ak) 0 0) from by simp [qV];omega),(show ((x::y::l).map ak)[0]?=some (ak x) from rfl),(show (x::y::l)[0]?=some x from rfl),dh]
end
section
attribute [local congr] aF aS cC bn aG aX aL aH az aA aM aN
variable{E:br}(M:cH bM E)
structure qN (E:br):Prop where
 aet:E.fn jt=some zP
 adI:E.fn im=some s6
 abn:E.fn mI=some jO
 acs:E.fn bC=some j8
 adL:E.fn sV=some jE
 abK:E.fn rr=some dk
 acb:E.fn cN=some qe
 ab3:E.fn i6=some jg
 abt:E.fn fm=some mR
 aaJ:E.fn fK=some nN
 aci:E.fn jz=some bb
 aas:E.fn oL=some oR
theorem Xd{s:Zc}{n:Nat}(h:n≤s.length):ET (.str s) none (some (.int .i64 (n:Int)))=some (.str (s.take n)):=by simp [ET,fX,h]
theorem Vf{s:Zc}{n:Nat}(h:n≤s.length):ET (.str s) (some (.int .i64 (n:Int))) none=some (.str (s.drop n)):=by
 have h2:(s.drop n).take (s.length-n)=s.drop n:=am8 (by simp);simp [ET,fX,h,h2]
theorem Xe{s:Zc}{i j:Nat}(h:i≤j)(hj:j≤s.length):ET (.str s) (some (.int .i64 (i:Int))) (some (.int .i64 (j:Int)))=some (.str ((s.drop i).take (j-i))):=by
 simp [ET,fX,h,hj]
theorem Vg:∀ m:Fin 128,IntKind.u64.wrap (m.1:Int)=(m.1:Int)∧IntKind.i32.wrap (m.1:Int)=(m.1:Int)∧IntKind.u64.wrap (48+(m.1:Int))=48+(m.1:Int)∧IntKind.i32.wrap (48+(m.1:Int))=48+(m.1:Int):=by decide
def cX(s:Zc):Zc:=if (s == [])=true then [45] else s
theorem B5(hP:qN E)(s:Zc)(H:List Y4):M.run jt [.str s] H=some (.ret (.str (cX s)),H):=by
 rw [au M hP.aet rfl (c:=zO) rfl,zO];cases h:(s == ([]:Zc))<;>simp (config:=apy) only [Zh M,↓Zi,Nat.reduceBEq,Nat.reduceAdd,env,ae,LP,h,cX]
theorem zg(hP:qN E)(s:Zc)(H:List Y4):M.run cN [.str s] H=some (.ret (.str (cX s)),H):=by
 rw [au M hP.acb rfl (c:=qd) rfl,qd];cases h:(s == ([]:Zc))<;>simp (config:=apy) only [Zh M,↓Zi,Nat.reduceBEq,Nat.reduceAdd,env,ae,BJ,h,cX]
theorem I4(hX:nk M)(hP:qN E){n:Nat}(hn:n<1000)(H:List Y4):M.run im [.int .i64 (n:Int)] H=some (.ret (.str (fJ n)),H):=by
 have h1:=fun H=>hX.fmt n H hn
 have h2:∀ H,M.run mI [.int .i64 (n:Int)] H=some (.ret (.str (fJ n)),H):=fun H=>by
  rw [au M hP.abn rfl (c:=mW) rfl,mW];simp (config:=apy) only [Zh M,↓Zi,Nat.reduceBEq,Nat.reduceAdd,env,ae,yC,h1]
 rw [au M hP.adI rfl (c:=wx) rfl,wx];simp (config:=apy) only [Zh M,↓Zi,Nat.reduceBEq,Nat.reduceAdd,env,ae,Iy,h2]
theorem PU:∀ n:Fin 10,(Utf8.encode (48+(n.1:Int))).data.toList=[UInt8.ofNat (48+n.1)]:=by decide
theorem Gj(hP:qN E){n:Nat}(hn:n<100)(H:List Y4):M.run fm [.int .i64 (n:Int)] H=some (.ret (.str (fJ n)),H):=by
 have dg:∀ (m:Nat) (H:List Y4),m<10→M.run fK [.int .u64 (m:Int)] H=some (.ret (.str [UInt8.ofNat (48+m)]),H):=fun m H hm=>by
  have d1:decide ((m:Int)<10)=true:=amu (by omega);obtain ⟨_,_,w1,w2⟩:=Vg ⟨m,by omega⟩;have e1:=PU ⟨m,hm⟩;rw [au M hP.aaJ rfl (c:=iK) rfl,iK];simp (config:=apy) only [Zh M,↓Zi,Nat.reduceBEq,Nat.reduceAdd,env,ae,s8,d1,w1,w2,RP,Mv,e1]
 have d2:∀ H,M.run fK [.int .u64 (n:Int)] H=some (.ret (.str (fJ n)),H):=fun H=>by
  by_cases h:n<10
  ·rw [dg n H h,fJ,if_pos h]
  ·have d1:decide ((n:Int)<10)=false:=amq (by omega)
   have q1:mj .quo .u64 (n:Int) 10=some (.int .u64 ((n / 10:Nat):Int)):=by
    simp only [mj];rw [if_neg (by decide)]
    have:Int.tdiv (n:Int) 10=((n / 10:Nat):Int):=by rw [aoh (by omega)];omega
    rw [this,(Vg ⟨n / 10,by omega⟩).1]
   have q2:mj .rem .u64 (n:Int) 10=some (.int .u64 ((n % 10:Nat):Int)):=by
    simp only [mj];rw [if_neg (by decide)]
    have:Int.tmod (n:Int) 10=((n % 10:Nat):Int):=by rw [Int.tmod_eq_emod_of_nonneg (by omega)];omega
    rw [this]
   have r1:=fun H=>dg (n / 10) H (by omega)
   obtain ⟨_,_,w1,w2⟩:=Vg ⟨n % 10,by omega⟩;have e1:=PU ⟨n % 10,by omega⟩;have F1:∀ a b:UInt8,nq .add [a] [b]=some (.str ([a]++[b])):=fun a b=>E3 (by simp)
   have e2:fJ n=[UInt8.ofNat (48+n / 10)]++[UInt8.ofNat (48+n % 10)]:=by rw [fJ,if_neg h,if_pos hn];rfl
   rw [e2];rw [au M hP.aaJ rfl (c:=iK) rfl,iK];simp (config:=apy) only [Zh M,↓Zi,Nat.reduceBEq,Nat.reduceAdd,env,ae,s8,d1,q1,q2,r1,w1,w2,RP,Mv,e1,F1]
 have d0:decide ((n:Int)<0)=false:=amq (by omega);have w0:IntKind.u64.wrap (n:Int)=(n:Int):=(Vg ⟨n,by omega⟩).1;rw [au M hP.abt rfl (c:=mQ) rfl,mQ];simp (config:=apy) only [Zh M,↓Zi,Nat.reduceBEq,Nat.reduceAdd,env,ae,yB,d0,w0,Mv,d2]
def feS(f:aw):Zc:=([32]++f.name)++[61]++f.value
def fW:List aw→Zc
 |[]=>[]
 |f::l=>feS f++fW l
theorem Tp(f:aw)(o:Zc)(h:o.length+(feS f).length≤1000000000):nq .add [32] f.name=some (.str ([32]++f.name))∧nq .add ([32]++f.name) [61]=some (.str (([32]++f.name)++[61]))∧nq .add (([32]++f.name)++[61]) f.value=some (.str (feS f))∧nq .add o (feS f)=some (.str (o++feS f)):=by
 simp only [feS,al8,amk,amw] at h;refine ⟨E3 ?_,E3 ?_,E3 ?_,E3 ?_⟩<;>simp only [feS,al8,amk,amw]<;>omega
theorem Yn{H H0:List Y4}{tg:Tag}{l:List aw}(hl:l.length≤aZ)(hc:bY H0 H)(k:List ZA):∀ (n i:Nat) (o:Zc) (ho:o.length+(fW (l.drop i)).length≤1000000000) (He:List Y4),i+n=l.length →
  M.go jg H0 (.c gT :: .lp ⟨(some [0,3,4]),[],false⟩ gT He :: .ZU 0 :: .c (.lv [3])::k) (kv [(0,.slice tg 2 (l.map aw.row)),(3,.str o),(4,.int .i64 i)]) H =
   (M.go jg H0 k (kv [(3,.str (o++fW (l.drop i)))]) (H))
 |0,i,o,ho,He,h=>by
  have e:i=l.length:=by omega
  subst e;rw [ah M gT.eq_1];simp (config:=apy) only [Zh M,↓Zi,Nat.reduceBEq,Nat.reduceAdd,env,ae,oW,ame,al9,fW,amt]
 |n+1,i,o,ho,He,h=>by
  have hi:i<l.length:=by omega
  have hx:=al4 hi;have hd:=al6 hi;have hm:=amc hi;have ih:=fun o ho He=>Yn (H:=H) (H0:=H0) (tg:=tg) (l:=l) (hl:=hl) hc k n (i+1) o ho He (by omega)
  simp only [Y6,Y8] at ih;rw [hd,fW] at ho;rw [al8] at ho;obtain ⟨F1,F2,F3,F4⟩:=Tp l[i] o (by omega);have ih2:=ih (o++feS l[i]) (by rw [al8];omega);have e3:o++fW (l.drop i)=(o++feS l[i])++fW (l.drop (i+1)):=by rw [hd,fW,amr]
  rw [e3];rw [ah M gT.eq_1];simp (config:=apy) only [Zh M,↓Zi,Nat.reduceBEq,Nat.reduceAdd,env,ae,oW,hi,hx,ih2,aE hi,pX,bt hi hl,F1,F2,F3,F4]
theorem Dl(hP:qN E){tg:Tag}{l:List aw}(hl:(fW l).length≤1000000000)(hm:l.length≤aZ)(H:List Y4):M.run i6 [.slice tg 2 (l.map aw.row)] H=some (.ret (.str (fW l)),H):=by
 have h0:=fun k He=>Yn M (H:=H) (H0:=H) (tg:=tg) hm (Zt H) k l.length 0 [] (by simpa using hl) He (by omega)
 simp only [Y6,Y8,amj,amf,amH] at h0;rw [au M hP.ab3 rfl (c:=oV) rfl,oV];simp (config:=apy) only [Zh M,↓Zi,Nat.reduceBEq,Nat.reduceAdd,env,ae,oW,h0]
theorem mA.more{T:TypeId}{N b:Nat}{G:List Y4}{w:Zc}(h:mA T N b G w)(L:List Y4):mA T N b (G++L) w:=by
 obtain ⟨⟨ad,bv,hg,ha,hv⟩,hT⟩:=h;refine ⟨⟨ad,bv,bR hg,ha, ?_⟩,hT⟩;rcases hv with h | ⟨rfl,t,cs,h1,rfl,h2⟩
 ·exact .inl (h.stay fun t _ ht=>by rw [al7 (dS ht)])
 ·exact .inr ⟨rfl,t,cs,h1,rfl,bR h2⟩
theorem lG.more(N b:Nat)(G L:List Y4)(hN:N≤G.length):lG N b G (G++L):=
 ⟨by simp,fun i hi _=>al7 (by omega),fun i x hx _ _=>bR hx⟩
theorem Vh(f:aw):(feS f).length=f.name.length+f.value.length+2:=by simp only [feS,al8,amk,amw];omega
theorem ln0(hC:yg E)(hX:nk M){N b:Nat}{T:TypeId}(hok:okB T=true){tg:Tag}{fs:List aw}(hl:fs.length≤1000000000)(H0:List Y4):∀ (n i:Nat) (w:Zc) (G:List Y4),i+n=fs.length→mA T N b G w→N≤G.length→w.length+(fW (fs.drop i)).length≤1000000000 →
  ∃ G',mA T N b G' (w++fW (fs.drop i))∧lG N b G G'∧∀ (k:List ZA) (He:List Y4),M.go j8 H0 (.c jf :: .lp ⟨(some [0,14,15,16]),[],false⟩ jf He :: .ZU 0 :: .c (.lv [0])::k) (kv [(0,.ptr b 0),(14,.slice tg 2 (fs.map aw.row)),(15,.int .i64 fs.length),(16,.int .i64 i)]) G=M.go j8 H0 k (kv [(0,.ptr b 0)]) G'
 |0,i,w,G,h,hb,hN,hw=>by
  have e:i=fs.length:=by omega
  subst e;rw [al9,fW,amt];refine ⟨G,hb,.refl _ _ _,fun k He => ?_⟩;rw [ah M jf.eq_1];simp (config:=apy) only [Zh M,↓Zi,Nat.reduceBEq,Nat.reduceAdd,env,ae,qZ,ame]
 |n+1,i,w,G,h,hb,hN,hw=>by
  have hi:i<fs.length:=by omega
  have hx:=al4 hi;have hd:=al6 hi;rw [hd,fW] at hw ⊢;rw [al8] at hw;obtain ⟨F1,F2,F3,_⟩:=Tp fs[i] [] (by simp;omega);simp only [amW,amH] at F1 F2 F3;have hN1:N≤(G++[Y4.cells fs[i].row aR]).length:=by simp;omega
  obtain ⟨G2,r2,b2,t2⟩:=I3 M hC hX hok (hb.more [.cells fs[i].row aR]) hN1 (u:=feS fs[i]) (by omega);obtain ⟨G3,b3,t3,r3⟩:=ln0 hC hX hok (tg:=tg) hl H0 n (i+1) _ G2 (by omega) b2 (ams hN1 t2.len) (by rw [al8];omega);refine ⟨G3,by simpa [amr] using b3,((lG.more N b G _ hN).trans t2).trans t3,fun k He => ?_⟩;have r3:=r3 k;simp only [Y6,Y8] at r3;rw [ah M jf.eq_1]
  simp (config:=apy) only [Zh M,↓Zi,Nat.reduceBEq,Nat.reduceAdd,env,ae,qZ,Zx,AV.cell,Nat.reduceMul,Nat.reduceLeDiff,rnc,hi,hx,pX,F1,F2,F3,r2,r3,bt hi (show fs.length≤aZ by simp only [aZ];omega),aE hi]
def pL(ws:List Zc)(fs:List aw):Zc:=tT ws++(fW fs++[10])
theorem KF:∀ ws:List Zc,(tT ws).length≤ws.length+lI ws
 |[]=>amp _
 |s::l=>by simp only [tT,al8,Cj,amk,lI];omega
theorem uS(hC:yg E)(hX:nk M)(hP:qN E){N b:Nat}{T:TypeId}(hok:okB T=true){G:List Y4}{w:Zc}(hb:mA T N b G w)(hN:N≤G.length){tf tw:Tag}{fs:List aw}{ws:List Zc}
  (hf:fs.length≤1000000000) (hn:ws.length+lI ws≤1000000) (hw:w.length+(fW fs).length≤900000000) :
  ∃ G',M.run bC [.ptr b 0,.slice tf 2 (fs.map aw.row),.slice tw 1 (ws.map ak)] G=some (.ret (.tuple []),G')∧mA T N b G' (w++pL ws fs)∧lG N b G G':=by
 have hj:=fun G=>To M hC hX hP.adL (tg:=tw) (ws:=ws) (by omega) G
 have hjl:=KF ws;obtain ⟨G1,r1,b1,t1⟩:=I3 M hC hX hok hb hN (u:=tT ws) (by omega);have hN1:=ams hN t1.len;obtain ⟨G2,b2,t2,r2⟩:=ln0 M hC hX hok (tg:=tf) hf G fs.length 0 _ G1 (by omega) b1 hN1 (by rw [amf,al8];omega);rw [amf] at b2;simp only [Y6,Y8,amj] at r2;obtain ⟨G3,r3,b3,t3⟩:=Xc M hC hX hok b2 (ams hN1 t2.len) (by rw [al8,al8];omega) 10
 refine ⟨G3, ?_,by simpa [pL,amr] using b3,(t1.trans t2).trans t3⟩;have r3':M.run eZ [.ptr b 0,.int .u8 10] G2=some (.ret .Zr,G3):=r3;rw [au M hP.acs rfl (c:=qY) rfl,qY];simp (config:=apy) only [Zh M,↓Zi,Nat.reduceBEq,Nat.reduceAdd,env,ae,qZ,Zx,AV.cell,Nat.reduceMul,Nat.reduceLeDiff,rnc,hj,r1,r2,r3']
end
section
attribute [local congr] aF aS cC bn aG aX aL aH az aA aM aN
variable{E:br}(M:cH bM E)
def db{α:Type}(f:α→Zc):List α→Zc
 |[]=>[]
 |x::l=>f x++db f l
theorem ow{α:Type}{f:α→Zc}{B:Nat}:∀ {l:List α},(∀ x∈l,(f x).length≤B)→(db f l).length≤l.length*B
 |[],_=>by simp [db]
 |x::l,h=>by
  have h1:=h x (.head _);have h2:=ow (l:=l) fun y hy=>h y (.tail _ hy)
  simp only [db,al8,amk,am7];omega
def FsB(fs:List aw):Prop:=fs.length≤8∧∀ f∈fs,f.name.length≤12∧f.value.length≤12
theorem KG:∀ fs:List aw,fW fs=db feS fs
 |[]=>rfl
 |f::l=>by rw [fW,db,KG l]
theorem FsB.len{fs:List aw}(h:FsB fs):(fW fs).length≤208:=by
 rw [KG];have:=ow (f:=feS) (B:=26) (l:=fs) fun f hf=>by rw [Vh];have:=h.2 f hf;omega
 have:=h.1;omega
theorem FsB.nil:FsB []:=⟨by simp,by simp⟩
def aae:Zc:=[116,114,97,105,116]
def kx:Zc:=[99,108,97,115,115]
def qQ:Zc:=[115,108,111,116]
def ky:Zc:=[101,110,116,114,121]
def qR:Zc:=[102,111,114,109]
def rf:Zc:=[115,112,101,108,108]
def vK:Zc:=[108,105,110,107]
def LX:Zc:=[118,111,119,101,108,115]
def qs(t:bf):Zc:=pL (aae::t.name::t.values.l) []
def uT(s:bU):Zc:=pL [qQ,fJ s.cut.toNat,cX s.pre,cX s.add] s.Zf.l
def mz(c:aV):Zc:=pL [kx,c.name] []++db uT c.Zd.l
def wO(f:bE):Zc:=pL [qR,fJ f.slot.toNat,cX f.word] []
def pE(x:aT):Zc:=pL [ky,x.lem,x.cls] x.Zf.l++db wO x.Zg.l
def sA(x:bL):Zc:=pL [rf,x.frm,cX x.to,cX x.left,cX x.right] []
def uU(x:dn):Zc:=pL [vK,x.cls,cX x.glue] x.Zf.l
def LY(v:Zc):Zc:=pL [LX,cX v] []
def qt(l:Lex):Zc:=LY l.Zs++(db qs l.Y9.l++(db mz l.Y7.l++(db pE l.entries.l++(db sA l.Ze.l++db uU l.Zm.l))))
def TrB(t:bf):Prop:=t.name.length≤12∧t.values.l.length≤8∧∀ v∈t.values.l,v.length≤12
def SlB(s:bU):Prop:=(0≤s.cut∧s.cut≤24)∧s.pre.length≤6∧s.add.length≤6∧FsB s.Zf.l
def ClB(c:aV):Prop:=c.name.length≤12∧c.Zd.l.length≤24∧∀ s∈c.Zd.l,SlB s
def IrB(f:bE):Prop:=(0≤f.slot∧f.slot<24)∧f.word.length≤24
def EnB(x:aT):Prop:=x.lem.length≤24∧x.cls.length≤12∧FsB x.Zf.l∧x.Zg.l.length≤24∧∀ f∈x.Zg.l,IrB f
def SpB(x:bL):Prop:=x.frm≠[]∧x.frm.length≤6∧x.to.length≤6∧x.left.length≤6∧x.right.length≤6
def LiB(x:dn):Prop:=x.cls.length≤12∧x.glue.length≤6∧FsB x.Zf.l
structure TxB (l:Lex):Prop where
 Z3:l.Zs.length≤256
 Y9:l.Y9.l.length≤8∧∀ t∈l.Y9.l,TrB t
 Y7:l.Y7.l.length≤16∧∀ c∈l.Y7.l,ClB c
 entries:l.entries.l.length≤128∧∀ x∈l.entries.l,EnB x
 Ze:l.Ze.l.length≤16∧∀ x∈l.Ze.l,SpB x
 Zm:l.Zm.l.length≤8∧∀ x∈l.Zm.l,LiB x
theorem jm(s:Zc):(cX s).length≤s.length+1:=by
 unfold cX;split<;>simp
theorem Hg(n:Nat):(fJ n).length≤3:=by
 unfold fJ;split;· simp
 ·split<;>simp
theorem PV{B:Nat}:∀ {l:List Zc},(∀ s∈l,s.length≤B)→lI l≤l.length*B
 |[],_=>by simp [lI]
 |x::l,h=>by
  have h1:=h x (.head _);have h2:=PV (l:=l) fun y hy=>h y (.tail _ hy)
  simp only [lI,amk,am7];omega
theorem oK(ws:List Zc)(fs:List aw):(pL ws fs).length≤ws.length+lI ws+(fW fs).length+1:=by
 have:=KF ws;simp only [pL,al8,amk,amw];omega
theorem TrB.ws{t:bf}(h:TrB t):(aae::t.name::t.values.l).length+lI (aae::t.name::t.values.l)≤500:=by
 have h1:=PV (l:=t.values.l) h.2.2;have h2:=h.1;have h3:=h.2.1
 have:aae.length=5:=rfl
 simp only [amk,lI];omega
theorem TrB.len{t:bf}(h:TrB t):(qs t).length≤1000:=by
 have h1:=h.ws;have h2:=oK (aae::t.name::t.values.l) [];have h3:(fW []).length=0:=rfl;unfold qs;omega
theorem SlB.ws{s:bU}(h:SlB s):([qQ,fJ s.cut.toNat,cX s.pre,cX s.add]:List Zc).length+lI [qQ,fJ s.cut.toNat,cX s.pre,cX s.add]≤500:=by
 have h1:=jm s.pre;have h2:=jm s.add;have h3:=Hg s.cut.toNat;have:=h.2.1;have:=h.2.2.1
 have:qQ.length=4:=rfl
 simp only [amk,amw,lI];omega
theorem SlB.len{s:bU}(h:SlB s):(uT s).length≤1000:=by
 have h1:=h.ws;have h2:=oK [qQ,fJ s.cut.toNat,cX s.pre,cX s.add] s.Zf.l;have h3:=h.2.2.2.len;unfold uT;omega
theorem ClB.ws{c:aV}(h:ClB c):([kx,c.name]:List Zc).length+lI [kx,c.name]≤500:=by
 have:=h.1
 have:kx.length=5:=rfl
 simp only [amk,amw,lI];omega
theorem ClB.len{c:aV}(h:ClB c):(mz c).length≤25000:=by
 have h1:=h.ws;have h2:=oK [kx,c.name] [];have h3:(fW []).length=0:=rfl;have h4:=ow (f:=uT) (B:=1000) (l:=c.Zd.l) fun s hs=>(h.2.2 s hs).len
 have h5:=h.2.1;unfold mz;rw [al8];omega
theorem IrB.ws{f:bE}(h:IrB f):([qR,fJ f.slot.toNat,cX f.word]:List Zc).length+lI [qR,fJ f.slot.toNat,cX f.word]≤500:=by
 have h1:=jm f.word;have h3:=Hg f.slot.toNat;have:=h.2
 have:qR.length=4:=rfl
 simp only [amk,amw,lI];omega
theorem IrB.len{f:bE}(h:IrB f):(wO f).length≤1000:=by
 have h1:=h.ws;have h2:=oK [qR,fJ f.slot.toNat,cX f.word] [];have h3:(fW []).length=0:=rfl;unfold wO;omega
theorem EnB.ws{x:aT}(h:EnB x):([ky,x.lem,x.cls]:List Zc).length+lI [ky,x.lem,x.cls]≤500:=by
 have:=h.1;have:=h.2.1
 have:ky.length=5:=rfl
 simp only [amk,amw,lI];omega
theorem EnB.len{x:aT}(h:EnB x):(pE x).length≤25000:=by
 have h1:=h.ws;have h2:=oK [ky,x.lem,x.cls] x.Zf.l;have h3:=h.2.2.1.len;have h4:=ow (f:=wO) (B:=1000) (l:=x.Zg.l) fun s hs=>(h.2.2.2.2 s hs).len
 have h5:=h.2.2.2.1;unfold pE;rw [al8];omega
theorem SpB.ws{x:bL}(h:SpB x):([rf,x.frm,cX x.to,cX x.left,cX x.right]:List Zc).length+lI [rf,x.frm,cX x.to,cX x.left,cX x.right]≤500:=by
 have h1:=jm x.to;have h2:=jm x.left;have h3:=jm x.right;obtain ⟨_,_,_,_,_⟩:=h
 have:rf.length=5:=rfl
 simp only [amk,amw,lI];omega
theorem SpB.len{x:bL}(h:SpB x):(sA x).length≤1000:=by
 have h1:=h.ws;have h2:=oK [rf,x.frm,cX x.to,cX x.left,cX x.right] [];have h3:(fW []).length=0:=rfl;unfold sA;omega
theorem LiB.ws{x:dn}(h:LiB x):([vK,x.cls,cX x.glue]:List Zc).length+lI [vK,x.cls,cX x.glue]≤500:=by
 have h1:=jm x.glue;have:=h.1;have:=h.2.1
 have:vK.length=4:=rfl
 simp only [amk,amw,lI];omega
theorem LiB.len{x:dn}(h:LiB x):(uU x).length≤1000:=by
 have h1:=h.ws;have h2:=oK [vK,x.cls,cX x.glue] x.Zf.l;have h3:=h.2.2.len;unfold uU;omega
theorem Tq(G:List Y4){ws vs:List Zc}(tg:Tag)(h:ws.length+vs.length≤1000):∃ tg' L,rap false G aI 1 16 false (.slice .full 1 (ws.map ak)) (.slice tg 1 (vs.map ak))=some (.slice tg' 1 ((ws++vs).map ak),G++L):=by
 cases vs with
 |nil=>
  refine ⟨.full,[], ?_⟩;simp [rap,yq,xJ,sg];simp at h;omega
 |cons v vs=>
  refine ⟨.own G.length,[.tok ((ws.length+(v::vs).length)*1) aI], ?_⟩;have hr:sg 1 ((v::vs).map ak)=true:=by simp [sg,ak,AV.cell]
  have hs:((v::vs).map ak).map (·.map AV.strip)=(v::vs).map ak:=by simp [ak,AV.strip]
  have hl:((v::vs).map ak).length=vs.length+1:=by simp
  simp only [amk] at h;simp only [rap,yq,xJ,or_true,if_true,true_and,hr,hs,ama,amk];rw [if_pos ⟨by omega,by omega,trivial⟩];simp [ak,AV.strip]
end
section
attribute [local congr] aF aS cC bn aG aX aL aH az aA aM aN
variable{E:br}(M:cH bM E)
theorem okW:okB aO=true:=by decide
theorem SlB.fs{s:bU}(h:SlB s):FsB s.Zf.l:=h.2.2.2
theorem EnB.fs{x:aT}(h:EnB x):FsB x.Zf.l:=h.2.2.1
theorem LiB.fs{x:dn}(h:LiB x):FsB x.Zf.l:=h.2.2
theorem SlB.num{s:bU}(h:SlB s):∃ n:Nat,s.cut=(n:Int)∧n<100∧s.cut.toNat=n:=⟨s.cut.toNat,by have:=h.1;omega,by have:=h.1;omega,rfl⟩
theorem IrB.num{s:bE}(h:IrB s):∃ n:Nat,s.slot=(n:Int)∧n<100∧s.slot.toNat=n:=⟨s.slot.toNat,by have:=h.1;omega,by have:=h.1;omega,rfl⟩
theorem pr0(hC:yg E)(hX:nk M)(hP:qN E){N b p:Nat}{tg:Tag}{ts:List bf}(hts:ts.length≤128∧∀ t∈ts,TrB t)(H0:List Y4):∀ (n i:Nat) (w:Zc) (G:List Y4),i+n=ts.length→mA aO N b G w→N≤G.length→w.length+n*1000≤100000000 →
  ∃ G',mA aO N b G' (w++db qs (ts.drop i))∧lG N b G G'∧∀ (k:List ZA) (He:List Y4),M.go dk H0 (.c n5 :: .lp ⟨(some [1,5,31,32,33]),[],false⟩ n5 He :: .ZU 0 :: .c (.lv [1,5])::k) (kv [(1,.ptr p 0),(5,.ptr b 0),(31,.slice tg 2 (ts.map bf.row)),(32,.int .i64 ts.length),(33,.int .i64 i)]) G=M.go dk H0 k (kv [(1,.ptr p 0),(5,.ptr b 0)]) G'
 |0,i,w,G,h,hb,hN,hw=>by
  have e:i=ts.length:=by omega
  subst e;rw [al9,db,amt];refine ⟨G,hb,.refl _ _ _,fun k He => ?_⟩;rw [ah M n5.eq_1];simp (config:=apy) only [Zh M,↓Zi,Nat.reduceBEq,Nat.reduceAdd,env,ae,dm,ame]
 |n+1,i,w,G,h,hb,hN,hw=>by
  have hi:i<ts.length:=by omega
  have hx:=al4 hi;have hd:=al6 hi;have hm:=hts.2 ts[i] (amc hi);have hml:=hm.len;have hws:=hm.ws;have hil:=aE (row:=bf.row) (tag:=tg) (sz:=2) (k:=.i64) hi;have hwr:=bt hi (show ts.length≤aZ by have:=hts.1;simp only [aZ];omega);rw [hd,db];have hN1:N≤(G++[Y4.cells ts[i].row bW]).length:=by simp;omega
  obtain ⟨tg',L,ha⟩:=Tq (G++[Y4.cells ts[i].row bW]) (ws:=[aae,ts[i].name]) (vs:=ts[i].values.l) ts[i].values.tag (by have:=hm.2.1;simp;omega);have ha:rap false (G++[Y4.cells ts[i].row bW]) aI 1 16 false (.slice .full 1 [[.str [116,114,97,105,116]],[.str ts[i].name]]) (.slice ts[i].values.tag 1 (ts[i].values.l.map ak))=_:=ha;have hN2:N≤((G++[Y4.cells ts[i].row bW])++L).length:=by rw [al8];omega
  obtain ⟨G2,r2,b2,t2⟩:=uS M hC hX hP okW ((hb.more [Y4.cells ts[i].row bW]).more L) hN2 (tf:=.nil) (fs:=[]) (tw:=tg') (ws:=[aae,ts[i].name]++ts[i].values.l) (by simp) (by simp only [amW,amH];omega) (by simp [fW];omega);have r2:M.run bC [.ptr b 0,.slice .nil 2 [],.slice tg' 1 (([aae,ts[i].name]++ts[i].values.l).map ak)] ((G++[Y4.cells ts[i].row bW])++L)=some (.ret (.tuple []),G2):=r2
  simp only [amr,amW,amH] at ha r2;have b2:mA aO N b G2 (w++qs ts[i]):=b2;have hd2:w.length+(n+1)*1000=w.length+1000+n*1000:=by rw [am7];omega
  obtain ⟨G3,b3,t3,r3⟩:=pr0 hC hX hP (p:=p) (tg:=tg) hts H0 n (i+1) _ G2 (by omega) b2 (ams hN2 t2.len) (by rw [al8];omega);refine ⟨G3,by simpa [amr] using b3,(((lG.more N b G _ hN).trans (lG.more N b _ L hN1)).trans t2).trans t3,fun k He => ?_⟩;have r3:=r3 k;simp only [Y6,Y8] at r3;rw [ah M n5.eq_1];simp (config:=apy) only [Zh M,↓Zi,Nat.reduceBEq,Nat.reduceAdd,env,ae,dm,Zx,AV.cell,Nat.reduceMul,Nat.reduceLeDiff,rnc,hi,hx,kI,hwr,hil,r3,ha,r2]
theorem pr1(hC:yg E)(hX:nk M)(hP:qN E){N b p:Nat}{x46 x47 x48:AV}{tg:Tag}{ts:List bU}(hts:ts.length≤24∧∀ t∈ts,SlB t)(H0:List Y4):∀ (n i:Nat) (w:Zc) (G:List Y4),i+n=ts.length→mA aO N b G w→N≤G.length→w.length+n*1000≤100000000 →
  ∃ G',mA aO N b G' (w++db uT (ts.drop i))∧lG N b G G'∧∀ (k:List ZA) (He:List Y4),M.go dk H0 (.c n6 :: .lp ⟨(some [1,5,46,47,48,57,58,59]),[],false⟩ n6 He :: .ZU 4 :: .c (.lv [1,5,46,47,48])::k) (kv [(1,.ptr p 0),(5,.ptr b 0),(46,x46),(47,x47),(48,x48),(57,.slice tg 4 (ts.map bU.row)),(58,.int .i64 ts.length),(59,.int .i64 i)]) G=M.go dk H0 k (kv [(1,.ptr p 0),(5,.ptr b 0),(46,x46),(47,x47),(48,x48)]) G'
 |0,i,w,G,h,hb,hN,hw=>by
  have e:i=ts.length:=by omega
  subst e;rw [al9,db,amt];refine ⟨G,hb,.refl _ _ _,fun k He => ?_⟩;rw [ah M n6.eq_1];simp (config:=apy) only [Zh M,↓Zi,Nat.reduceBEq,Nat.reduceAdd,env,ae,dm,ame]
 |n+1,i,w,G,h,hb,hN,hw=>by
  have hi:i<ts.length:=by omega
  have hx:=al4 hi;have hd:=al6 hi;have hm:=hts.2 ts[i] (amc hi);have hml:=hm.len;have hws:=hm.ws;have hil:=aE (row:=bU.row) (tag:=tg) (sz:=4) (k:=.i64) hi;have hwr:=bt hi (show ts.length≤aZ by have:=hts.1;simp only [aZ];omega);rw [hd,db];have hN1:N≤(G++[Y4.cells ts[i].row bX]).length:=by simp;omega
  have dash:=fun s H=>B5 M hP s H
  have hit:∀ H,M.run im [.int .i64 ts[i].cut] H=some (.ret (.str (fJ ts[i].cut.toNat)),H):=fun H=>by
   obtain ⟨m,h1,h2,h3⟩:=hm.num;rw [h3,h1];exact I4 M hX hP (by omega) H
  obtain ⟨G2,r2,b2,t2⟩:=uS M hC hX hP okW (hb.more [Y4.cells ts[i].row bX]) hN1 (tf:=ts[i].Zf.tag) (fs:=ts[i].Zf.l) (tw:=.full) (ws:=[qQ,fJ ts[i].cut.toNat,cX ts[i].pre,cX ts[i].add]) (by have:=hm.fs.1;omega) (by omega) (by have:=hm.fs.len;omega);have r2:M.run bC [.ptr b 0,.slice ts[i].Zf.tag 2 (ts[i].Zf.l.map aw.row),.slice .full 1 [[.str [115,108,111,116]],[.str (fJ ts[i].cut.toNat)],[.str (cX ts[i].pre)],[.str (cX ts[i].add)]]] (G++[Y4.cells ts[i].row bX])=some (.ret (.tuple []),G2):=r2
  have b2:mA aO N b G2 (w++uT ts[i]):=b2;have hd2:w.length+(n+1)*1000=w.length+1000+n*1000:=by rw [am7];omega
  obtain ⟨G3,b3,t3,r3⟩:=pr1 hC hX hP (p:=p) (x46:=x46) (x47:=x47) (x48:=x48) (tg:=tg) hts H0 n (i+1) _ G2 (by omega) b2 (ams hN1 t2.len) (by rw [al8];omega);refine ⟨G3,by simpa [amr] using b3,((lG.more N b G _ hN).trans t2).trans t3,fun k He => ?_⟩;have r3:=r3 k;simp only [Y6,Y8] at r3;rw [ah M n6.eq_1];simp (config:=apy) only [Zh M,↓Zi,Nat.reduceBEq,Nat.reduceAdd,env,ae,dm,Zx,AV.cell,Nat.reduceMul,Nat.reduceLeDiff,rnc,hi,hx,CJ,hwr,hil,r3,r2,dash,hit]
theorem pr3(hC:yg E)(hX:nk M)(hP:qN E){N b p:Nat}{x46 x47 x48:AV}{tg:Tag}{ts:List bE}(hts:ts.length≤24∧∀ t∈ts,IrB t)(H0:List Y4):∀ (n i:Nat) (w:Zc) (G:List Y4),i+n=ts.length→mA aO N b G w→N≤G.length→w.length+n*1000≤100000000 →
  ∃ G',mA aO N b G' (w++db wO (ts.drop i))∧lG N b G G'∧∀ (k:List ZA) (He:List Y4),M.go dk H0 (.c n8 :: .lp ⟨(some [1,5,79,80,81,94,95,96]),[],false⟩ n8 He :: .ZU 8 :: .c (.lv [1,5,79,80,81])::k) (kv [(1,.ptr p 0),(5,.ptr b 0),(79,x46),(80,x47),(81,x48),(94,.slice tg 2 (ts.map bE.row)),(95,.int .i64 ts.length),(96,.int .i64 i)]) G=M.go dk H0 k (kv [(1,.ptr p 0),(5,.ptr b 0),(79,x46),(80,x47),(81,x48)]) G'
 |0,i,w,G,h,hb,hN,hw=>by
  have e:i=ts.length:=by omega
  subst e;rw [al9,db,amt];refine ⟨G,hb,.refl _ _ _,fun k He => ?_⟩;rw [ah M n8.eq_1];simp (config:=apy) only [Zh M,↓Zi,Nat.reduceBEq,Nat.reduceAdd,env,ae,dm,ame]
 |n+1,i,w,G,h,hb,hN,hw=>by
  have hi:i<ts.length:=by omega
  have hx:=al4 hi;have hd:=al6 hi;have hm:=hts.2 ts[i] (amc hi);have hml:=hm.len;have hws:=hm.ws;have hil:=aE (row:=bE.row) (tag:=tg) (sz:=2) (k:=.i64) hi;have hwr:=bt hi (show ts.length≤aZ by have:=hts.1;simp only [aZ];omega);rw [hd,db];have hN1:N≤(G++[Y4.cells ts[i].row bk]).length:=by simp;omega
  have dash:=fun s H=>B5 M hP s H
  have hit:∀ H,M.run im [.int .i64 ts[i].slot] H=some (.ret (.str (fJ ts[i].slot.toNat)),H):=fun H=>by
   obtain ⟨m,h1,h2,h3⟩:=hm.num;rw [h3,h1];exact I4 M hX hP (by omega) H
  obtain ⟨G2,r2,b2,t2⟩:=uS M hC hX hP okW (hb.more [Y4.cells ts[i].row bk]) hN1 (tf:=.nil) (fs:=[]) (tw:=.full) (ws:=[qR,fJ ts[i].slot.toNat,cX ts[i].word]) (by simp) (by omega) (by simp [fW];omega);have r2:M.run bC [.ptr b 0,.slice .nil 2 [],.slice .full 1 [[.str [102,111,114,109]],[.str (fJ ts[i].slot.toNat)],[.str (cX ts[i].word)]]] (G++[Y4.cells ts[i].row bk])=some (.ret (.tuple []),G2):=r2
  have b2:mA aO N b G2 (w++wO ts[i]):=b2;have hd2:w.length+(n+1)*1000=w.length+1000+n*1000:=by rw [am7];omega
  obtain ⟨G3,b3,t3,r3⟩:=pr3 hC hX hP (p:=p) (x46:=x46) (x47:=x47) (x48:=x48) (tg:=tg) hts H0 n (i+1) _ G2 (by omega) b2 (ams hN1 t2.len) (by rw [al8];omega);refine ⟨G3,by simpa [amr] using b3,((lG.more N b G _ hN).trans t2).trans t3,fun k He => ?_⟩;have r3:=r3 k;simp only [Y6,Y8] at r3;rw [ah M n8.eq_1];simp (config:=apy) only [Zh M,↓Zi,Nat.reduceBEq,Nat.reduceAdd,env,ae,dm,Zx,AV.cell,Nat.reduceMul,Nat.reduceLeDiff,rnc,hi,hx,zF,hwr,hil,r3,r2,dash,hit]
theorem pr5(hC:yg E)(hX:nk M)(hP:qN E){N b p:Nat}{tg:Tag}{ts:List bL}(hts:ts.length≤128∧∀ t∈ts,SpB t)(H0:List Y4):∀ (n i:Nat) (w:Zc) (G:List Y4),i+n=ts.length→mA aO N b G w→N≤G.length→w.length+n*1000≤100000000 →
  ∃ G',mA aO N b G' (w++db sA (ts.drop i))∧lG N b G G'∧∀ (k:List ZA) (He:List Y4),M.go dk H0 (.c oa :: .lp ⟨(some [1,5,111,112,113]),[],false⟩ oa He :: .ZU 10 :: .c (.lv [1,5])::k) (kv [(1,.ptr p 0),(5,.ptr b 0),(111,.slice tg 4 (ts.map bL.row)),(112,.int .i64 ts.length),(113,.int .i64 i)]) G=M.go dk H0 k (kv [(1,.ptr p 0),(5,.ptr b 0)]) G'
 |0,i,w,G,h,hb,hN,hw=>by
  have e:i=ts.length:=by omega
  subst e;rw [al9,db,amt];refine ⟨G,hb,.refl _ _ _,fun k He => ?_⟩;rw [ah M oa.eq_1];simp (config:=apy) only [Zh M,↓Zi,Nat.reduceBEq,Nat.reduceAdd,env,ae,dm,ame]
 |n+1,i,w,G,h,hb,hN,hw=>by
  have hi:i<ts.length:=by omega
  have hx:=al4 hi;have hd:=al6 hi;have hm:=hts.2 ts[i] (amc hi);have hml:=hm.len;have hws:=hm.ws;have hil:=aE (row:=bL.row) (tag:=tg) (sz:=4) (k:=.i64) hi;have hwr:=bt hi (show ts.length≤aZ by have:=hts.1;simp only [aZ];omega);rw [hd,db];have hN1:N≤(G++[Y4.cells ts[i].row di]).length:=by simp;omega
  have dash:=fun s H=>B5 M hP s H
  obtain ⟨G2,r2,b2,t2⟩:=uS M hC hX hP okW (hb.more [Y4.cells ts[i].row di]) hN1 (tf:=.nil) (fs:=[]) (tw:=.full) (ws:=[rf,ts[i].frm,cX ts[i].to,cX ts[i].left,cX ts[i].right]) (by simp) (by omega) (by simp [fW];omega);have r2:M.run bC [.ptr b 0,.slice .nil 2 [],.slice .full 1 [[.str [115,112,101,108,108]],[.str ts[i].frm],[.str (cX ts[i].to)],[.str (cX ts[i].left)],[.str (cX ts[i].right)]]] (G++[Y4.cells ts[i].row di])=some (.ret (.tuple []),G2):=r2
  have b2:mA aO N b G2 (w++sA ts[i]):=b2;have hd2:w.length+(n+1)*1000=w.length+1000+n*1000:=by rw [am7];omega
  obtain ⟨G3,b3,t3,r3⟩:=pr5 hC hX hP (p:=p) (tg:=tg) hts H0 n (i+1) _ G2 (by omega) b2 (ams hN1 t2.len) (by rw [al8];omega);refine ⟨G3,by simpa [amr] using b3,((lG.more N b G _ hN).trans t2).trans t3,fun k He => ?_⟩;have r3:=r3 k;simp only [Y6,Y8] at r3;rw [ah M oa.eq_1];simp (config:=apy) only [Zh M,↓Zi,Nat.reduceBEq,Nat.reduceAdd,env,ae,dm,Zx,AV.cell,Nat.reduceMul,Nat.reduceLeDiff,rnc,hi,hx,C4,hwr,hil,r3,r2,dash]
theorem pr6(hC:yg E)(hX:nk M)(hP:qN E){N b p:Nat}{tg:Tag}{ts:List dn}(hts:ts.length≤128∧∀ t∈ts,LiB t)(H0:List Y4):∀ (n i:Nat) (w:Zc) (G:List Y4),i+n=ts.length→mA aO N b G w→N≤G.length→w.length+n*1000≤100000000 →
  ∃ G',mA aO N b G' (w++db uU (ts.drop i))∧lG N b G G'∧∀ (k:List ZA) (He:List Y4),M.go dk H0 (.c oc :: .lp ⟨(some [5,132,133,134]),[],false⟩ oc He :: .ZU 12 :: .c (.lv [5])::k) (kv [(5,.ptr b 0),(132,.slice tg 3 (ts.map dn.row)),(133,.int .i64 ts.length),(134,.int .i64 i)]) G=M.go dk H0 k (kv [(5,.ptr b 0)]) G'
 |0,i,w,G,h,hb,hN,hw=>by
  have e:i=ts.length:=by omega
  subst e;rw [al9,db,amt];refine ⟨G,hb,.refl _ _ _,fun k He => ?_⟩;rw [ah M oc.eq_1];simp (config:=apy) only [Zh M,↓Zi,Nat.reduceBEq,Nat.reduceAdd,env,ae,dm,ame]
 |n+1,i,w,G,h,hb,hN,hw=>by
  have hi:i<ts.length:=by omega
  have hx:=al4 hi;have hd:=al6 hi;have hm:=hts.2 ts[i] (amc hi);have hml:=hm.len;have hws:=hm.ws;have hil:=aE (row:=dn.row) (tag:=tg) (sz:=3) (k:=.i64) hi;have hwr:=bt hi (show ts.length≤aZ by have:=hts.1;simp only [aZ];omega);rw [hd,db];have hN1:N≤(G++[Y4.cells ts[i].row eo]).length:=by simp;omega
  have dash:=fun s H=>B5 M hP s H
  obtain ⟨G2,r2,b2,t2⟩:=uS M hC hX hP okW (hb.more [Y4.cells ts[i].row eo]) hN1 (tf:=ts[i].Zf.tag) (fs:=ts[i].Zf.l) (tw:=.full) (ws:=[vK,ts[i].cls,cX ts[i].glue]) (by have:=hm.fs.1;omega) (by omega) (by have:=hm.fs.len;omega);have r2:M.run bC [.ptr b 0,.slice ts[i].Zf.tag 2 (ts[i].Zf.l.map aw.row),.slice .full 1 [[.str [108,105,110,107]],[.str ts[i].cls],[.str (cX ts[i].glue)]]] (G++[Y4.cells ts[i].row eo])=some (.ret (.tuple []),G2):=r2
  have b2:mA aO N b G2 (w++uU ts[i]):=b2;have hd2:w.length+(n+1)*1000=w.length+1000+n*1000:=by rw [am7];omega
  obtain ⟨G3,b3,t3,r3⟩:=pr6 hC hX hP (p:=p) (tg:=tg) hts H0 n (i+1) _ G2 (by omega) b2 (ams hN1 t2.len) (by rw [al8];omega);refine ⟨G3,by simpa [amr] using b3,((lG.more N b G _ hN).trans t2).trans t3,fun k He => ?_⟩;have r3:=r3 k;simp only [Y6,Y8] at r3;rw [ah M oc.eq_1];simp (config:=apy) only [Zh M,↓Zi,Nat.reduceBEq,Nat.reduceAdd,env,ae,dm,Zx,AV.cell,Nat.reduceMul,Nat.reduceLeDiff,rnc,hi,hx,Gi,hwr,hil,r3,r2,dash]
theorem mA.lt{T:TypeId}{N b:Nat}{G:List Y4}{w:Zc}(h:mA T N b G w):b<G.length:=by
 obtain ⟨⟨_,_,hg,_⟩,_⟩:=h;exact dS hg
theorem pr2(hC:yg E)(hX:nk M)(hP:qN E){N b p:Nat}{tg:Tag}{ts:List aV}(hts:ts.length≤16∧∀ t∈ts,ClB t)(H0:List Y4):∀ (n i:Nat) (w:Zc) (G:List Y4),i+n=ts.length→mA aO N b G w→N≤G.length→w.length+n*25000≤100000000 →
  ∃ G',mA aO N b G' (w++db mz (ts.drop i))∧lG N b G G'∧∀ (k:List ZA) (He:List Y4),M.go dk H0 (.c n7 :: .lp ⟨(some [1,5,46,47,48]),[],false⟩ n7 He :: .ZU 2 :: .c (.lv [1,5])::k) (kv [(1,.ptr p 0),(5,.ptr b 0),(46,.slice tg 2 (ts.map aV.row)),(47,.int .i64 ts.length),(48,.int .i64 i)]) G=M.go dk H0 k (kv [(1,.ptr p 0),(5,.ptr b 0)]) G'
 |0,i,w,G,h,hb,hN,hw=>by
  have e:i=ts.length:=by omega
  subst e;rw [al9,db,amt];refine ⟨G,hb,.refl _ _ _,fun k He => ?_⟩;rw [ah M n7.eq_1];simp (config:=apy) only [Zh M,↓Zi,Nat.reduceBEq,Nat.reduceAdd,env,ae,dm,ame]
 |n+1,i,w,G,h,hb,hN,hw=>by
  have hi:i<ts.length:=by omega
  have hx:=al4 hi;have hd:=al6 hi;have hm:=hts.2 ts[i] (amc hi);have hml:=hm.len;have hws:=hm.ws;have hil:=aE (row:=aV.row) (tag:=tg) (sz:=2) (k:=.i64) hi;have hwr:=bt hi (show ts.length≤aZ by have:=hts.1;simp only [aZ];omega);rw [hd,db];have hN1:N≤(G++[Y4.cells ts[i].row aJ]).length:=by simp;omega
  obtain ⟨Ga,ra,ba,ta⟩:=uS M hC hX hP okW (hb.more [Y4.cells ts[i].row aJ]) hN1 (tf:=.nil) (fs:=[]) (tw:=.full) (ws:=[kx,ts[i].name]) (by simp) (by omega) (by simp [fW];omega);have ra:M.run bC [.ptr b 0,.slice .nil 2 [],.slice .full 1 [[.str [99,108,97,115,115]],[.str ts[i].name]]] (G++[Y4.cells ts[i].row aJ])=some (.ret (.tuple []),Ga):=ra;have hga:Ga[G.length]?=some (.cells ts[i].row aJ):=ta.obj G.length _ (by rw [cY];rfl) (by have:=hb.lt;omega) (by rintro (⟨_,e⟩ | ⟨_,e⟩)<;>cases e)
  have hsub:ts[i].Zd.l.length≤24∧∀ s∈ts[i].Zd.l,SlB s:=hm.2
  have hla:(pL [kx,ts[i].name] []).length≤1000:=by
   have:=oK [kx,ts[i].name] []
   have:(fW []).length≤208:=by simp [fW]
   omega
  obtain ⟨G2,b2,t2',r2⟩:=pr1 M hC hX hP (p:=p) (x46:=.slice tg 2 (ts.map aV.row)) (x47:=.int .i64 ts.length) (x48:=.int .i64 i) (tg:=ts[i].Zd.tag) hsub H0 ts[i].Zd.l.length 0 _ Ga (by omega) ba (ams hN1 ta.len) (by rw [al8];have:=hsub.1;omega);rw [amf] at b2;simp only [Y6,Y8,amj] at r2;have t2:=ta.trans t2';have b2:mA aO N b G2 (w++mz ts[i]):=by simpa [mz,amr] using b2
  have hd2:w.length+(n+1)*25000=w.length+25000+n*25000:=by rw [am7];omega
  obtain ⟨G3,b3,t3,r3⟩:=pr2 hC hX hP (p:=p) (tg:=tg) hts H0 n (i+1) _ G2 (by omega) b2 (ams hN1 t2.len) (by rw [al8];omega);refine ⟨G3,by simpa [amr] using b3,((lG.more N b G _ hN).trans t2).trans t3,fun k He => ?_⟩;have r3:=r3 k;simp only [Y6,Y8] at r3;rw [ah M n7.eq_1];simp (config:=apy) only [Zh M,↓Zi,Nat.reduceBEq,Nat.reduceAdd,env,ae,dm,Zx,AV.cell,Nat.reduceMul,Nat.reduceLeDiff,rnc,hi,hx,jy,hwr,hil,r3,ra,hga,r2]
theorem pr4(hC:yg E)(hX:nk M)(hP:qN E){N b p:Nat}{tg:Tag}{ts:List aT}(hts:ts.length≤128∧∀ t∈ts,EnB t)(H0:List Y4):∀ (n i:Nat) (w:Zc) (G:List Y4),i+n=ts.length→mA aO N b G w→N≤G.length→w.length+n*25000≤100000000 →
  ∃ G',mA aO N b G' (w++db pE (ts.drop i))∧lG N b G G'∧∀ (k:List ZA) (He:List Y4),M.go dk H0 (.c n9 :: .lp ⟨(some [1,5,79,80,81]),[],false⟩ n9 He :: .ZU 6 :: .c (.lv [1,5])::k) (kv [(1,.ptr p 0),(5,.ptr b 0),(79,.slice tg 4 (ts.map aT.row)),(80,.int .i64 ts.length),(81,.int .i64 i)]) G=M.go dk H0 k (kv [(1,.ptr p 0),(5,.ptr b 0)]) G'
 |0,i,w,G,h,hb,hN,hw=>by
  have e:i=ts.length:=by omega
  subst e;rw [al9,db,amt];refine ⟨G,hb,.refl _ _ _,fun k He => ?_⟩;rw [ah M n9.eq_1];simp (config:=apy) only [Zh M,↓Zi,Nat.reduceBEq,Nat.reduceAdd,env,ae,dm,ame]
 |n+1,i,w,G,h,hb,hN,hw=>by
  have hi:i<ts.length:=by omega
  have hx:=al4 hi;have hd:=al6 hi;have hm:=hts.2 ts[i] (amc hi);have hml:=hm.len;have hws:=hm.ws;have hil:=aE (row:=aT.row) (tag:=tg) (sz:=4) (k:=.i64) hi;have hwr:=bt hi (show ts.length≤aZ by have:=hts.1;simp only [aZ];omega);rw [hd,db];have hN1:N≤(G++[Y4.cells ts[i].row aD]).length:=by simp;omega
  obtain ⟨Ga,ra,ba,ta⟩:=uS M hC hX hP okW (hb.more [Y4.cells ts[i].row aD]) hN1 (tf:=ts[i].Zf.tag) (fs:=ts[i].Zf.l) (tw:=.full) (ws:=[ky,ts[i].lem,ts[i].cls]) (by have:=hm.fs.1;omega) (by omega) (by have:=hm.fs.len;omega);have ra:M.run bC [.ptr b 0,.slice ts[i].Zf.tag 2 (ts[i].Zf.l.map aw.row),.slice .full 1 [[.str [101,110,116,114,121]],[.str ts[i].lem],[.str ts[i].cls]]] (G++[Y4.cells ts[i].row aD])=some (.ret (.tuple []),Ga):=ra
  have hga:Ga[G.length]?=some (.cells ts[i].row aD):=ta.obj G.length _ (by rw [cY];rfl) (by have:=hb.lt;omega) (by rintro (⟨_,e⟩ | ⟨_,e⟩)<;>cases e);have hsub:ts[i].Zg.l.length≤24∧∀ s∈ts[i].Zg.l,IrB s:=hm.2.2.2
  have hla:(pL [ky,ts[i].lem,ts[i].cls] ts[i].Zf.l).length≤1000:=by
   have:=oK [ky,ts[i].lem,ts[i].cls] ts[i].Zf.l
   have:(fW ts[i].Zf.l).length≤208:=hm.fs.len
   omega
  obtain ⟨G2,b2,t2',r2⟩:=pr3 M hC hX hP (p:=p) (x46:=.slice tg 4 (ts.map aT.row)) (x47:=.int .i64 ts.length) (x48:=.int .i64 i) (tg:=ts[i].Zg.tag) hsub H0 ts[i].Zg.l.length 0 _ Ga (by omega) ba (ams hN1 ta.len) (by rw [al8];have:=hsub.1;omega);rw [amf] at b2;simp only [Y6,Y8,amj] at r2;have t2:=ta.trans t2';have b2:mA aO N b G2 (w++pE ts[i]):=by simpa [pE,amr] using b2
  have hd2:w.length+(n+1)*25000=w.length+25000+n*25000:=by rw [am7];omega
  obtain ⟨G3,b3,t3,r3⟩:=pr4 hC hX hP (p:=p) (tg:=tg) hts H0 n (i+1) _ G2 (by omega) b2 (ams hN1 t2.len) (by rw [al8];omega);refine ⟨G3,by simpa [amr] using b3,((lG.more N b G _ hN).trans t2).trans t3,fun k He => ?_⟩;have r3:=r3 k;simp only [Y6,Y8] at r3;rw [ah M n9.eq_1];simp (config:=apy) only [Zh M,↓Zi,Nat.reduceBEq,Nat.reduceAdd,env,ae,dm,Zx,AV.cell,Nat.reduceMul,Nat.reduceLeDiff,rnc,hi,hx,kJ,hwr,hil,r3,ra,hga,r2]
end
section
attribute [local congr] aF aS cC bn aG aX aL aH az aA aM aN
variable{E:br}(M:cH bM E)
structure yh (E:br):Prop where
 abW:E.fn lj=some ji
 abV:E.fn i7=some jh
 acB:E.fn nz=some kQ
 abw:E.fn iq=some iI
 abB:E.fn ny=some eB
 abl:E.fn mG=some ed
 abS:E.fn oO=some dz
 abm:E.fn mH=some bJ
 ab4:E.fn kY=some dy
theorem PW{H H0:List Y4}{l:Lex}{n0:Nat}(hl:l.ok n0){v:Zc}{p:Nat}{T:TypeId}(hp:H[p]?=some (.cells l.row T))(hc:bY H0 H)(k:List ZA):∀ (n i:Nat) (He:List Y4),i+n=(l.Y9.l).length →
  M.go ji H0 (.c hY :: .lp ⟨(some [1,2,5]),[],false⟩ hY He :: .ZU 0 :: .c (.lv [])::k) (kv [(1,.str v),(2,.ptr p 0),(5,.int .i64 i)]) H =
   orE (cL (za fun t=>t.name == v) i (l.Y9.l.drop i)) (H.take H0.length) (M.go ji H0 k .leaf H)
 |0,i,He,h=>by
  have e:i=(l.Y9.l).length:=by omega
  subst e;rw [ah M hY.eq_1];simp (config:=apy) only [Zh M,↓Zi,Nat.reduceBEq,Nat.reduceAdd,env,ae,pq,ame,al9,dD,hp]
 |n+1,i,He,h=>by
  have hi:i<(l.Y9.l).length:=by omega
  have hx:=al4 hi;have hd:=al6 hi;have hm:=amc hi;have ih:=fun He=>PW (H:=H) (H0:=H0) (l:=l) (n0:=n0) (hl:=hl) (v:=v) (p:=p) (T:=T) (hp:=hp) hc k n (i+1)  He (by omega)
  simp only [Y6,Y8] at ih;rw [ah M hY.eq_1];simp (config:=apy) only [Zh M,↓Zi,Nat.reduceBEq,Nat.reduceAdd,env,ae,pq,hx,hd,hi,ih,bt hi hl.Y9.len,aE hi,dD,kI,hp,za,hc]
theorem I5(hR:yh E){l:Lex}{n:Nat}(hl:l.ok n)(v:Zc)(H:List Y4):M.run lj [.agg l.row,.str v] H=some (.ret (.int .i64 (vY (fun t=>t.name == v) 0 l.Y9.l)),H):=by
 rw [au M hR.abW rfl (c:=po) rfl,po];have h1:=fun k He=>PW M (H:=H++[.cells l.row ab]) hl (v:=v) (p:=H.length) (T:=ab) (by rw [cY];rfl) (Zz H _) k l.Y9.l.length 0 He (by omega)
 simp only [Y6,Y8,amj,amf] at h1;simp (config:=apy) only [Zh M,↓Zi,Nat.reduceBEq,Nat.reduceAdd,env,ae,pq,h1,Zz];exact oJ _ _ 0 H
theorem PX{H H0:List Y4}{l:Lex}{n0:Nat}(hl:l.ok n0){v:Zc}{p:Nat}{T:TypeId}(hp:H[p]?=some (.cells l.row T))(hc:bY H0 H)(k:List ZA):∀ (n i:Nat) (He:List Y4),i+n=(l.Y7.l).length →
  M.go jh H0 (.c gZ :: .lp ⟨(some [1,2,5]),[],false⟩ gZ He :: .ZU 0 :: .c (.lv [])::k) (kv [(1,.str v),(2,.ptr p 0),(5,.int .i64 i)]) H =
   orE (cL (za fun t=>t.name == v) i (l.Y7.l.drop i)) (H.take H0.length) (M.go jh H0 k .leaf H)
 |0,i,He,h=>by
  have e:i=(l.Y7.l).length:=by omega
  subst e;rw [ah M gZ.eq_1];simp (config:=apy) only [Zh M,↓Zi,Nat.reduceBEq,Nat.reduceAdd,env,ae,pg,ame,al9,dD,hp]
 |n+1,i,He,h=>by
  have hi:i<(l.Y7.l).length:=by omega
  have hx:=al4 hi;have hd:=al6 hi;have hm:=amc hi;have ih:=fun He=>PX (H:=H) (H0:=H0) (l:=l) (n0:=n0) (hl:=hl) (v:=v) (p:=p) (T:=T) (hp:=hp) hc k n (i+1)  He (by omega)
  simp only [Y6,Y8] at ih;rw [ah M gZ.eq_1];simp (config:=apy) only [Zh M,↓Zi,Nat.reduceBEq,Nat.reduceAdd,env,ae,pg,hx,hd,hi,ih,bt hi hl.Y7.len,aE hi,dD,jy,hp,za,hc]
theorem Dm(hR:yh E){l:Lex}{n:Nat}(hl:l.ok n)(v:Zc)(H:List Y4):M.run i7 [.agg l.row,.str v] H=some (.ret (.int .i64 (vY (fun t=>t.name == v) 0 l.Y7.l)),H):=by
 rw [au M hR.abV rfl (c:=pd) rfl,pd];have h1:=fun k He=>PX M (H:=H++[.cells l.row ab]) hl (v:=v) (p:=H.length) (T:=ab) (by rw [cY];rfl) (Zz H _) k l.Y7.l.length 0 He (by omega)
 simp only [Y6,Y8,amj,amf] at h1;simp (config:=apy) only [Zh M,↓Zi,Nat.reduceBEq,Nat.reduceAdd,env,ae,pg,h1,Zz];exact oJ _ _ 0 H
def inF(v:Zc):Nat→Zc→Option AV:=fun _ s=>Zv (v == s) (some (.bool true)) none
theorem NC(v:Zc):∀ (l:List Zc) (i:Nat) (H:List Y4),orE (cL (inF v) i l) H (some (.ret (.bool false),H))=some (.ret (.bool (l.any fun s=>v == s)),H)
 |[],_,_=>rfl
 |s::l,i,H=>by
  rw [np,inF,anr,Hb,Ea,Eb,Ec,BF,NC v l];cases v == s<;>rfl
theorem Au(a b:Zc):(a == b)=(b == a):=BEq.comm
theorem Yo{H H0:List Y4}{v:Zc}{tg:Tag}{l:List Zc}(hs:l.length≤aZ)(hc:bY H0 H)(k:List ZA):∀ (n i:Nat) (He:List Y4),i+n=l.length →
  M.go kQ H0 (.c jF :: .lp ⟨(some [0,1,5]),[],false⟩ jF He :: .ZU 0 :: .c (.lv [])::k) (kv [(0,.slice tg 1 (l.map ak)),(1,.str v),(5,.int .i64 i)]) H =
   orE (cL (inF v) i (l.drop i)) (H.take H0.length) (M.go kQ H0 k .leaf H)
 |0,i,He,h=>by
  have e:i=l.length:=by omega
  subst e;rw [ah M jF.eq_1];simp (config:=apy) only [Zh M,↓Zi,Nat.reduceBEq,Nat.reduceAdd,env,ae,sn,ame,al9]
 |n+1,i,He,h=>by
  have hi:i<l.length:=by omega
  have hx:=al4 hi;have hd:=al6 hi;have hm:=amc hi;have ih:=fun He=>Yo (H:=H) (H0:=H0) (v:=v) (tg:=tg) (l:=l) (hs:=hs) hc k n (i+1)  He (by omega)
  simp only [Y6,Y8] at ih;rw [ah M jF.eq_1];simp (config:=apy) only [Zh M,↓Zi,Nat.reduceBEq,Nat.reduceAdd,env,ae,sn,hx,hd,hi,ih,bt hi hs,aE hi,dh,inF,hc,Au v]
theorem LZ(hR:yh E){v:Zc}{tg:Tag}{l:List Zc}(hs:l.length≤aZ)(H:List Y4):M.run nz [.slice tg 1 (l.map ak),.str v] H=some (.ret (.bool (l.any fun s=>v == s)),H):=by
 rw [au M hR.acB rfl (c:=sk) rfl,sk];have h1:=fun k He=>Yo M (tg:=tg) (v:=v) hs (Zt H) k l.length 0 He (by omega)
 simp only [Y6,Y8,amj,amf] at h1;simp (config:=apy) only [Zh M,↓Zi,Nat.reduceBEq,Nat.reduceAdd,env,ae,sn,h1];exact NC _ _ 0 H
theorem rbl{H H0:List Y4}(hR:yh E){l:Lex}{n0:Nat}(hl:l.ok n0){b:List aw}{tg:Tag}(hb:b.length≤aZ){p:Nat}{T:TypeId}(hp:H[p]?=some (.cells l.row T))(hc:bY H0 H)(k:List ZA):∀ (n i:Nat) (He:List Y4),i+n=b.length →
  M.go iI H0 (.c dP :: .lp ⟨(some [1,2,5]),[],false⟩ dP He :: .ZU 0 :: .c (.lv [])::k) (kv [(1,.slice tg 2 (b.map aw.row)),(2,.ptr p 0),(5,.int .i64 i)]) H =
   orE (cL (qo (BY l b)) i (b.drop i)) (H.take H0.length) (M.go iI H0 k .leaf H)
 |0,i,He,h=>by
  have e:i=b.length:=by omega
  subst e;rw [ah M dP.eq_1];simp (config:=apy) only [Zh M,↓Zi,Nat.reduceBEq,Nat.reduceAdd,env,ae,iJ,ame,al9]
 |n+1,i,He,h=>by
  have hi:i<b.length:=by omega
  have hx:=al4 hi;have hd:=al6 hi;have hm:=amc hi;have ih:=fun He=>rbl (H:=H) (H0:=H0) (hR:=hR) (l:=l) (n0:=n0) (hl:=hl) (b:=b) (tg:=tg) (hb:=hb) (p:=p) (T:=T) (hp:=hp) hc k n (i+1)  He (by omega)
  simp only [Y6,Y8] at ih;have hcf:=fun H=>I5 M hR hl b[i].name H
  rcases sx (fun t:bf=>t.name == b[i].name) l.Y9.l 0 with ⟨h1,h2⟩ | ⟨j,t,h1,h2,h3⟩
  ·rw [h1] at hcf
   rw [ah M dP.eq_1];simp (config:=apy) only [Zh M,↓Zi,Nat.reduceBEq,Nat.reduceAdd,env,ae,iJ,hx,hd,hi,ih,hcf,dD,pX,hp,aE hi,l9,BY,h2,Va,qE,hc]
  ·rw [h1,amJ] at hcf
   have hj:j<l.Y9.l.length:=(al3.1 h2).1;have htm:t∈l.Y9.l:=aml h2;cases i with
   |zero=>
    rw [ah M dP.eq_1];simp (config:=apy) only [Zh M,↓Zi,Nat.reduceBEq,Nat.reduceAdd,env,ae,iJ,hx,hd,hi,ih,hcf,dD,pX,kI,hp,aE hi,SU hi,l9,BY,h2,h3,Nl,Yk,Di,qE,hc,aE hj,LZ M hR (hl.Y9.all t htm).values.len,bt hi hb]
   |succ i=>
    have hx1:b[i]?=some b[i]:=al4 (by omega);rw [ah M dP.eq_1];simp (config:=apy) only [Zh M,↓Zi,Nat.reduceBEq,Nat.reduceAdd,env,ae,iJ,hx,hd,hi,ih,hcf,dD,pX,kI,hp,aE hi,l9,BY,h2,h3,Nl,Yl,qq hx1,hx1,aE (show i<b.length by omega),E7 (show i+1≤aZ by omega),qE,hc,aE hj,LZ M hR (hl.Y9.all t htm).values.len,bt hi hb]
theorem xC(hR:yh E){l:Lex}{b:List aw}{tg:Tag}{n:Nat}(hl:l.ok n)(hb:b.length≤aZ)(H:List Y4) :
  M.run iq [.agg l.row,.slice tg 2 (b.map aw.row)] H=some (.ret (.int .u8 (iW l b)),H):=by
 rw [au M hR.abw rfl (c:=nM) rfl,nM];have h1:=fun k He=>rbl M hR (H:=H++[.cells l.row ab]) hl (tg:=tg) hb (p:=H.length) (T:=ab) (by rw [cY];rfl) (Zz H _) k b.length 0 He (by omega)
 simp only [Y6,Y8,amj,amf] at h1;simp (config:=apy) only [Zh M,↓Zi,Nat.reduceBEq,Nat.reduceAdd,env,ae,iJ,h1,Zz,sy,pK,iW,j9]
end
section
attribute [local congr] aF aS cC bn aG aX aL aH az aA aM aN
variable{E:br}(M:cH bM E)
theorem Tr{α:Type}{p:α→Bool}:∀ {l:List α}{i:Nat}{x:α},l[i]?=some x→p x=true→∀ s:Nat,decide (vY p s l<((s+i:Nat):Int))=(l.take i).any p
 |[],_,_,h,_,_=>by simp at h
 |y::l,0,x,h,hp,s=>by
  obtain rfl:y=x:=by simpa using h
  simp only [vY,hp,Zv,anU,aow,ann];exact amq (by omega)
 |y::l,i+1,x,h,hp,s=>by
  rw [aoE,anr,vY];cases hy:p y with
  |true=>simp only [Zv,anF];exact amu (by omega)
  |false=>
   have:=Tr (l:=l) (i:=i) (x:=x) (by simpa using h) hp (s+1);rw [anH,← this];simp only [Zv];congr 2;omega
theorem PY{α:Type}{p:α→Bool}{l:List α}{i:Nat}{x:α}(h:l[i]?=some x)(hp:p x=true):decide (vY p 0 l<(i:Int))=(l.take i).any p:=by
 have:=Tr h hp 0;rwa [amJ] at this
theorem rtv{H H0:List Y4}(hN:dx E)(hR:yh E){t:bf}{n0:Nat}(ht:t.ok n0){p q:Nat}{T:TypeId}(hq:H[q]?=some (.cells t.row T)){i0:Nat}(hc:bY H0 H)(k:List ZA):∀ (n i:Nat) (He:List Y4),i+n=(t.values.l).length →
  M.go eB H0 (.c gx :: .lp ⟨(some [1,3,4,5]),[],false⟩ gx He :: .ZU 3 :: .c (.lv [1,3])::k) (kv [(1,.ptr p 0),(3,.int .i64 i0),(4,.ptr q 0),(5,.int .i64 i)]) H =
   orE (cL (qo (Ti t)) i (t.values.l.drop i)) (H.take H0.length) (M.go eB H0 k (kv [(1,.ptr p 0),(3,.int .i64 i0)]) H)
 |0,i,He,h=>by
  have e:i=(t.values.l).length:=by omega
  subst e;rw [ah M gx.eq_1];simp (config:=apy) only [Zh M,↓Zi,Nat.reduceBEq,Nat.reduceAdd,env,ae,iH,ame,al9,kI,hq]
 |n+1,i,He,h=>by
  have hi:i<(t.values.l).length:=by omega
  have hx:=al4 hi;have hd:=al6 hi;have hm:=amc hi;have ih:=fun He=>rtv (H:=H) (H0:=H0) (hN:=hN) (hR:=hR) (t:=t) (n0:=n0) (ht:=ht) (p:=p) (q:=q) (T:=T) (hq:=hq) (i0:=i0) hc k n (i+1)  He (by omega)
  simp only [Y6,Y8] at ih;rw [ah M gx.eq_1];simp (config:=apy) only [Zh M,↓Zi,Nat.reduceBEq,Nat.reduceAdd,env,ae,iH,hx,hd,hi,ih,bt hi ht.values.len,aE hi,kI,dh,hq,FD M hN (ht.values.all _ hm),E6 hi,LZ M hR (yz ht.values.len i),l9,Ti,qE,hc]
theorem rtr{H H0:List Y4}(hN:dx E)(hR:yh E){l:Lex}{n0:Nat}(hl:l.ok n0){p:Nat}{T:TypeId}(hp:H[p]?=some (.cells l.row T))(hc:bY H0 H)(k:List ZA):∀ (n i:Nat),i+n=(l.Y9.l).length →
  M.go eB H0 (.c gy :: .lp ⟨(some [1,3]),[],true⟩ gy H :: .ZU 0 :: .c (.lv [])::k) (kv [(1,.ptr p 0),(3,.int .i64 i)]) H =
   orE (cL (qo (Dh l)) i (l.Y9.l.drop i)) (H.take H0.length) (M.go eB H0 k .leaf H)
 |0,i,h=>by
  have e:i=(l.Y9.l).length:=by omega
  subst e;rw [ah M gy.eq_1];simp (config:=apy) only [Zh M,↓Zi,Nat.reduceBEq,Nat.reduceAdd,env,ae,iH,ame,al9,dD,hp]
 |n+1,i,h=>by
  have hi:i<(l.Y9.l).length:=by omega
  have hx:=al4 hi;have hd:=al6 hi;have hm:=amc hi;have ih:=rtr (H:=H) (H0:=H0) (hN:=hN) (hR:=hR) (l:=l) (n0:=n0) (hl:=hl) (p:=p) (T:=T) (hp:=hp) hc k n (i+1)  (by omega);simp only [Y6,Y8] at ih;have hp':=fun L=>bR (L:=L) hp
  have w1:Wk H.length (.ptr p 0) (.ptr p 0):=ZN (al3.1 hp).1;have ht:=hl.Y9.all _ hm;have h0:=fun k He=>rtv M (H:=H++[.cells l.Y9.l[i].row bW]) (H0:=H0) hN hR ht (p:=p) (q:=H.length) (T:=bW) (by rw [cY];rfl) (i0:=i) (nZ hc _) k l.Y9.l[i].values.l.length 0 He (by omega)
  simp only [Y6,Y8,amj,amf] at h0;rw [ah M gy.eq_1];simp (config:=apy) only [Zh M,↓Zi,Nat.reduceBEq,Nat.reduceAdd,env,ae,iH,hx,hd,hi,ih,Zx,AV.cell,hp,hp',w1,h0,bt hi hl.Y9.len,aE hi,dD,kI,FD M hN ht.name,I5 M hR hl,PY (p:=fun t:bf=>t.name == l.Y9.l[i].name) hx (by simp),l9,Dh,qE,En,hc]
theorem Gk(hN:dx E)(hR:yh E){l:Lex}{n:Nat}(hl:l.ok n)(H:List Y4):M.run ny [.agg l.row] H=some (.ret (.int .u8 (pC l)),H):=by
 rw [au M hR.abB rfl (c:=nL) rfl,nL];have h1:=fun k=>rtr M hN hR (H:=H++[.cells l.row ab]) hl (p:=H.length) (T:=ab) (by rw [cY];rfl) (Zz H _) k l.Y9.l.length 0 (by omega)
 simp only [Y6,Y8,amj,amf] at h1;simp (config:=apy) only [Zh M,↓Zi,Nat.reduceBEq,Nat.reduceAdd,env,ae,iH,h1,dD,Zz,sy,pK,pC,j9]
theorem FE(s:Zc):(!jq l8 s)=(!ofF [] s||decide (6<(s.length:Int))):=by
 rw [LU,jq];cases s.all l8 with
 |false=>simp
 |true=>simp only [anc,anS,anH];rw [anw];simp
theorem rcs{H H0:List Y4}(hN:dx E)(hR:yh E){l:Lex}{c:aV}{n0:Nat}(hl:l.ok n0)(hco:c.ok n0){p q:Nat}{T T2:TypeId}(hp:H[p]?=some (.cells l.row T))(hq:H[q]?=some (.cells c.row T2)){i0:Nat}(hc:bY H0 H)(k:List ZA):∀ (n i:Nat),i+n=(c.Zd.l).length →
  M.go ed H0 (.c fQ :: .lp ⟨(some [1,3,4,5]),[],true⟩ fQ H :: .ZU 3 :: .c (.lv [1,3])::k) (kv [(1,.ptr p 0),(3,.int .i64 i0),(4,.ptr q 0),(5,.int .i64 i)]) H =
   orE (cL (qo fun _ s=>BZ l s) i (c.Zd.l.drop i)) (H.take H0.length) (M.go ed H0 k (kv [(1,.ptr p 0),(3,.int .i64 i0)]) H)
 |0,i,h=>by
  have e:i=(c.Zd.l).length:=by omega
  subst e;rw [ah M fQ.eq_1];simp (config:=apy) only [Zh M,↓Zi,Nat.reduceBEq,Nat.reduceAdd,env,ae,gY,ame,al9,jy,hq]
 |n+1,i,h=>by
  have hi:i<(c.Zd.l).length:=by omega
  have hx:=al4 hi;have hd:=al6 hi;have hm:=amc hi;have ih:=rcs (H:=H) (H0:=H0) (hN:=hN) (hR:=hR) (l:=l) (c:=c) (n0:=n0) (hl:=hl) (hco:=hco) (p:=p) (q:=q) (T:=T) (T2:=T2) (hp:=hp) (hq:=hq) (i0:=i0) hc k n (i+1)  (by omega)
  simp only [Y6,Y8] at ih;have hp':=fun L=>bR (L:=L) hp
  have hq':=fun L=>bR (L:=L) hq
  have w1:Wk H.length (.ptr p 0) (.ptr p 0):=ZN (al3.1 hp).1;have w2:Wk H.length (.ptr q 0) (.ptr q 0):=ZN (al3.1 hq).1;have hs:=hco.Zd.all _ hm
  have e1:BZ l c.Zd.l[i]=Zv (decide (c.Zd.l[i].cut<0)||(decide (24<c.Zd.l[i].cut)||(!ofF [] c.Zd.l[i].pre||(decide (6<(c.Zd.l[i].pre.length:Int))||(!ofF [] c.Zd.l[i].add||decide (6<(c.Zd.l[i].add.length:Int))))))) 1 (iW l c.Zd.l[i].Zf.l):=by
   rw [BZ,FE,FE];simp only [an4]
  rw [ah M fQ.eq_1];simp (config:=apy) only [Zh M,↓Zi,Nat.reduceBEq,Nat.reduceAdd,env,ae,gY,hx,hd,hi,ih,Zx,AV.cell,hp,hq,hp',hq',w1,w2,bt hi hco.Zd.len,aE hi,dD,jy,CJ,Ar M hN hs.pre (more:=[]) (by simp),Ar M hN hs.add (more:=[]) (by simp),xC M hR hl hs.Zf.len,l9,e1,an4,qE,LV,hc]
theorem Yp{H H0:List Y4}(hN:dx E)(hR:yh E){l:Lex}{n0:Nat}(hl:l.ok n0){p:Nat}{T:TypeId}(hp:H[p]?=some (.cells l.row T))(hc:bY H0 H)(k:List ZA):∀ (n i:Nat),i+n=(l.Y7.l).length →
  M.go ed H0 (.c fR :: .lp ⟨(some [1,3]),[],true⟩ fR H :: .ZU 0 :: .c (.lv [])::k) (kv [(1,.ptr p 0),(3,.int .i64 i)]) H =
   orE (cL (qo (B1 l)) i (l.Y7.l.drop i)) (H.take H0.length) (M.go ed H0 k .leaf H)
 |0,i,h=>by
  have e:i=(l.Y7.l).length:=by omega
  subst e;rw [ah M fR.eq_1];simp (config:=apy) only [Zh M,↓Zi,Nat.reduceBEq,Nat.reduceAdd,env,ae,gY,ame,al9,dD,hp]
 |n+1,i,h=>by
  have hi:i<(l.Y7.l).length:=by omega
  have hx:=al4 hi;have hd:=al6 hi;have hm:=amc hi;have ih:=Yp (H:=H) (H0:=H0) (hN:=hN) (hR:=hR) (l:=l) (n0:=n0) (hl:=hl) (p:=p) (T:=T) (hp:=hp) hc k n (i+1)  (by omega);simp only [Y6,Y8] at ih;have hp':=fun L=>bR (L:=L) hp
  have w1:Wk H.length (.ptr p 0) (.ptr p 0):=ZN (al3.1 hp).1;have ht:=hl.Y7.all _ hm;have h0:=fun k=>rcs M (H:=H++[.cells l.Y7.l[i].row aJ]) (H0:=H0) hN hR hl ht (p:=p) (q:=H.length) (T:=T) (T2:=aJ) (hp' _) (by rw [cY];rfl) (i0:=i) (nZ hc _) k l.Y7.l[i].Zd.l.length 0 (by omega)
  simp only [Y6,Y8,amj,amf] at h0;rw [ah M fR.eq_1];simp (config:=apy) only [Zh M,↓Zi,Nat.reduceBEq,Nat.reduceAdd,env,ae,gY,hx,hd,hi,ih,Zx,AV.cell,hp,hp',w1,h0,bt hi hl.Y7.len,aE hi,dD,jy,FD M hN ht.name,Dm M hR hl,PY (p:=fun t:aV=>t.name == l.Y7.l[i].name) hx (by simp),l9,B1,qE,En,j9,hc]
theorem Et(hN:dx E)(hR:yh E){l:Lex}{n:Nat}(hl:l.ok n)(H:List Y4):M.run mG [.agg l.row] H=some (.ret (.int .u8 (pD l)),H):=by
 rw [au M hR.abl rfl (c:=mS) rfl,mS];have h1:=fun k=>Yp M hN hR (H:=H++[.cells l.row ab]) hl (p:=H.length) (T:=ab) (by rw [cY];rfl) (Zz H _) k l.Y7.l.length 0 (by omega)
 simp only [Y6,Y8,amj,amf] at h1;simp (config:=apy) only [Zh M,↓Zi,Nat.reduceBEq,Nat.reduceAdd,env,ae,gY,h1,dD,Zz,sy,pK,pD,j9]
end
section
attribute [local congr] aF aS cC bn aG aX aL aH az aA aM aN
variable{E:br}(M:cH bM E)
def rE(p:aw):List aw→Bool
 |[]=>true
 |x::l=>Op.bytesLess p.name x.name&&rE x l
def A5:List aw→Bool
 |[]=>true
 |x::l=>rE x l
def noU:AV:=.tuple [.slice .any 2 [],.bool false]
def OO(b:List aw):Nat→aw→Option AV:=fun i x=>Zv (Di b (fun g => !Op.bytesLess g.name x.name) i) (some noU) none
theorem KH(b:List aw):∀ (l:List aw) (i:Nat) (f:aw),b[i]?=some f→b.drop (i+1)=l→cL (OO b) (i+1) l=Zv (rE f l) none (some noU)
 |[],i,f,_,_=>rfl
 |x::l,i,f,h,hd=>by
  have h2:b[i+1]?=some x:=by
   have:=amM (xs:=b) (i:=i+1) (j:=0);rw [hd] at this;simpa using this.symm
  have hd2:b.drop (i+1+1)=l:=by
   have:(b.drop (i+1)).drop 1=l:=by rw [hd];rfl
   rwa [aot] at this
  rw [np,KH b l (i+1) x h2 hd2,OO,qq h,rE];cases Op.bytesLess f.name x.name<;>cases rE x l<;>rfl
theorem OP(b:List aw)(H:List Y4)(x:Option Out):orE (cL (OO b) 1 (b.drop 1)) H x=Zv (A5 b) x (some (.ret noU,H)):=by
 cases b with
 |nil=>rfl
 |cons f l=>
  rw [show List.drop 1 (f::l)=l from rfl,KH (f::l) l 0 f rfl rfl,A5];cases rE f l<;>rfl
theorem Yq{H H0:List Y4}{a b:Sl aw}(ha:a.l.length≤aZ)(hb:b.l.length≤aZ)(hc:bY H0 H)(k:List ZA):∀ (n i:Nat) (h1:1≤i) (He:List Y4),(a.l).length-i=n →
  M.go dz H0 (.c ib :: .lp ⟨(some [0,1,6]),[],false⟩ ib He :: .ZU 0 :: .c (.lv [0,1])::k) (kv [(0,.slice a.tag 2 (a.l.map aw.row)),(1,.slice b.tag 2 (b.l.map aw.row)),(6,.int .i64 i)]) H =
   orE (cL (OO a.l) i (a.l.drop i)) (H.take H0.length) (M.go dz H0 k (kv [(0,.slice a.tag 2 (a.l.map aw.row)),(1,.slice b.tag 2 (b.l.map aw.row))]) H)
 |0,i,h1,He,h=>by
  have e:¬ i<(a.l).length:=by omega
  have e2:(a.l).drop i=[]:=an9 (by omega);rw [ah M ib.eq_1];simp (config:=apy) only [Zh M,↓Zi,Nat.reduceBEq,Nat.reduceAdd,env,ae,bT,e,e2]
 |n+1,i,h1,He,h=>by
  have hi:i<(a.l).length:=by omega
  have hx:=al4 hi;have hd:=al6 hi;have hm:=amc hi;have ih:=fun h1 He=>Yq (H:=H) (H0:=H0) (a:=a) (b:=b) (ha:=ha) (hb:=hb) hc k n (i+1) h1 He (by omega)
  simp only [Y6,Y8] at ih;have ih:=ih (by omega);cases i with
  |zero=>omega
  |succ i=>
   have hx1:a.l[i]?=some a.l[i]:=al4 (by omega);rw [ah M ib.eq_1];simp (config:=apy) only [Zh M,↓Zi,Nat.reduceBEq,Nat.reduceAdd,env,ae,bT,hx,hd,hi,ih,pX,hx1,aE hi,aE (show i<a.l.length by omega),E7 (show i+1≤aZ by omega),bt hi ha,OO,qq hx1,hc,noU,tX]
theorem Yr{H H0:List Y4}{a b:Sl aw}(ha:a.l.length≤aZ)(hb:b.l.length≤aZ)(hc:bY H0 H)(k:List ZA):∀ (n i:Nat) (h1:1≤i) (He:List Y4),(b.l).length-i=n →
  M.go dz H0 (.c ie :: .lp ⟨(some [0,1,7]),[],false⟩ ie He :: .ZU 2 :: .c (.lv [0,1])::k) (kv [(0,.slice a.tag 2 (a.l.map aw.row)),(1,.slice b.tag 2 (b.l.map aw.row)),(7,.int .i64 i)]) H =
   orE (cL (OO b.l) i (b.l.drop i)) (H.take H0.length) (M.go dz H0 k (kv [(0,.slice a.tag 2 (a.l.map aw.row)),(1,.slice b.tag 2 (b.l.map aw.row))]) H)
 |0,i,h1,He,h=>by
  have e:¬ i<(b.l).length:=by omega
  have e2:(b.l).drop i=[]:=an9 (by omega);rw [ah M ie.eq_1];simp (config:=apy) only [Zh M,↓Zi,Nat.reduceBEq,Nat.reduceAdd,env,ae,bT,e,e2]
 |n+1,i,h1,He,h=>by
  have hi:i<(b.l).length:=by omega
  have hx:=al4 hi;have hd:=al6 hi;have hm:=amc hi;have ih:=fun h1 He=>Yr (H:=H) (H0:=H0) (a:=a) (b:=b) (ha:=ha) (hb:=hb) hc k n (i+1) h1 He (by omega)
  simp only [Y6,Y8] at ih;have ih:=ih (by omega);cases i with
  |zero=>omega
  |succ i=>
   have hx1:b.l[i]?=some b.l[i]:=al4 (by omega);rw [ah M ie.eq_1];simp (config:=apy) only [Zh M,↓Zi,Nat.reduceBEq,Nat.reduceAdd,env,ae,bT,hx,hd,hi,ih,pX,hx1,aE hi,aE (show i<b.l.length by omega),E7 (show i+1≤aZ by omega),bt hi hb,OO,qq hx1,hc,noU,tX]
end
end Go.Am
