import Derived.Test.YtdgcaegjmohbkaaGreatDoorA4
import Derived.Lib.Bytealg
import Derived.Lib.MapLaws
import Derived.Stop.FmtQuoteTie
/-
  Part 5 of the tool: an abstract machine over the model, proved sound, and what it says of the functions that the law reaches. Condition: none but those that each theorem names.
-/
set_option linter.unusedVariables false
set_option linter.unusedSimpArgs false
set_option maxRecDepth 100000
set_option maxHeartbeats 4000000
namespace Go.Am
open Go.RowKit
section
attribute [local congr] aD bH aS aE aR aL aF au aw aM aN
variable{E:a8}(M:bY cC E)
structure Cn (M:bY cC E):Prop where
 index:∀ (s:Str) (c:UInt8) (H:List AObj),M.run bD [.str s,.int .u8 c.toNat] H=some (.ret (.int .i64 (Lib.indexByte s c)),H)
 same:∀ (i o:Nat) (H:List AObj),M.run dm [.ptr i o] H=some (.ret (.ptr i o),H)
structure zd (E:a8):Prop where
 strings_Builder_WriteString:E.fn b5=some eb
 strings_Builder_String:E.fn dV=some dX
 strings_Builder_copyCheck:E.fn cD=some dw
abbrev ey(s:Str):List (List AV):=s.map fun b=>[.int .u8 (b.toNat:Int)]
abbrev bTok(w:Str):AObj:=.tok w.length kh
abbrev gi(a:AV)(n:Nat)(w:Str)(T:TypeId):AObj:=.cells [a,.slice (.own n) 1 (ey w)] T
theorem Fl(s:Str):lC 1 (ey s)=true:=by simp [lC,ey,AV.cell]
theorem uj:∀ s:Str,jt (ey s)=some s
 |[]=>rfl
 |c::s=>by
  have:=uj s;simp only [ey] at this ⊢;simp only [List.map_cons,jt,this,Option.map_some];congr 2;simp
theorem DQ:∀ s:Str,rI (ey s)=true
 |[]=>rfl
 |c::s=>by
  have:=DQ s;simp only [ey] at this ⊢;simp only [List.map_cons,rI,this,Bool.and_true,Bool.and_eq_true,decide_eq_true_eq];have:=c.toNat_lt;omega
theorem HE(w s:Str):ey (w++s)=ey w++(ey s).map (·.map AV.strip):=by
 simp only [ey,List.map_append,List.map_map];congr 1
theorem Jy(H L:List AObj){w s:Str}(h:w.length+s.length≤140737488355328)(x:AV)(hx:∀ H,mF H 1 true x=some (ey s)) :
  rap false (H++(bTok w::L)) kh 1 1 true (.slice (.own H.length) 1 (ey w)) x=some (.slice (.own H.length) 1 (ey (w++s)),H++(bTok (w++s)::L)):=by
 have h1:(ey w).length=w.length:=by simp [ey]
 have h2:(ey s).length=s.length:=by simp [ey]
 have hc:(w.length+s.length)*1≤140737488355328∧w.length+s.length≤4611686018427387904∧lC 1 (ey s)=true:=⟨by omega,by omega,Fl s⟩
 rw [HE];cases s with
 |nil=>simp [rap,wc,hx,h1,ey,lC];simp at h;omega
 |cons c s=>
  simp only [rap,wc,hx,h1,h2,or_true,true_and,hc,if_true,and_self];simp only [ey,List.map_cons,bg,List.getElem?_cons_zero,hp_set0,List.set_cons_zero,Nat.mul_one,List.length_cons,List.length_map,and_self,if_true,List.length_append,bTok]
theorem Lx(s:Str)(H:List AObj):mF H 1 true (.str s)=some (ey s):=by simp [mF]
theorem Jz(H L:List AObj){w s:Str}(h:w.length+s.length≤140737488355328) :
  rap false (H++(bTok w::L)) kh 1 1 true (.slice (.own H.length) 1 (ey w)) (.str s)=some (.slice (.own H.length) 1 (ey (w++s)),H++(bTok (w++s)::L)):=Jy H L h _ (Lx s)
theorem Ob(H L:List AObj)(w:Str)(hw:w.length≤9223372036854775807):EH (H++(bTok w::L)) kh (.sdp H.length (ey w)) (.int .i64 (w.length:Int))=some (.str w):=by
 cases w with
 |nil=>simp [ey,EH]
 |cons c w=>
  have h1:=uj (c::w);have h2:=DQ (c::w);simp only [ey,List.map_cons] at h1 h2 ⊢;simp only [EH,bg,List.getElem?_cons_zero,h1,h2];rw [if_pos];exact ⟨trivial,trivial,Nat.le_refl _,hw,trivial⟩
theorem Oc(n:Nat)(w:Str):Im (.slice (.own n) 1 (ey w))=some (.sdp n (ey w)):=by cases w<;>rfl
theorem xn{H L:List AObj}{n n':Nat}{T T' T1 T2:TypeId}{cs cs':List AV}(h:WkL (H.length+(L.length+1+1)) cs' cs'):dz (H++(.tok n T :: .cells cs T1::L)) (H++(.tok n' T' :: .cells cs' T2::L)):=
 ⟨by simp,fun i x hi hx=>by
  rcases Nat.lt_trichotomy i H.length with hl | hl | hl
  ·left;rw [List.getElem?_append_left hl] at hx ⊢;exact hx
  ·subst hl;rw [bg] at hx;right
   obtain rfl:_=x:=by simpa using hx
   trivial
  ·obtain ⟨j,rfl⟩:∃ j,i=H.length+(j+1):=⟨i-H.length-1,by omega⟩
   rw [hp_getk] at hx ⊢;cases j with
   |zero=>
    right;obtain rfl:_=x:=by simpa using hx
    intro c hc;obtain ⟨k,hk⟩:=List.getElem?_of_mem hc;obtain ⟨y,h1,h2⟩:=h.get k c hk;rw [hk] at h1;cases h1;simpa [Nat.add_assoc] using h2
   |succ j=>left;simpa using hx⟩
theorem rk(H L:List AObj)(x y:AObj):(H++(x::y::L)).take (H.length+(L.length+1+1))=H++(x::y::L):=List.take_of_length_le (by simp)
theorem JA(n:Nat)(w:Str):fJ n (ey w):=by
 rw [rowsWk_map];exact fun _ _=>⟨wk_int _ _ _,trivial⟩
theorem Ly(H L:List AObj)(w:Str):WkL (H.length+(L.length+1+1)) [.ptr (H.length+1) 0,.slice (.own H.length) 1 (ey w)] [.ptr (H.length+1) 0,.slice (.own H.length) 1 (ey w)]:=
 ⟨wk_ptr (by omega),wk_slice (show H.length<_ by omega) (JA _ _),trivial⟩
theorem qU:(∀ (a:Env) (H:List AObj) (x:RX),rop a H (.usl x)=bf H (Im (rx a x)))∧(∀ (a:Env) (H:List AObj) (e:TypeId) (x n:RX),rop a H (.ust e x n)=bf H (EH H e (rx a x) (rx a n)))∧(∀ (a:Env) (H:List AObj) (x:RX),rop a H (.cvu x)=bf H (Io H (rx a x)))∧(∀ (a:Env) (H:List AObj) (u:TypeId) (sz:Nat) (x:RX),rop a H (.cvf u sz x)=bf H (Ip H u sz (rx a x))) ∧
 (∀ (a:Env) (H:List AObj) (cs:List AV) (e:TypeId) (j:Nat) (T:TypeId),rop a H (.nwb cs e j T)=some (.ptr (H.length+1) 0,H++[.tok 0 T,.cells (cs.set j (.slice (.own H.length) 1 [])) e])):=
 ⟨fun _ _ _=>rfl,fun _ _ _ _ _=>rfl,fun _ _ _=>rfl,fun _ _ _ _ _=>rfl,fun _ _ _ _ _ _=>rfl⟩
theorem JB:req .ptr .nilp .nilp=some true:=rfl
theorem Fm(i o:Nat):req .ptr (.ptr i o) .nilp=some false:=rfl
theorem JC(i o:Nat):req .ptr (.ptr i o) (.ptr i o)=some true:=by simp [req]
theorem Od(H L:List AObj)(x:AObj)(a b:AV)(T:TypeId):Io (H++(x :: .cells [a,b] T::L)) (.ptr (H.length+1) 0)=some (.ptr (H.length+1) 0):=by
 simp [Io,hp_getk]
theorem Oe(H L:List AObj)(x:AObj)(a b:AV)(T:TypeId):Ip (H++(x :: .cells [a,b] T::L)) T 2 (.ptr (H.length+1) 0)=some (.ptr (H.length+1) 0):=by
 simp [Ip,hp_getk]
theorem ze(hB:zd E)(hX:Cn M)(H L:List AObj)(w:Str) :
  M.run cD [.ptr (H.length+1) 0] (H++(bTok w::gi .nilp H.length w aP::L))=some (.ret (.tuple []),H++(bTok w::gi (.ptr (H.length+1) 0) H.length w aP::L)):=by
 rw [b9 M hB.strings_Builder_copyCheck rfl (c:=cH) rfl,cH];have h1:=hX.same (H.length+1) 0;have hw:=Ly H L w;simp (maxSteps:=3000000) (maxDischargeDepth:=6) +contextual -implicitDefEqProofs only [amC M,↓amD,Nat.reduceBEq,Nat.reduceAdd,env,ak,iv,amG,AV.cell,Nat.reduceMul,Nat.reduceLeDiff,h1,qU,JB,rnc,Od,Oe,xn hw,rk,wk_tuple]
theorem zf(hB:zd E)(H L:List AObj)(w:Str)(T:TypeId) :
  M.run cD [.ptr (H.length+1) 0] (H++(bTok w::gi (.ptr (H.length+1) 0) H.length w T::L))=some (.ret (.tuple []),H++(bTok w::gi (.ptr (H.length+1) 0) H.length w T::L)):=by
 rw [b9 M hB.strings_Builder_copyCheck rfl (c:=cH) rfl,cH];simp (maxSteps:=3000000) (maxDischargeDepth:=6) +contextual -implicitDefEqProofs only [amC M,↓amD,Nat.reduceBEq,Nat.reduceAdd,env,ak,iv,Fm,JC,rnc,rk,wk_tuple]
theorem vq(hB:zd E)(hX:Cn M)(H L:List AObj){w s:Str}{T:TypeId}(h:w.length+s.length≤140737488355328) :
  M.run b5 [.ptr (H.length+1) 0,.str s] (H++(bTok w::gi .nilp H.length w aP::L))=some (.ret (.tuple [.int .i64 s.length,.nilif]),H++(bTok (w++s)::gi (.ptr (H.length+1) 0) H.length (w++s) aP::L)):=by
 rw [b9 M hB.strings_Builder_WriteString rfl (c:=b6) rfl,b6];have hw:=Ly H L (w++s);simp (maxSteps:=3000000) (maxDischargeDepth:=6) +contextual -implicitDefEqProofs only [amC M,↓amD,Nat.reduceBEq,Nat.reduceAdd,env,ak,fY,amG,AV.cell,Nat.reduceMul,Nat.reduceLeDiff,(ze M hB hX),rnc,Jz _ _ h,xn hw,rk,wk_tuple]
theorem vr(hB:zd E)(hX:Cn M)(H L:List AObj){w s:Str}{T:TypeId}(h:w.length+s.length≤140737488355328) :
  M.run b5 [.ptr (H.length+1) 0,.str s] (H++(bTok w::gi (.ptr (H.length+1) 0) H.length w T::L))=some (.ret (.tuple [.int .i64 s.length,.nilif]),H++(bTok (w++s)::gi (.ptr (H.length+1) 0) H.length (w++s) T::L)):=by
 rw [b9 M hB.strings_Builder_WriteString rfl (c:=b6) rfl,b6];have hw:=Ly H L (w++s);simp (maxSteps:=3000000) (maxDischargeDepth:=6) +contextual -implicitDefEqProofs only [amC M,↓amD,Nat.reduceBEq,Nat.reduceAdd,env,ak,fY,amG,AV.cell,Nat.reduceMul,Nat.reduceLeDiff,(zf M hB),rnc,Jz _ _ h,xn hw,rk,wk_tuple]
theorem DS(hB:zd E)(H L:List AObj){w:Str}{a:AV}{T:TypeId}(hw:w.length≤9223372036854775807) :
  M.run dV [.ptr (H.length+1) 0] (H++(bTok w::gi a H.length w T::L))=some (.ret (.str w),H++(bTok w::gi a H.length w T::L)):=by
 rw [b9 M hB.strings_Builder_String rfl (c:=fB) rfl,fB];simp (maxSteps:=3000000) (maxDischargeDepth:=6) +contextual -implicitDefEqProofs only [amC M,↓amD,Nat.reduceBEq,Nat.reduceAdd,env,ak,nL,qU,rnc,Oc,Ob H _ w hw,rk]
end
def cq(s:Str):Nat×Nat:=Lib.decodeL s
theorem mP(s:Str):1≤(cq s).2:=Lib.decodeL_width s
theorem Co{s:Str}(h:s≠[]):(cq s).2≤s.length:=Lib.decodeL_le s h
theorem A9(s:Str)(i:Nat):Utf8.decode ⟨s.toArray⟩ i=cq (s.drop i):=(Lib.decodeL_drop ⟨s.toArray⟩ i).symm
theorem OF(r:Nat):(Utf8.encode (r:Int)).data.toList=Lib.encodeRune (r:Int):=by
 have h:=Extern.FmtText.encode_eq r;unfold Lib.encodeRune;rw [← h,Extern.FmtText.nums,List.map_map]
 conv=>lhs;rw [← List.map_id (Utf8.encode (r:Int)).data.toList]
 refine List.map_congr_left fun c _ => ?_
 simp
theorem Gi{s:Str}(hne:s≠[])(hv:¬ ((cq s).1=65533∧(cq s).2=1)):(Utf8.encode ((cq s).1:Int)).data.toList=s.take (cq s).2:=by
 rw [OF];exact Lib.encode_decode s hne hv
def uk:Nat→Str→List Nat
 |0,_=>[]
 |n+1,s=>match s with
  |[]=>[]
  |c::t=>(cq (c::t)).1::uk n ((c::t).drop (cq (c::t)).2)
theorem mQ(n:Nat):uk n []=[]:=by cases n<;>rfl
theorem kR{n:Nat}{s:Str}(h:s≠[]):uk (n+1) s=(cq s).1::uk n (s.drop (cq s).2):=by
 cases s with
 |nil=>exact absurd rfl h
 |cons c t=>rfl
theorem Ba:∀ (n m:Nat) (s:Str),s.length≤n→s.length≤m→uk n s=uk m s
 |0,m,s,h,_=>by
  obtain rfl:s=[]:=List.eq_nil_of_length_eq_zero (by omega);rw [mQ,mQ]
 |n+1,0,s,_,h=>by
  obtain rfl:s=[]:=List.eq_nil_of_length_eq_zero (by omega);rw [mQ,mQ]
 |n+1,m+1,s,h,h'=>by
  by_cases hs:s=[]
  ·subst hs;rw [mQ,mQ]
  ·have hw:=mP s
   rw [kR hs,kR hs,Ba n m _ (by rw [List.length_drop];omega) (by rw [List.length_drop];omega)]
def dJ(s:Str):List Nat:=uk s.length s
theorem rm{s:Str}(h:s≠[]):dJ s=(cq s).1::dJ (s.drop (cq s).2):=by
 have hl:0<s.length:=List.length_pos_iff.2 h;have hw:=mP s;obtain ⟨n,hn⟩:∃ n,s.length=n+1:=⟨s.length-1,by omega⟩
 unfold dJ;rw [hn,kR h,Ba n (s.drop (cq s).2).length _ (by rw [List.length_drop];omega) (Nat.le_refl _)]
theorem vW(s:Str):∀ (n i:Nat),gM ⟨s.toArray⟩ n i=(uk n (s.drop i)).map Int.ofNat
 |0,i=>rfl
 |n+1,i=>by
  rw [gM];have hsz:(ByteArray.mk s.toArray).size=s.length:=by simp [ByteArray.size]
  by_cases h:i<s.length
  ·rw [if_pos (by rw [hsz];exact h),kR (fun e=>by have:=congrArg List.length e;simp at this;omega),vW s n,A9,List.map_cons,List.drop_drop]
  ·rw [if_neg (by rw [hsz];exact h),List.drop_of_length_le (by omega),mQ];rfl
theorem Bb(s:Str):dL s=(dJ s).map Int.ofNat:=by
 unfold dL dJ;rw [vW,List.drop_zero]
def HF(r w:Nat):Bool:=((r:Int) == 65533)&&decide ((w:Int)<2)||decide ((r:Int)<32)||((r:Int) == 127)
def rn:Nat→Str→Bool
 |0,_=>true
 |n+1,s=>match s with
  |[]=>true
  |c::t => !HF (cq (c::t)).1 (cq (c::t)).2&&rn n ((c::t).drop (cq (c::t)).2)
theorem kS(n:Nat):rn n []=true:=by cases n<;>rfl
theorem py{n:Nat}{s:Str}(h:s≠[]):rn (n+1) s=(!HF (cq s).1 (cq s).2&&rn n (s.drop (cq s).2)):=by
 cases s with
 |nil=>exact absurd rfl h
 |cons c t=>rfl
theorem zg:∀ (n m:Nat) (s:Str),s.length≤n→s.length≤m→rn n s=rn m s
 |0,m,s,h,_=>by
  obtain rfl:s=[]:=List.eq_nil_of_length_eq_zero (by omega);rw [kS,kS]
 |n+1,0,s,_,h=>by
  obtain rfl:s=[]:=List.eq_nil_of_length_eq_zero (by omega);rw [kS,kS]
 |n+1,m+1,s,h,h'=>by
  by_cases hs:s=[]
  ·subst hs;rw [kS,kS]
  ·have hw:=mP s
   rw [py hs,py hs,zg n m _ (by rw [List.length_drop];omega) (by rw [List.length_drop];omega)]
def kG(s:Str):Bool:=rn s.length s
theorem zh{s:Str}(h:s≠[]):kG s=(!HF (cq s).1 (cq s).2&&kG (s.drop (cq s).2)):=by
 have hl:0<s.length:=List.length_pos_iff.2 h;have hw:=mP s;obtain ⟨n,hn⟩:∃ n,s.length=n+1:=⟨s.length-1,by omega⟩
 unfold kG;rw [hn,py h,zg n (s.drop (cq s).2).length _ (by rw [List.length_drop];omega) (Nat.le_refl _)]
theorem vX:∀ l:List Nat,runeStr (l.map Int.ofNat)=(l.map fun r=>(Utf8.encode ((r:Nat):Int)).data.toList).flatten
 |[]=>rfl
 |r::l=>by rw [List.map_cons,runeStr,vX l,List.map_cons,List.flatten_cons,Int.ofNat_eq_natCast]
def jS(l:List Nat):Str:=(l.map fun r=>(Utf8.encode ((r:Nat):Int)).data.toList).flatten
theorem HG(r:Nat)(l:List Nat):jS (r::l)=(Utf8.encode (r:Int)).data.toList++jS l:=rfl
theorem Lz{r:Nat}(h:r=65533):(Utf8.encode (r:Int)).data.toList=[239,191,189]:=by
 rw [Extern.FmtText.enc3 r (by omega) (by omega) (by omega),h];rfl
theorem LA(t:Str):cq (239::191::189::t)=(65533,3):=by
 unfold cq;rw [Lib.decodeL_N];simp [Lib.decodeN]
def zi:Nat→Str→Bool
 |0,_=>true
 |n+1,s=>match s with
  |[]=>true
  |c::t => !(((cq (c::t)).1 == 65533)&&((cq (c::t)).2 == 1))&&zi n ((c::t).drop (cq (c::t)).2)
theorem Bc:∀ (n:Nat) (s:Str),s.length≤n→((jS (uk n s) == s)=zi n s)
 |0,s,h=>by
  obtain rfl:s=[]:=List.eq_nil_of_length_eq_zero (by omega);rfl
 |n+1,[],_=>rfl
 |n+1,c::t,h=>by
  have hw:=mP (c::t);have ih:=Bc n ((c::t).drop (cq (c::t)).2) (by rw [List.length_drop];simp at h ⊢;omega);rw [kR (by simp),HG,zi]
  by_cases hb:(cq (c::t)).1=65533∧(cq (c::t)).2=1
  ·have hbb:(((cq (c::t)).1 == 65533)&&((cq (c::t)).2 == 1))=true:=by simp [hb]
   rw [hbb,Bool.not_true,Bool.false_and,beq_eq_false_iff_ne,Lz hb.1];intro e;generalize jS (uk n ((c::t).drop (cq (c::t)).2))=u at e;have e2:c::t=(239:UInt8)::191::189::u:=by rw [← e];rfl
   rw [e2,LA] at hb;exact absurd hb.2 (by decide)
  ·have hbb:(((cq (c::t)).1 == 65533)&&((cq (c::t)).2 == 1))=false:=by
    rw [Bool.and_eq_false_iff]
    by_cases h1:(cq (c::t)).1=65533
    ·right;simp;exact fun h2=>hb ⟨h1,h2⟩
    ·left;simpa using h1
   rw [hbb,Bool.not_false,Bool.true_and,← ih,Gi (by simp) hb,Bool.eq_iff_iff,beq_iff_eq,beq_iff_eq];constructor
   ·intro e
    have e3:(c::t).take (cq (c::t)).2++jS (uk n ((c::t).drop (cq (c::t)).2))=(c::t).take (cq (c::t)).2++(c::t).drop (cq (c::t)).2:=by rw [List.take_append_drop];exact e
    exact List.append_cancel_left e3
   ·intro e
    rw [e,List.take_append_drop]
def okR(l:List Nat):Bool:=l.all fun r => !(decide ((r:Int)<32)||((r:Int) == 127))
theorem zj:∀ (n:Nat) (s:Str),s.length≤n→(zi n s&&okR (uk n s))=rn n s
 |0,s,h=>rfl
 |n+1,[],_=>rfl
 |n+1,c::t,h=>by
  have hw:=mP (c::t);have ih:=zj n ((c::t).drop (cq (c::t)).2) (by rw [List.length_drop];simp at h ⊢;omega);rw [kR (by simp),zi,rn,← ih];unfold okR HF;rw [List.all_cons];have e1:(((cq (c::t)).1:Int) == 65533)=((cq (c::t)).1 == 65533):=by rw [Bool.eq_iff_iff];simp;omega
  have e2:decide (((cq (c::t)).2:Int)<2)=((cq (c::t)).2 == 1):=by rw [Bool.eq_iff_iff];simp;omega
  rw [e1,e2];cases ((cq (c::t)).1 == 65533)<;>cases ((cq (c::t)).2 == 1)<;>cases decide (((cq (c::t)).1:Int)<32)<;>cases (((cq (c::t)).1:Int) == 127)<;>simp
theorem Bd(s:Str):(sel (jS (dJ s) == s) (okR (dJ s)) false)=kG s:=by
 unfold kG;rw [← zj s.length s (Nat.le_refl _),← Bc s.length s (Nat.le_refl _)];show sel _ _ _=(jS (dJ s) == s&&_)
 cases jS (dJ s) == s<;>rfl
theorem Be{s:Str}(h:kG s=true):jS (dJ s)=s:=by
 rw [← Bd] at h;cases e:jS (dJ s) == s with
 |true=>simpa using e
 |false=>rw [e] at h;cases h
theorem DT:∀ (n:Nat) (s:Str),(uk n s).length≤s.length
 |0,_=>Nat.zero_le _
 |n+1,[]=>by simp [uk]
 |n+1,c::t=>by
  have hw:=mP (c::t);have:=DT n ((c::t).drop (cq (c::t)).2);rw [kR (by simp),List.length_cons];rw [List.length_drop] at this;simp at this ⊢;omega
theorem pz(s:Str):(dJ s).length≤s.length:=DT _ _
section
attribute [local congr] aD bH aS aE aR aL aF au aw aM aN
variable{E:a8}(M:bY cC E)
structure lP (E:a8):Prop where
 docs_isText:E.fn gE=some gI
 docs_isName:E.fn kX=some gJ
 truchmanref01_Text:E.fn iE=some ed
 truchmanref01_Name:E.fn iF=some ej
 docs_carried_takes:E.fn fm=some fo
 docs_stack_string_pop:E.fn fL=some en
 docs_stack_string_push:E.fn fy=some fD
 docs_CheckPieces:E.fn bO=some dS
 truchmanref01_alone:E.fn gQ=some gY
 truchmanref01_carried:E.fn fK=some du
 truchmanref01_CheckPieces:E.fn eC=some cF
 truchmanref01_SamePieces:E.fn aX=some bV
 truchmanlaw01_long:E.fn fk=some cO
def No(s:Str):Nat×Nat:=if s=[] then (65533,0) else cq s
structure Av (M:bY cC E):Prop where
 dec:∀ (s:Str) (H:List AObj),M.run bI [.str s] H=some (.ret (.tuple [.int .i32 ((No s).1:Int),.int .i64 ((No s).2:Int)]),H)
theorem JD{s:Str}{k:IntKind}{i:Nat}(h:i≤s.length):Ik (.str s) (some (.int k (i:Int))) none=some (.str (s.drop i)):=by
 simp [Ik,cJ,h];exact List.take_of_length_le (by simp)
theorem Np{a b:Nat}(h:a+b≤ca):IntKind.i64.wrap ((a:Int)+(b:Int))=((a+b:Nat):Int):=by
 simp only [ca] at h;rw [b4 (by omega) (by omega)];omega
theorem Fo{α:Type}(b p:Bool)(x y:α):slc b y (slc p x y)=slc (!b&&p) x y:=by cases b<;>rfl
theorem txl(hX:Av M){s:Str}(hs:s.length≤ca){H H0:List AObj}(hc:dz H0 H)(k:List Fra):∀ (n i:Nat) (He:List AObj),s.length-i≤n→i≤s.length →
  M.go gI H0 (.c fg :: .lp ⟨(some [0,3]),[],false⟩ fg He :: .blk 0 :: .c (.lv [])::k) (kv [(0,.str s),(3,.int .i64 i)]) H=sel (rn n (s.drop i)) (M.go gI H0 k .leaf H) (some (.ret (.bool false),H.take H0.length))
 |0,i,He,h,hi=>by
  obtain rfl:i=s.length:=by omega
  rw [al M fg.eq_1];simp (maxSteps:=3000000) (maxDischargeDepth:=6) +contextual -implicitDefEqProofs only [amC M,↓amD,Nat.reduceBEq,Nat.reduceAdd,env,ak,kY,Nat.lt_irrefl,rn]
 |n+1,i,He,h,hi=>by
  by_cases hlt:i<s.length
  ·have hne:s.drop i≠[]:=fun e=>by have:=congrArg List.length e;simp at this;omega
   have hw:=mP (s.drop i);have hle:=Co hne;rw [List.length_drop] at hle;have hd:=fun H=>hX.dec (s.drop i) H
   have hg:No (s.drop i)=cq (s.drop i):=if_neg hne;rw [hg] at hd;have ih:=fun He=>txl hX hs hc k n (i+(cq (s.drop i)).2) He (by omega) (by omega)
   rw [← List.drop_drop] at ih;have hws:=Np (a:=i) (b:=(cq (s.drop i)).2) (by omega);rw [py hne];simp only [kv_cons,kv_nil] at ih;generalize cq (s.drop i)=d at *
   rw [al M fg.eq_1];simp (maxSteps:=3000000) (maxDischargeDepth:=6) +contextual -implicitDefEqProofs only [amC M,↓amD,Nat.reduceBEq,Nat.reduceAdd,env,ak,kY,hlt,JD hi,hd,ih,hws,HF,hc];exact Fo _ _ _ _
  ·obtain rfl:i=s.length:=by omega
   rw [List.drop_length,kS];rw [al M fg.eq_1];simp (maxSteps:=3000000) (maxDischargeDepth:=6) +contextual -implicitDefEqProofs only [amC M,↓amD,Nat.reduceBEq,Nat.reduceAdd,env,ak,kY,Nat.lt_irrefl]
theorem Fp(hB:lP E)(hX:Av M){s:Str}(hs:s.length≤ca)(H:List AObj):M.run gE [.str s] H=some (.ret (.bool (kG s)),H):=by
 rw [b9 M hB.docs_isText rfl (c:=nM) rfl,nM];have hl:=fun k He=>txl M hX hs (cut_refl H) k s.length 0 He (by omega) (by omega)
 simp only [kv_cons,kv_nil,Int.ofNat_zero,List.drop_zero] at hl;simp (maxSteps:=3000000) (maxDischargeDepth:=6) +contextual -implicitDefEqProofs only [amC M,↓amD,Nat.reduceBEq,Nat.reduceAdd,env,ak,kY,hl,kG]
theorem LB(t:Tag)(l:List Nat):xP (.slice t 1 ((l.map Int.ofNat).map fun n=>[.int .i32 n]))=some (.str (jS l)):=by
 have h:∀ l:List Nat,uK ((l.map Int.ofNat).map fun n=>[AV.int .i32 n])=some (l.map Int.ofNat):=fun l=>by
  induction l with
  |nil=>rfl
  |cons r l ih=>simp only [List.map_cons,uK] at ih ⊢;rw [ih];rfl
 simp only [xP,h,Option.map_some,vX];rfl
theorem LC{s:Str}(h:s.length≤70368744177664):xO (.str s)=some (.slice .any 1 ((dJ s).map fun r:Nat=>[AV.int .i32 (r:Int)])):=by
 simp only [xO,if_pos h,Bb,List.map_map];rfl
def um(r:Nat):List AV:=[.int .i32 (r:Int)]
theorem Gj{s:Str}(h:s.length≤70368744177664):xO (.str s)=some (.slice .any 1 ((dJ s).map um)):=LC h
theorem LD(t:Tag)(l:List Nat):xP (.slice t 1 (l.map um))=some (.str (jS l)):=by
 rw [← LB t l,List.map_map];rfl
theorem My:(∀ r:Nat,bT none (um r) 0=some (.int .i32 (r:Int))):=fun _=>rfl
theorem rtx{H H0:List AObj}{l:List Nat}(hl:l.length≤ca)(hc:dz H0 H)(k:List Fra):∀ (n i:Nat) (He:List AObj),i+n=l.length →
  M.go ed H0 (.c dH :: .lp ⟨(some [3,4]),[],false⟩ dH He :: .blk 0 :: .c (.lv [])::k) (kv [(3,.slice .any 1 (l.map um)),(4,.int .i64 i)]) H =
   sel ((l.drop i).all fun r => !(decide ((r:Int)<32)||((r:Int) == 127))) (M.go ed H0 k .leaf H) (some (.ret (.bool false),H.take H0.length))
 |0,i,He,h=>by
  have e:i=l.length:=by omega
  subst e;rw [al M dH.eq_1];simp (maxSteps:=3000000) (maxDischargeDepth:=6) +contextual -implicitDefEqProofs only [amC M,↓amD,Nat.reduceBEq,Nat.reduceAdd,env,ak,iK,Nat.lt_irrefl,List.drop_length,List.all_nil]
 |n+1,i,He,h=>by
  have hi:i<l.length:=by omega
  have hx:l[i]?=some l[i]:=List.getElem?_eq_getElem hi;have hd:(l.drop i)=l[i]::l.drop (i+1):=List.drop_eq_getElem_cons hi;have hm:l[i]∈l:=List.getElem_mem hi;have ih:=fun He=>rtx (H:=H) (H0:=H0) (l:=l) (hl:=hl) hc k n (i+1)  He (by omega)
  simp only [kv_cons,kv_nil] at ih;rw [al M dH.eq_1];simp (maxSteps:=3000000) (maxDischargeDepth:=6) +contextual -implicitDefEqProofs only [amC M,↓amD,Nat.reduceBEq,Nat.reduceAdd,env,ak,iK,hx,hd,hi,ih,dO hi hl,aU hi,My,List.all_cons,hc];exact Fo _ _ _ _
theorem JE(hB:lP E){s:Str}(hs:s.length≤70368744177664)(H:List AObj):M.run iE [.str s] H=some (.ret (.bool (kG s)),H):=by
 rw [← Bd];have hn:(dJ s).length≤ca:=by have:=pz s;simp only [ca];omega
 rw [b9 M hB.truchmanref01_Text rfl (c:=iJ) rfl,iJ];have hl:=fun k He=>rtx M (l:=dJ s) hn (cut_refl H) k (dJ s).length 0 He (by omega)
 simp only [kv_cons,kv_nil,Int.ofNat_zero,List.drop_zero] at hl;simp (maxSteps:=3000000) (maxDischargeDepth:=6) +contextual -implicitDefEqProofs only [amC M,↓amD,Nat.reduceBEq,Nat.reduceAdd,env,ak,iK,hl,Gj hs,LD,okR]
def inN(c:UInt8):Bool:=decide (97≤(c.toNat:Int))&&decide ((c.toNat:Int)≤122)||decide (48≤(c.toNat:Int))&&decide ((c.toNat:Int)≤57)||((c.toNat:Int) == 45)
def pK(s:Str):Bool:=match s with
 |[]=>false
 |c::t=>decide (((c::t).length:Int)≤16)&&decide (97≤(c.toNat:Int))&&decide ((c.toNat:Int)≤122)&&(c::t).all inN
theorem dlt(a b:Int):decide (a<b) = !decide (b≤a):=by rw [Bool.eq_iff_iff];simp
theorem nml{H H0:List AObj}{s:Str}(hs:s.length≤ca)(hc:dz H0 H)(k:List Fra):∀ (n i:Nat) (He:List AObj),i+n=s.length →
  M.go gJ H0 (.c gm :: .lp ⟨(some [0,23,24]),[],false⟩ gm He :: .blk 0 :: .c (.lv [])::k) (kv [(0,.str s),(23,.int .i64 s.length),(24,.int .i64 i)]) H =
   sel ((s.drop i).all inN) (M.go gJ H0 k .leaf H) (some (.ret (.bool false),H.take H0.length))
 |0,i,He,h=>by
  have e:i=s.length:=by omega
  subst e;rw [al M gm.eq_1];simp (maxSteps:=3000000) (maxDischargeDepth:=6) +contextual -implicitDefEqProofs only [amC M,↓amD,Nat.reduceBEq,Nat.reduceAdd,env,ak,kZ,Nat.lt_irrefl,List.drop_length,List.all_nil]
 |n+1,i,He,h=>by
  have hi:i<s.length:=by omega
  have hx:s[i]?=some s[i]:=List.getElem?_eq_getElem hi;have hd:(s.drop i)=s[i]::s.drop (i+1):=List.drop_eq_getElem_cons hi;have hm:s[i]∈s:=List.getElem_mem hi;have ih:=fun He=>nml (H:=H) (H0:=H0) (s:=s) (hs:=hs) hc k n (i+1)  He (by omega)
  simp only [kv_cons,kv_nil] at ih;rw [al M gm.eq_1];simp (maxSteps:=3000000) (maxDischargeDepth:=6) +contextual -implicitDefEqProofs only [amC M,↓amD,Nat.reduceBEq,Nat.reduceAdd,env,ak,kZ,hx,hd,hi,ih,dO hi hs,List.all_cons,hc,inN]
theorem rnl{H H0:List AObj}{s:Str}(hs:s.length≤ca)(hc:dz H0 H)(k:List Fra):∀ (n i:Nat) (He:List AObj),i+n=s.length →
  M.go ej H0 (.c dI :: .lp ⟨(some [0,3]),[],false⟩ dI He :: .blk 0 :: .c (.lv [])::k) (kv [(0,.str s),(3,.int .i64 i)]) H =
   sel ((s.drop i).all inN) (M.go ej H0 k .leaf H) (some (.ret (.bool false),H.take H0.length))
 |0,i,He,h=>by
  have e:i=s.length:=by omega
  subst e;rw [al M dI.eq_1];simp (maxSteps:=3000000) (maxDischargeDepth:=6) +contextual -implicitDefEqProofs only [amC M,↓amD,Nat.reduceBEq,Nat.reduceAdd,env,ak,fq,Nat.lt_irrefl,List.drop_length,List.all_nil]
 |n+1,i,He,h=>by
  have hi:i<s.length:=by omega
  have hx:s[i]?=some s[i]:=List.getElem?_eq_getElem hi;have hd:(s.drop i)=s[i]::s.drop (i+1):=List.drop_eq_getElem_cons hi;have hm:s[i]∈s:=List.getElem_mem hi;have ih:=fun He=>rnl (H:=H) (H0:=H0) (s:=s) (hs:=hs) hc k n (i+1)  He (by omega)
  simp only [kv_cons,kv_nil] at ih;rw [al M dI.eq_1];simp (maxSteps:=3000000) (maxDischargeDepth:=6) +contextual -implicitDefEqProofs only [amC M,↓amD,Nat.reduceBEq,Nat.reduceAdd,env,ak,fq,hx,hd,hi,ih,dO hi hs,List.all_cons,hc,inN,dlt];rw [Fo];congr 1;simp only [Bool.not_and,Bool.not_or,Bool.not_not]
theorem Fq(hB:lP E){s:Str}(hs:s.length≤ca)(H:List AObj):M.run kX [.str s] H=some (.ret (.bool (pK s)),H):=by
 rw [b9 M hB.docs_isName rfl (c:=nN) rfl,nN];have hl:=fun k He=>nml M (s:=s) hs (cut_refl H) k s.length 0 He (by omega)
 simp only [kv_cons,kv_nil,Int.ofNat_zero,List.drop_zero] at hl;cases s with
 |nil=>simp (maxSteps:=3000000) (maxDischargeDepth:=6) +contextual -implicitDefEqProofs only [amC M,↓amD,Nat.reduceBEq,Nat.reduceAdd,env,ak,kZ,hl,pK,(show (([]:Str) == [])=true from rfl)]
 |cons c t=>
  simp (maxSteps:=3000000) (maxDischargeDepth:=6) +contextual -implicitDefEqProofs only [amC M,↓amD,Nat.reduceBEq,Nat.reduceAdd,env,ak,kZ,hl,pK,dlt,List.getElem?_cons_zero,(show ((c::t) == ([]:Str))=false from rfl)];simp only [Bool.not_or,Bool.not_not]
theorem JF(hB:lP E){s:Str}(hs:s.length≤ca)(H:List AObj):M.run iF [.str s] H=some (.ret (.bool (pK s)),H):=by
 rw [b9 M hB.truchmanref01_Name rfl (c:=iL) rfl,iL];have hl:=fun k He=>rnl M (s:=s) hs (cut_refl H) k s.length 0 He (by omega)
 simp only [kv_cons,kv_nil,Int.ofNat_zero,List.drop_zero] at hl;cases s with
 |nil=>simp (maxSteps:=3000000) (maxDischargeDepth:=6) +contextual -implicitDefEqProofs only [amC M,↓amD,Nat.reduceBEq,Nat.reduceAdd,env,ak,fq,hl,pK,List.length_nil,(show ((((0:Nat):Int)) == 0)=true from rfl)]
 |cons c t=>
  have h0:(((c::t).length:Int) == 0)=false:=by simp;omega
  simp (maxSteps:=3000000) (maxDischargeDepth:=6) +contextual -implicitDefEqProofs only [amC M,↓amD,Nat.reduceBEq,Nat.reduceAdd,env,ak,fq,hl,pK,dlt,List.getElem?_cons_zero,h0];simp only [Bool.not_or,Bool.not_not]
end
section
attribute [local congr] aD bH aS aE aR aL aF au aw aM aN
variable{E:a8}(M:bY cC E)
def Pre(H0 G:List AObj):Prop:=H0.length≤G.length∧∀ i,i<H0.length→G[i]?=H0[i]?
theorem Pre.refl(H:List AObj):Pre H H:=⟨Nat.le_refl _,fun _ _=>rfl⟩
theorem Pre.cut{H0 G:List AObj}(h:Pre H0 G):dz H0 G:=⟨h.1,fun i x hi hx=>.inl (by rw [← h.2 i hi];exact hx)⟩
theorem Pre.take{H0 G:List AObj}(h:Pre H0 G):G.take H0.length=H0:=by
 refine List.ext_getElem? fun i => ?_
 rw [List.getElem?_take];split
 ·rename_i hi;exact h.2 i hi
 ·rename_i hi;rw [List.getElem?_eq_none (by omega)]
theorem Pre.trans{A B C:List AObj}(h:Pre A B)(h':Pre B C):Pre A C:=⟨Nat.le_trans h.1 h'.1,fun i hi=>by rw [h'.2 i (Nat.lt_of_lt_of_le hi h.1),h.2 i hi]⟩
theorem Pre.app{H0 G:List AObj}(h:Pre H0 G)(L:List AObj):Pre H0 (G++L):=⟨by have:=h.1;simp;omega,fun i hi=>by
 have:=h.1;rw [List.getElem?_append_left (by omega)];exact h.2 i hi⟩
theorem Pre.set{H0 G:List AObj}(h:Pre H0 G){id:Nat}(hid:H0.length≤id)(o:AObj):Pre H0 (G.set id o):=⟨by simpa using h.1,fun i hi=>by
 rw [List.getElem?_set_ne (by omega)];exact h.2 i hi⟩
def But(b p:Nat)(G G':List AObj):Prop:=G.length≤G'.length∧∀ i,i<b→i≠p→G'[i]?=G[i]?
theorem But.refl(b p:Nat)(G:List AObj):But b p G G:=⟨Nat.le_refl _,fun _ _ _=>rfl⟩
theorem But.pre{H0 G G':List AObj}{b p:Nat}(h:But b p G G')(hp:Pre H0 G)(hb:H0.length≤b)(hq:H0.length≤p):Pre H0 G':=
 ⟨Nat.le_trans hp.1 h.1,fun i hi=>by rw [h.2 i (by omega) (by omega)];exact hp.2 i hi⟩
theorem dy{G:List AObj}{i:Nat}{x:AObj}(h:G[i]?=some x):i<G.length:=(List.getElem?_eq_some_iff.1 h).1
theorem Gk{G:List AObj}{i:Nat}(h:i<G.length)(o:AObj)(L:List AObj):(G++L).set i o=G.set i o++L:=by rw [List.set_append_left _ _ h]
theorem JG{G:List AObj}{i:Nat}(h:i<G.length)(o:AObj):(G.set i o)[i]?=some o:=List.getElem?_set_self h
theorem JH{G:List AObj}{i:Nat}(h:i<G.length)(o:AObj)(L:List AObj):(G.set i o++L)[i]?=some o:=by
 rw [List.getElem?_append_left (by simpa using h)];exact JG h o
theorem DU{G:List AObj}{i:Nat}{o:AObj}(hw:Dd G.length o):dz G (G.set i o):=by
 refine ⟨by simp,fun j x hj hx => ?_⟩;rw [List.getElem?_set] at hx;split at hx
 ·split at hx
  ·cases hx;exact .inr hw
  ·cases hx
 ·exact .inl hx
theorem JI{G:List AObj}{i:Nat}{o:AObj}(ho:Dd G.length o)(L:List AObj):dz G (G.set i o++L):=yx (DU ho) L
theorem HH{G:List AObj}{i:Nat}(o:AObj)(L:List AObj):(G.set i o++L).take G.length=G.set i o:=by
 rw [List.take_append_of_le_length (by simp)];exact List.take_of_length_le (by simp)
theorem HI(n:Nat)(b e:Bool)(T:TypeId):Dd n (.cells [.bool b,.bool e] T):=by
 intro c hc;simp at hc;rcases hc with rfl | rfl<;>exact wk_bool _ _
def bA(x:ae):Bool:=(x.kind == 2)&&x.car
def aY(x:ae):Bool:=(x.kind == 3)&&x.car
def fQ(b e:Bool)(x:ae):Bool := !(bA x&&b||e && !aY x)
theorem HJ(hB:lP E){G:List AObj}{c:Nat}{b e:Bool}{T:TypeId}(hc:G[c]?=some (.cells [.bool b,.bool e] T))(x:ae) :
  M.run fm [.ptr c 0,.agg x.row] G=some (.ret (.bool (fQ b e x)),if fQ b e x=true then G.set c (.cells [.bool (b || !bA x),.bool (e||aY x)] T) else G):=by
 rw [b9 M hB.docs_carried_takes rfl (c:=iI) rfl,iI];have hl:=dy hc;have g1:=fun L=>dc (L:=L) hc
 have g2:=JH hl;have s1:=Gk hl;have s2:∀ (o o':AObj) (L:List AObj),(G.set c o++L).set c o'=G.set c o'++L:=fun o o' L=>by rw [Gk (by simpa using hl),List.set_set]
 have l0:∀ b e:Bool,bT none [.bool b,.bool e] 0=some (.bool b):=fun _ _=>rfl
 have l1:∀ b e:Bool,bT none [.bool b,.bool e] 1=some (.bool e):=fun _ _=>rfl
 have e1:∀ b e b':Bool,bn [.bool b,.bool e] 0 [.bool b']=[.bool b',.bool e]:=fun _ _ _=>rfl
 have e2:∀ b e b':Bool,bn [.bool b,.bool e] 1 [.bool b']=[.bool b,.bool b']:=fun _ _ _=>rfl
 have hq:((x.kind == 2)&&x.car)=bA x:=rfl;have hq2:((x.kind == 3)&&x.car)=aY x:=rfl;have ck:∀ b e L,dz G (G.set c (.cells [.bool b,.bool e] T)++L):=fun b e L=>JI (HI _ _ _ _) L
 have tk:=fun o L=>HH (G:=G) (i:=c) o L
 cases hcase:(bA x&&b||e && !aY x) with
 |true=>
  rw [fQ,hcase];simp (maxSteps:=3000000) (maxDischargeDepth:=6) +contextual -implicitDefEqProofs only [amC M,↓amD,Nat.reduceBEq,Nat.reduceAdd,env,ak,ln,amG,AV.cell,Nat.reduceMul,Nat.reduceLeDiff,bh,bg,rnc,g1,g2,s1,s2,l0,l1,e1,e2,hq,hq2,hcase,ck,tk,cut_app,hp_take]
 |false=>
  rw [fQ,hcase];simp (maxSteps:=3000000) (maxDischargeDepth:=6) +contextual -implicitDefEqProofs only [amC M,↓amD,Nat.reduceBEq,Nat.reduceAdd,env,ak,ln,amG,AV.cell,Nat.reduceMul,Nat.reduceLeDiff,bh,bg,rnc,g1,g2,s1,s2,l0,l1,e1,e2,hq,hq2,hcase,ck,tk,cut_app,hp_take]
end
section
attribute [local congr] aD bH aS aE aR aL aF au aw aM aN
variable{E:a8}(M:bY cC E)
def fX(l:List Str):List AV:=l.map .str
def rp(b:Nat)(G:List AObj)(v:AV)(st:List Str):Prop:=
 (st=[]∧v = .slice .nil 1 [])∨∃ (id:Nat) (junk:List AV),b≤id∧v = .rslice id 0 st.length 1 true∧G[id]?=some (.cells (fX st.reverse++junk) aI)
theorem fR(l:List Str):(fX l).length=l.length:=by simp [fX]
theorem rq(l m:List Str):fX (l++m)=fX l++fX m:=by simp [fX]
theorem iS(s:Str):lC 1 [[.str s]]=true:=rfl
theorem JJ{b:Nat}{G:List AObj}{v:AV}{st:List Str}(h:rp b G v st)(hb:b≤G.length)(hl:st.length≤1000000)(s:Str) :
  ∃ v' G',rap true G aI 1 16 false v (.slice .full 1 [[.str s]])=some (v',G')∧rp b G' v' (s::st)∧G.length≤G'.length∧∀ i,i<b→G'[i]?=G[i]? := by
 rcases h with ⟨rfl,rfl⟩ | ⟨id,junk,hid,rfl,hg⟩
 ·refine ⟨.rslice G.length 0 1 1 true,G++[.cells [.str s] aI], ?_,.inr ⟨G.length,[],hb,rfl,by rw [bg];rfl⟩,by simp,fun i hi=>List.getElem?_append_left (by omega)⟩
  simp only [rap,kE,mF,or_true,if_true,iS];rw [if_pos (by simp)];rfl
 ·have hlt:=dy hg
  have hlen:st.length*1≤(fX st.reverse++junk).length:=by rw [List.length_append,fR,List.length_reverse];omega
  refine ⟨.rslice G.length 0 (st.length+1) 1 true,G.set id .dead++[.cells (fX (s::st).reverse) aI], ?_,.inr ⟨G.length,[],hb,rfl, ?_⟩,by simp,fun i hi => ?_⟩
  ·simp only [rap,kE,mF,or_true,if_true,iS,hg]
   rw [if_pos ⟨trivial,trivial,hlen,by simp;omega,by simp;omega⟩];simp only [Nat.mul_one];rw [List.take_left' (by rw [fR,List.length_reverse]),List.reverse_cons,rq];rfl
  ·rw [List.append_nil,show G.length=(G.set id .dead).length by simp,bg];rfl
  ·rw [List.getElem?_append_left (by simp;omega),List.getElem?_set_ne (by omega)]
theorem rK{b:Nat}{G:List AObj}{v:AV}{st:List Str}(h:rp b G v st)(H:List AObj):nF H .sl v=some (.int .i64 (st.length:Int)):=by
 rcases h with ⟨rfl,rfl⟩ | ⟨id,junk,hid,rfl,hg⟩<;>rfl
theorem Gl{b:Nat}{G:List AObj}{v:AV}{x:Str}{st:List Str}(h:rp b G v (x::st)) :
  (∃ p o cs,rX 1 v (.int .i64 (st.length:Int))=some (.ptr p o)∧b≤p∧G[p]?=some (.cells cs aI)∧bT none cs o=some (.str x))∧∃ v',uQ 1 v none (some (.int .i64 (st.length:Int))) none=some v'∧rp b G v' st:=by
 rcases h with ⟨h,_⟩ | ⟨id,junk,hid,rfl,hg⟩
 ·cases h
 have e:fX (x::st).reverse++junk=fX st.reverse++(.str x::junk):=by rw [List.reverse_cons,rq,List.append_assoc];rfl
 have hl:(fX st.reverse).length=st.length:=by rw [fR,List.length_reverse]
 refine ⟨⟨id,0+st.length*1,_, ?_,hid,hg, ?_⟩,.rslice id 0 st.length 1 true, ?_,.inr ⟨id,.str x::junk,hid,rfl,by rw [hg,e]⟩⟩
 ·simp only [rX]
  rw [if_pos ⟨trivial,by omega,by simp;omega⟩];simp
 ·simp only [bT,e,Nat.zero_add,Nat.mul_one]
  rw [List.getElem?_append_right (by omega),hl,Nat.sub_self];rfl
 ·have h1:cJ (some (.int .i64 (st.length:Int))) (x::st).length=some st.length:=by simp [cJ]
  simp only [uQ,h1,(show cJ none 0=some 0 from rfl)];cases st with
  |nil=>rfl
  |cons y t=>rw [if_pos (by simp)];simp
theorem rp.stay{b:Nat}{G G':List AObj}{v:AV}{st:List Str}(h:rp b G v st)(hs:∀ i,b≤i→i<G.length→G'[i]?=G[i]?):rp b G' v st:=by
 rcases h with ⟨rfl,rfl⟩ | ⟨id,junk,hid,rfl,hg⟩
 ·exact .inl ⟨rfl,rfl⟩
 ·exact .inr ⟨id,junk,hid,rfl,by rw [hs id hid (dy hg)];exact hg⟩
theorem JK(hB:lP E){b p:Nat}{G:List AObj}{v:AV}{T:TypeId}{st:List Str}(hp:G[p]?=some (.cells [v] T))(hpb:p<b)(hb:b≤G.length)(h:rp b G v st)(hl:st.length≤1000000)(s:Str) :
  ∃ v' G',M.run fy [.ptr p 0,.str s] G=some (.ret (.tuple []),G')∧G'[p]?=some (.cells [v'] T)∧rp b G' v' (s::st)∧But b p G G':=by
 obtain ⟨v',G1,h1,h2,h3,h4⟩:=JJ h hb hl s;have hp1:G1[p]?=some (.cells [v] T):=by rw [h4 p hpb];exact hp
 have hlt:=dy hp1;refine ⟨v',G1.set p (.cells [v'] T), ?_,List.getElem?_set_self hlt,h2.stay fun i hi _=>by rw [List.getElem?_set_ne (by omega)],by simpa using h3,fun i hi hne=>by rw [List.getElem?_set_ne (by omega)];exact h4 i hi⟩;rw [b9 M hB.docs_stack_string_push rfl (c:=fC) rfl,fC]
 have hcell:v'.cell=true:=by
  rcases h2 with ⟨h,_⟩ | ⟨id,_,_,rfl,_⟩
  ·cases h
  ·rfl
 have hac:cu v'=some [v']:=by
  rcases h2 with ⟨h,_⟩ | ⟨id,_,_,rfl,_⟩
  ·cases h
  ·rfl
 have l0:∀ x:AV,bT none [x] 0=some x:=fun _=>rfl
 have s0:∀ x y:AV,bn [x] 0 [y]=[y]:=fun _ _=>rfl
 have hst:stO 1 G1 p 0 [v'] (some (.cells [v] T))=some (G1.set p (.cells [v'] T)):=by
  simp only [stO];rw [if_pos ⟨rfl,by simp,by simp [hcell]⟩];rfl
 simp (maxSteps:=3000000) (maxDischargeDepth:=6) +contextual -implicitDefEqProofs only [amC M,↓amD,Nat.reduceBEq,Nat.reduceAdd,env,ak,nO,amG,AV.cell,Nat.reduceMul,Nat.reduceLeDiff,rnc,hp,l0,s0,h1,hp1,hac,hst,(show ∀ H,lT (some H)=some (dg,H) from fun _=>rfl)]
def rr(st:List Str)(s:Str):Bool:=match st with
 |[]=>false
 |x::_=>x == s
theorem LF(hB:lP E){b p:Nat}{G:List AObj}{v:AV}{T:TypeId}{st:List Str}(hp:G[p]?=some (.cells [v] T))(hpb:p<b)(hb:b≤G.length)(h:rp b G v st)(hl:st.length≤1000000)(s:Str) :
  ∃ v' G',M.run fL [.ptr p 0,.str s] G=some (.ret (.bool (rr st s)),G')∧G'[p]?=some (.cells [v'] T)∧rp b G' v' (if rr st s=true then st.tail else st)∧G'.length=G.length∧∀ i,i≠p→G'[i]?=G[i]? := by
 have hlt:=dy hp;have l0:∀ x:AV,bT none [x] 0=some x:=fun _=>rfl
 have s0:∀ x y:AV,bn [x] 0 [y]=[y]:=fun _ _=>rfl
 have hlen:=rK h;cases st with
 |nil=>
  refine ⟨v,G, ?_,hp,h,rfl,fun _ _=>rfl⟩;rw [b9 M hB.docs_stack_string_pop rfl (c:=bX) rfl,bX];have hlen0:∀ H,nF H .sl v=some (.int .i64 0):=hlen;simp (maxSteps:=3000000) (maxDischargeDepth:=6) +contextual -implicitDefEqProofs only [amC M,↓amD,Nat.reduceBEq,Nat.reduceAdd,env,ak,fP,rnc,hp,l0,hlen0,rr,beq_self_eq_true,cut_refl,hp_self]
 |cons x st=>
  obtain ⟨⟨q,o,cs,t1,t2,t3,t3'⟩,v',t4,t5⟩:=Gl h
  have hw:IntKind.i64.wrap ((((x::st).length:Nat):Int)-1)=(st.length:Int):=by
   simp only [List.length_cons] at hl ⊢;rw [b4 (by omega) (by omega)];omega
  have h0:((((x::st).length:Nat):Int) == 0)=false:=by simp;omega
  have hw2:IntKind.i64.wrap (((st.length+1:Nat):Int)-1)=(st.length:Int):=hw;have h02:(((st.length+1:Nat):Int) == 0)=false:=h0;cases hx:x == s with
  |false=>
   refine ⟨v,G, ?_,hp,by rw [rr,hx];exact h,rfl,fun _ _=>rfl⟩;rw [b9 M hB.docs_stack_string_pop rfl (c:=bX) rfl,bX];simp (maxSteps:=3000000) (maxDischargeDepth:=6) +contextual -implicitDefEqProofs only [amC M,↓amD,Nat.reduceBEq,Nat.reduceAdd,env,ak,fP,rnc,hp,l0,hlen,rr,hw,h0,hw2,h02,t1,t3,t3',hx,cut_refl,hp_self]
  |true=>
   refine ⟨v',G.set p (.cells [v'] T), ?_,List.getElem?_set_self hlt,by rw [rr,hx];exact t5.stay fun i hi _=>by rw [List.getElem?_set_ne (by omega)],by simp,fun i hne=>by rw [List.getElem?_set_ne (by omega)]⟩
   have hcell:v'.cell=true∧cu v'=some [v']∧Wk G.length v' v':=by
    rcases t5 with ⟨_,rfl⟩ | ⟨id,_,_,rfl,hg⟩
    ·exact ⟨rfl,rfl,wk_slice trivial (iC _)⟩
    ·exact ⟨rfl,rfl,wk_rslice (dy hg)⟩
   have hwk:Dd G.length (.cells [v'] T):=by
    intro c hc;simp at hc;subst hc;exact hcell.2.2
   rw [b9 M hB.docs_stack_string_pop rfl (c:=bX) rfl,bX]
   have hst:stO 1 G p 0 [v'] (some (.cells [v] T))=some (G.set p (.cells [v'] T)):=by
    simp only [stO];rw [if_pos ⟨rfl,by simp,by simp [hcell.1]⟩];rfl
   simp (maxSteps:=3000000) (maxDischargeDepth:=6) +contextual -implicitDefEqProofs only [amC M,↓amD,Nat.reduceBEq,Nat.reduceAdd,env,ak,fP,amG,AV.cell,Nat.reduceMul,Nat.reduceLeDiff,rnc,hp,l0,s0,hlen,rr,hw,h0,hw2,h02,t1,t3,t3',t4,hx,hst,(show ∀ H,lT (some H)=some (dg,H) from fun _=>rfl),hcell.2.1,DU hwk];rw [List.take_of_length_le (by simp)]
end
section
attribute [local congr] aD bH aS aE aR aL aF au aw aM aN
variable{E:a8}(M:bY cC E)
def zk(x:ae):Bool:=decide (x.kind<1)||decide (5<x.kind)
def xd(x:ae):Bool:=x.car && !(x.kind == 2) && !(x.kind == 3)
def Cp(p:Bool)(x:ae):Bool:=(x.kind == 1)&&((x.text == []) || !kG x.text||p)
def xf(x:ae):Bool := !(x.kind == 1) && !pK x.text
def stP(x:ae)(st:List Str):List Str:=if (x.kind == 3)=true then st.tail else st
def uo:List ae→Bool→Bool→Bool→List Str→Int
 |[],_,_,_,st=>sel (decide ((0:Int)<(st.length:Int))) 9 0
 |x :: l,p,b,e,st=>sel (zk x) 1 (sel (xd x) 1 (sel (Cp p x) 4 (sel (xf x) 5 (sel (fQ b e x) (sel ((x.kind == 3) && !rr st x.text) 9
    (sel (x.kind == 2) (sel (decide ((16:Int)<((x.text::stP x st).length:Int))) 3 (uo l (x.kind == 1) (b || !bA x) (e||aY x) (x.text::stP x st)))
     (uo l (x.kind == 1) (b || !bA x) (e||aY x) (stP x st)))) 8))))
def dP:ae:=⟨0,[],false⟩
def nB(l:List ae)(i:Nat):Bool:=decide ((0:Int)<(i:Int))&&((l.getD (i-1) dP).kind == 1)
theorem zl{l:List ae}{i:Nat}{x:ae}(h:l[i]?=some x):nB l (i+1)=(x.kind == 1):=by
 have h1:decide ((0:Int)<((i+1:Nat):Int))=true:=decide_eq_true (by omega);simp [nB,h1,List.getD,h]
theorem zm(l:List ae):nB l 0=false:=rfl
abbrev ru(l:List ae):Prop:=∀ x∈l,x.text.length≤70368744177664
theorem ckl(hB:lP E)(hX:Av M){l:List ae}{tg:Tag}(hl:l.length≤1000000)(ht:ru l){H0:List AObj}{bd p c:Nat}(hp0:H0.length≤p)(hc0:H0.length≤c)(hpb:p<bd)(hcb:c<bd)(hpc:p≠c){k:List Fra}
  (hk:∀ (G:List AObj) (v:AV) (st:List Str),G[p]?=some (.cells [v] ew)→rp bd G v st→Pre H0 G→M.go dS H0 k (kv [(3,.ptr p 0)]) G=some (.ret (.int .u8 (sel (decide ((0:Int)<(st.length:Int))) 9 0)),H0)) :
  ∀ (n i:Nat) (G He:List AObj) (v:AV) (st:List Str) (b e:Bool),i+n=l.length→Pre H0 G→bd≤G.length→G[p]?=some (.cells [v] ew)→G[c]?=some (.cells [.bool b,.bool e] bU)→rp bd G v st→st.length≤16 →
  M.go dS H0 (.c aW :: .lp ⟨(some [0,3,4,10,11,12]),[],false⟩ aW He :: .blk 0 :: .c (.lv [3])::k) (kv [(0,.slice tg 3 (l.map ae.row)),(3,.ptr p 0),(4,.ptr c 0),(10,.slice tg 3 (l.map ae.row)),(11,.int .i64 l.length),(12,.int .i64 i)]) G =
   some (.ret (.int .u8 (uo (l.drop i) (nB l i) b e st)),H0):=by
 intro n;induction n with
 |zero=>
  intro i G He v st b e h hP hb hgp hgc hst h16;obtain rfl:i=l.length:=by omega
  rw [List.drop_length,uo];have hk1:=hk G v st hgp hst hP;simp only [kv_cons,kv_nil] at hk1;rw [al M aW.eq_1];simp (maxSteps:=3000000) (maxDischargeDepth:=6) +contextual -implicitDefEqProofs only [amC M,↓amD,Nat.reduceBEq,Nat.reduceAdd,env,ak,bc,Nat.lt_irrefl,hk1]
 |succ n IH=>
  intro i G He v st b e h hP hb hgp hgc hst h16;have hi:i<l.length:=by omega
  have hx:l[i]?=some l[i]:=List.getElem?_eq_getElem hi;have hd:l.drop i=l[i]::l.drop (i+1):=List.drop_eq_getElem_cons hi;have htx:=ht _ (List.getElem_mem hi);have hsu:=zl hx;rw [hd];generalize l[i]=x at *
  have htm:x.text.length≤ca:=by simp only [ca];omega
  have hws:=dO hi (show l.length≤ca by simp only [ca];omega);have hw1:decide ((0:Int)<(i:Int))=true→IntKind.i64.wrap ((i:Int)-1)=((i-1:Nat):Int):=fun h0=>F8 (by have:=of_decide_eq_true h0;omega) (by simp only [ca];omega)
  have hi1:i-1<l.length:=by omega
  have hx1:l[i-1]?=some (l.getD (i-1) dP):=by rw [List.getD,List.getElem?_eq_getElem hi1];rfl
  have hia:∀ k:IntKind,rX 3 (.slice tg 3 (l.map ae.row)) (.int k ((i-1:Nat):Int))=some (.vptr 3 (l.map ae.row) (i-1) 0):=fun k=>aU hi1
  have hT:=fun H=>Fp M hB hX htm H
  have hN:=fun H=>Fq M hB htm H
  have hct:∀ L,dz H0 (G++L):=fun L=>(hP.app L).cut
  have htk:∀ L,(G++L).take H0.length=H0:=fun L=>(hP.app L).take
  have hgx:∀ T,(G++[AObj.cells x.row T])[G.length]?=some (.cells x.row T):=fun T=>by rw [bg];rfl
  rw [uo];cases ha:zk x with
  |true=>
   have ha':(decide (x.kind<1)||decide (5<x.kind))=true:=ha;rw [al M aW.eq_1];simp (maxSteps:=3000000) (maxDischargeDepth:=6) +contextual -implicitDefEqProofs only [amC M,↓amD,Nat.reduceBEq,Nat.reduceAdd,env,ak,bc,amG,AV.cell,Nat.reduceMul,Nat.reduceLeDiff,hi,hx,aU hi,bh,bg,ha',hct,htk]
  |false=>
   have ha':(decide (x.kind<1)||decide (5<x.kind))=false:=ha;simp only [sel_false];cases hc:xd x with
   |true=>
    have hc':(x.car && !(x.kind == 2) && !(x.kind == 3))=true:=hc;rw [al M aW.eq_1];simp (maxSteps:=3000000) (maxDischargeDepth:=6) +contextual -implicitDefEqProofs only [amC M,↓amD,Nat.reduceBEq,Nat.reduceAdd,env,ak,bc,amG,AV.cell,Nat.reduceMul,Nat.reduceLeDiff,hi,hx,aU hi,bh,bg,ha',hc',hct,htk]
   |false=>
    have hc':(x.car && !(x.kind == 2) && !(x.kind == 3))=false:=hc;simp only [sel_false];cases hf:Cp (nB l i) x with
    |true=>
     have hf':((x.kind == 1)&&((x.text == []) || !kG x.text||(decide ((0:Int)<(i:Int))&&((l.getD (i-1) dP).kind == 1))))=true:=hf;rw [al M aW.eq_1];simp (maxSteps:=3000000) (maxDischargeDepth:=6) +contextual -implicitDefEqProofs only [amC M,↓amD,Nat.reduceBEq,Nat.reduceAdd,env,ak,bc,amG,AV.cell,Nat.reduceMul,Nat.reduceLeDiff,hi,hx,aU hi,bh,bg,ha',hc',hf',hT,hw1,hia,hx1,hct,htk]
    |false=>
     have hf':((x.kind == 1)&&((x.text == []) || !kG x.text||(decide ((0:Int)<(i:Int))&&((l.getD (i-1) dP).kind == 1))))=false:=hf;simp only [sel_false];cases hn:xf x with
     |true=>
      have hn':(!(x.kind == 1) && !pK x.text)=true:=hn;rw [al M aW.eq_1];simp (maxSteps:=3000000) (maxDischargeDepth:=6) +contextual -implicitDefEqProofs only [amC M,↓amD,Nat.reduceBEq,Nat.reduceAdd,env,ak,bc,amG,AV.cell,Nat.reduceMul,Nat.reduceLeDiff,hi,hx,aU hi,bh,bg,ha',hc',hf',hT,hw1,hia,hx1,hct,htk,hn',hN]
     |false=>
      have hn':(!(x.kind == 1) && !pK x.text)=false:=hn;simp only [sel_false];have hcl:=dy hgc;have htak:=HJ M hB (c:=c) (b:=b) (e:=e) (T:=bU) (G:=G++[.cells x.row ag]) (dc hgc) x;cases htb:fQ b e x with
      |false=>
       simp only [htb,Bool.false_eq_true,if_false] at htak;rw [al M aW.eq_1];simp (maxSteps:=3000000) (maxDischargeDepth:=6) +contextual -implicitDefEqProofs only [amC M,↓amD,Nat.reduceBEq,Nat.reduceAdd,env,ak,bc,amG,AV.cell,Nat.reduceMul,Nat.reduceLeDiff,hi,hx,aU hi,bh,bg,ha',hc',hf',hT,hw1,hia,hx1,hct,htk,hn',hN,htak]
      |true=>
       simp only [htb,if_true] at htak;simp only [sel_true];have hcl2:c<(G++[AObj.cells x.row ag]).length:=by simp;omega
       have hne:c≠G.length:=by omega
       have q1:((G++[AObj.cells x.row ag]).set c (.cells [.bool (b || !bA x),.bool (e||aY x)] bU))[p]?=some (.cells [v] ew):=by
        rw [List.getElem?_set_ne (by omega)];exact dc hgp
       have q2:((G++[AObj.cells x.row ag]).set c (.cells [.bool (b || !bA x),.bool (e||aY x)] bU))[c]?=some (.cells [.bool (b || !bA x),.bool (e||aY x)] bU):=List.getElem?_set_self hcl2
       have q3:((G++[AObj.cells x.row ag]).set c (.cells [.bool (b || !bA x),.bool (e||aY x)] bU))[G.length]?=some (.cells x.row ag):=by
        rw [List.getElem?_set_ne hne,bg];rfl
       have q4:Pre H0 ((G++[AObj.cells x.row ag]).set c (.cells [.bool (b || !bA x),.bool (e||aY x)] bU)):=(hP.app _).set hc0 _
       have q5:rp bd ((G++[AObj.cells x.row ag]).set c (.cells [.bool (b || !bA x),.bool (e||aY x)] bU)) v st:=hst.stay fun j hj hj2=>by
        rw [List.getElem?_set_ne (by omega),List.getElem?_append_left hj2]
       have q6:bd≤((G++[AObj.cells x.row ag]).set c (.cells [.bool (b || !bA x),.bool (e||aY x)] bU)).length:=by simp;omega
       have q7:p≠G.length:=by have:=dy hgp;omega
       generalize (G++[AObj.cells x.row ag]).set c (.cells [.bool (b || !bA x),.bool (e||aY x)] bU)=G2 at htak q1 q2 q3 q4 q5 q6;have hct2:=q4.cut;have htk2:=q4.take;cases h3:x.kind == 3 with
       |true=>
        have h2:(x.kind == 2)=false:=by
         have:x.kind=3:=by simpa using h3
         rw [this];rfl
        obtain ⟨v3,G3,p1,p2,p3,p4,p5⟩:=LF M hB q1 hpb q6 q5 (by omega) x.text;cases hpo:rr st x.text with
        |false=>
         rw [hpo] at p1;have hP3:Pre H0 G3:=⟨by rw [p4];exact q4.1,fun j hj=>by rw [p5 j (by omega)];exact q4.2 j hj⟩
         have c3:=hP3.cut;have t3:=hP3.take;rw [al M aW.eq_1];simp (maxSteps:=3000000) (maxDischargeDepth:=6) +contextual -implicitDefEqProofs only [amC M,↓amD,Nat.reduceBEq,Nat.reduceAdd,env,ak,bc,amG,AV.cell,Nat.reduceMul,Nat.reduceLeDiff,hi,hx,aU hi,bh,bg,ha',hc',hf',hT,hw1,hia,hx1,hct,htk,hn',hN,htak,q3,h3,p1,c3,t3]
        |true=>
         rw [hpo] at p1;simp only [hpo,if_true] at p3;have hP3:Pre H0 G3:=⟨by rw [p4];exact q4.1,fun j hj=>by rw [p5 j (by omega)];exact q4.2 j hj⟩
         have g3:G3[G.length]?=some (.cells x.row ag):=by rw [p5 _ (by omega)];exact q3
         have hstp:stP x st=st.tail:=if_pos h3;have ih:=fun He=>IH (i+1) G3 He v3 st.tail (b || !bA x) (e||aY x) (by omega) hP3 (by omega) p2 (by rw [p5 c (by omega)];exact q2) p3 (by simp;omega)
         rw [hsu] at ih;simp only [kv_cons,kv_nil] at ih;rw [al M aW.eq_1];simp (maxSteps:=3000000) (maxDischargeDepth:=6) +contextual -implicitDefEqProofs only [amC M,↓amD,Nat.reduceBEq,Nat.reduceAdd,env,ak,bc,amG,AV.cell,Nat.reduceMul,Nat.reduceLeDiff,hi,hx,aU hi,bh,bg,ha',hc',hf',hT,hw1,hia,hx1,hct,htk,hn',hN,htak,q3,h3,h2,p1,g3,hstp,hws,ih]
       |false=>
        have hstp:stP x st=st:=if_neg (by rw [h3];simp);cases h2:x.kind == 2 with
        |false=>
         have hc2:x.car=false:=by rw [h2,h3] at hc';simpa using hc'
         have ih:=fun He=>IH (i+1) G2 He v st (b || !bA x) (e||aY x) (by omega) q4 q6 q1 q2 q5 h16
         rw [hsu] at ih;simp only [kv_cons,kv_nil] at ih;rw [al M aW.eq_1];simp (maxSteps:=3000000) (maxDischargeDepth:=6) +contextual -implicitDefEqProofs only [amC M,↓amD,Nat.reduceBEq,Nat.reduceAdd,env,ak,bc,amG,AV.cell,Nat.reduceMul,Nat.reduceLeDiff,hi,hx,aU hi,bh,bg,ha',hc',hf',hT,hw1,hia,hx1,hct,htk,hn',hN,htak,q3,h3,h2,hc2,hstp,hws,ih]
        |true=>
         obtain ⟨v3,G3,p1,p2,p3,p4⟩:=JK M hB q1 hpb q6 q5 (by omega) x.text;have hP3:Pre H0 G3:=p4.pre q4 (by omega) hp0;have c3:=hP3.cut;have t3:=hP3.take;have hlen:=rK p3;have l0:∀ x:AV,bT none [x] 0=some x:=fun _=>rfl
         have hlen2:∀ H,nF H .sl v3=some (.int .i64 ((st.length+1:Nat):Int)):=hlen;cases hgt:decide ((16:Int)<((x.text::stP x st).length:Int)) with
         |true=>
          have hgt2:decide ((16:Int)<((st.length+1:Nat):Int))=true:=by rw [← hgt,hstp];rfl
          rw [al M aW.eq_1];simp (maxSteps:=3000000) (maxDischargeDepth:=6) +contextual -implicitDefEqProofs only [amC M,↓amD,Nat.reduceBEq,Nat.reduceAdd,env,ak,bc,amG,AV.cell,Nat.reduceMul,Nat.reduceLeDiff,hi,hx,aU hi,bh,bg,ha',hc',hf',hT,hw1,hia,hx1,hct,htk,hn',hN,htak,q3,h3,h2,p1,p2,l0,hlen2,hgt2,c3,t3]
         |false=>
          have hgt2:decide ((16:Int)<((st.length+1:Nat):Int))=false:=by rw [← hgt,hstp];rfl
          have hle:(x.text::st).length≤16:=by have:=of_decide_eq_false hgt2;simp only [List.length_cons];omega
          have ih:=fun He=>IH (i+1) G3 He v3 (x.text::st) (b || !bA x) (e||aY x) (by omega) hP3 (by have:=p4.1;omega) p2 (by rw [p4.2 c hcb (by omega)];exact q2) p3 hle
          rw [hsu] at ih;simp only [kv_cons,kv_nil] at ih;rw [al M aW.eq_1];simp (maxSteps:=3000000) (maxDischargeDepth:=6) +contextual -implicitDefEqProofs only [amC M,↓amD,Nat.reduceBEq,Nat.reduceAdd,env,ak,bc,amG,AV.cell,Nat.reduceMul,Nat.reduceLeDiff,hi,hx,aU hi,bh,bg,ha',hc',hf',hT,hw1,hia,hx1,hct,htk,hn',hN,htak,q3,h3,h2,p1,p2,l0,hlen2,hgt2,hstp,hws,ih]
def cS(l:List ae):Int:=sel (decide ((512:Int)<(l.length:Int))) 3 (uo l false false false [])
theorem pL(hB:lP E)(hX:Av M){l:Sl ae}(hl:l.l.length≤1000000)(ht:ru l.l)(H:List AObj) :
  M.run bO [.slice l.tag 3 (l.l.map ae.row)] H=some (.ret (.int .u8 (cS l.l)),H):=by
 rw [b9 M hB.docs_CheckPieces rfl (c:=jA) rfl,jA];cases h5:decide ((512:Int)<(l.l.length:Int)) with
 |true=>simp (maxSteps:=3000000) (maxDischargeDepth:=6) +contextual -implicitDefEqProofs only [amC M,↓amD,Nat.reduceBEq,Nat.reduceAdd,env,ak,bc,h5,cS]
 |false=>
  have hlp:=fun k hk He=>ckl M hB hX (tg:=l.tag) hl ht (H0:=H) (bd:=H.length+2) (p:=H.length) (c:=H.length+1) (Nat.le_refl _) (by omega) (by omega) (by omega) (by omega) (k:=k) hk l.l.length 0 (H++[.cells [.slice .nil 1 []] ew,.cells [.bool false,.bool false] bU]) He (.slice .nil 1 []) [] false false (by omega) ((Pre.refl H).app _) (by simp) (by rw [bg];rfl) (by rw [hp_getk];rfl) (.inl ⟨rfl,rfl⟩) (by simp)
  simp only [kv_cons,kv_nil,Int.ofNat_zero,List.drop_zero,zm] at hlp;have l0:∀ x:AV,bT none [x] 0=some x:=fun _=>rfl
  simp (maxSteps:=3000000) (maxDischargeDepth:=6) +contextual -implicitDefEqProofs only [amC M,↓amD,Nat.reduceBEq,Nat.reduceAdd,env,ak,bc,h5,cS];refine hlp _ (fun G v st hg hs hP => ?_) _;have hlen:=rK hs;have hct:=hP.cut;have htk:=hP.take;simp (maxSteps:=3000000) (maxDischargeDepth:=6) +contextual -implicitDefEqProofs only [amC M,↓amD,Nat.reduceBEq,Nat.reduceAdd,env,ak,bc,hg,l0,hlen,hct,htk]
end
section
attribute [local congr] aD bH aS aE aR aL aF au aw aM aN
variable{E:a8}(M:bY cC E)
theorem Nq{α:Type}(b p:Bool)(x y:α):slc b y (slc p y x)=slc (b||p) y x:=by cases b<;>rfl
def lQ(p:Bool)(x:ae):Int:=sel (zk x) 1 (sel (xd x) 1 (sel (Cp p x) 4 (sel (xf x) 5 0)))
theorem HK(hB:lP E){l:List ae}{tg:Tag}(hl:l.length≤1000000)(ht:ru l){i:Nat}{x:ae}(hx:l[i]?=some x)(H:List AObj) :
  M.run gQ [.slice tg 3 (l.map ae.row),.int .i64 i] H=some (.ret (.int .u8 (lQ (nB l i) x)),H):=by
 have hi:i<l.length:=(List.getElem?_eq_some_iff.1 hx).1;have htx:=ht _ (List.mem_of_getElem? hx);have htm:x.text.length≤ca:=by simp only [ca];omega
 have hw1:decide ((0:Int)<(i:Int))=true→IntKind.i64.wrap ((i:Int)-1)=((i-1:Nat):Int):=fun h0=>F8 (by have:=of_decide_eq_true h0;omega) (by simp only [ca];omega)
 have hi1:i-1<l.length:=by omega
 have hx1:l[i-1]?=some (l.getD (i-1) dP):=by rw [List.getD,List.getElem?_eq_getElem hi1];rfl
 have hia:∀ k:IntKind,rX 3 (.slice tg 3 (l.map ae.row)) (.int k ((i-1:Nat):Int))=some (.vptr 3 (l.map ae.row) (i-1) 0):=fun k=>aU hi1
 have hT:=fun H=>JE M hB htx H
 have hN:=fun H=>JF M hB htm H
 rw [b9 M hB.truchmanref01_alone rfl (c:=gX) rfl,gX];simp (maxSteps:=3000000) (maxDischargeDepth:=6) +contextual -implicitDefEqProofs only [amC M,↓amD,Nat.reduceBEq,Nat.reduceAdd,env,ak,pQ,amG,AV.cell,Nat.reduceMul,Nat.reduceLeDiff,hi,hx,aU hi,bh,bg,hT,hN,hw1,hia,hx1,cut_app,hp_take,lQ,zk,xd,Cp,xf,nB]
def cw(x y:ae):Bool:=bA x && !bA y||aY y && !aY x
theorem Of{l:List ae}{tg:Tag}(hl:l.length≤1000000){i:Nat}{x:ae}(hx:l[i]?=some x){H H0:List AObj}(hc:dz H0 H)(k:List Fra):∀ (n j:Nat) (He:List AObj),j+n=i →
  M.go du H0 (.c cX :: .lp ⟨(some [0,1,5]),[],false⟩ cX He :: .blk 0 :: .c (.lv [])::k) (kv [(0,.slice tg 3 (l.map ae.row)),(1,.int .i64 i),(5,.int .i64 j)]) H =
   sel (((l.take i).drop j).any (cw x)) (some (.ret (.int .u8 8),H.take H0.length)) (M.go du H0 k .leaf H)
 |0,j,He,h=>by
  obtain rfl:j=i:=by omega
  have e:(l.take j).drop j=[]:=List.drop_of_length_le (by simp;omega);rw [al M cX.eq_1];simp (maxSteps:=3000000) (maxDischargeDepth:=6) +contextual -implicitDefEqProofs only [amC M,↓amD,Nat.reduceBEq,Nat.reduceAdd,env,ak,fO,Nat.lt_irrefl,e,List.any_nil]
 |n+1,j,He,h=>by
  have hi:i<l.length:=(List.getElem?_eq_some_iff.1 hx).1;have hki:j<i:=by omega
  have hkl:j<l.length:=by omega
  have hy:l[j]?=some l[j]:=List.getElem?_eq_getElem hkl
  have hd:(l.take i).drop j=l[j]::(l.take i).drop (j+1):=by
   rw [List.drop_eq_getElem_cons (by simp;omega),List.getElem_take]
  have ih:=fun He=>Of (tg:=tg) hl hx hc k n (j+1) He (by omega)
  have hws:IntKind.i64.wrap ((j:Int)+1)=((j+1:Nat):Int):=dO hkl (show l.length≤ca by simp only [ca];omega);rw [hd,List.any_cons];generalize l[j]=y at hy;have e1:(y.car&&(y.kind == 2))=bA y:=Bool.and_comm _ _;have e2:(y.car&&(y.kind == 3))=aY y:=Bool.and_comm _ _;have e3:(x.car&&(x.kind == 2))=bA x:=Bool.and_comm _ _;have e4:(x.car&&(x.kind == 3))=aY x:=Bool.and_comm _ _;simp only [kv_cons,kv_nil] at ih
  rw [al M cX.eq_1];simp (maxSteps:=3000000) (maxDischargeDepth:=6) +contextual -implicitDefEqProofs only [amC M,↓amD,Nat.reduceBEq,Nat.reduceAdd,env,ak,fO,hki,hx,hy,hi,hkl,aU hi,aU hkl,bh,hws,e1,e2,e3,e4,ih,hc,cw,Nq,Bool.or_assoc]
def DV(l:List ae)(i:Nat):Bool:=(l.take i).any fun y => !bA y
def DW(l:List ae)(i:Nat):Bool:=(l.take i).any aY
theorem JL(x:ae):∀ l:List ae,l.any (cw x)=(bA x&&(l.any fun y => !bA y)||l.any aY && !aY x)
 |[]=>by simp
 |y::l=>by
  simp only [List.any_cons,JL x l,cw];cases bA x<;>cases bA y<;>cases aY y<;>cases aY x<;>simp
theorem DX(hB:lP E){l:List ae}{tg:Tag}(hl:l.length≤1000000){i:Nat}{x:ae}(hx:l[i]?=some x)(H:List AObj) :
  M.run fK [.slice tg 3 (l.map ae.row),.int .i64 i] H=some (.ret (.int .u8 (sel (fQ (DV l i) (DW l i) x) 0 8)),H):=by
 rw [b9 M hB.truchmanref01_carried rfl (c:=fN) rfl,fN];have hlp:=fun k He=>Of M (tg:=tg) hl hx (cut_refl H) k i 0 He (by omega)
 simp only [kv_cons,kv_nil,Int.ofNat_zero,List.drop_zero,JL] at hlp;have e:fQ (DV l i) (DW l i) x = !(bA x&&((l.take i).any fun y => !bA y)||(l.take i).any aY && !aY x):=rfl;rw [e];simp (maxSteps:=3000000) (maxDischargeDepth:=6) +contextual -implicitDefEqProofs only [amC M,↓amD,Nat.reduceBEq,Nat.reduceAdd,env,ak,fO,hlp]
theorem HL{l:List ae}{i:Nat}{x:ae}(h:l[i]?=some x):DV l (i+1)=(DV l i || !bA x):=by
 unfold DV;rw [List.take_add_one,h,List.any_append];simp
theorem HM{l:List ae}{i:Nat}{x:ae}(h:l[i]?=some x):DW l (i+1)=(DW l i||aY x):=by
 unfold DW;rw [List.take_add_one,h,List.any_append];simp
theorem OG(hB:lP E){l:List ae}{tg:Tag}(hl:l.length≤1000000)(ht:ru l){H0:List AObj}{k:List Fra}
  (hk:∀ (G:List AObj) (v:AV) (st:List Str),rp H0.length G v st→Pre H0 G→M.go cF H0 k (kv [(3,v)]) G=some (.ret (.int .u8 (sel (decide ((0:Int)<(st.length:Int))) 9 0)),H0)) :
  ∀ (n i:Nat) (G He:List AObj) (v:AV) (st:List Str),i+n=l.length→Pre H0 G→rp H0.length G v st→st.length≤16 →
  M.go cF H0 (.c aq :: .lp ⟨(some [0,3,4]),[],false⟩ aq He :: .blk 0 :: .c (.lv [3])::k) (kv [(0,.slice tg 3 (l.map ae.row)),(3,v),(4,.int .i64 i)]) G =
   some (.ret (.int .u8 (uo (l.drop i) (nB l i) (DV l i) (DW l i) st)),H0):=by
 intro n;induction n with
 |zero=>
  intro i G He v st h hP hst h16;obtain rfl:i=l.length:=by omega
  rw [List.drop_length,uo];have hk1:=hk G v st hst hP;simp only [kv_cons,kv_nil] at hk1;rw [al M aq.eq_1];simp (maxSteps:=3000000) (maxDischargeDepth:=6) +contextual -implicitDefEqProofs only [amC M,↓amD,Nat.reduceBEq,Nat.reduceAdd,env,ak,aA,Nat.lt_irrefl,hk1]
 |succ n IH=>
  intro i G He v st h hP hst h16;have hi:i<l.length:=by omega
  have hx:l[i]?=some l[i]:=List.getElem?_eq_getElem hi;have hd:l.drop i=l[i]::l.drop (i+1):=List.drop_eq_getElem_cons hi;have hsu:=zl hx;have hbs:=HL hx;have hes:=HM hx;rw [hd];generalize l[i]=x at *
  have hws:=dO hi (show l.length≤ca by simp only [ca];omega);have hA:=fun H=>HK M hB (tg:=tg) hl ht hx H
  have hC:=fun H=>DX M hB (tg:=tg) hl hx H
  have hct:=hP.cut;have htk:=hP.take;have hlen:=rK hst;rw [uo];cases ha:zk x with
  |true=>
   have e:lQ (nB l i) x=1:=by rw [lQ,ha];rfl
   rw [al M aq.eq_1];simp (maxSteps:=3000000) (maxDischargeDepth:=6) +contextual -implicitDefEqProofs only [amC M,↓amD,Nat.reduceBEq,Nat.reduceAdd,env,ak,aA,hi,hx,hA,e,hct,htk,(show ((1:Int) == 0)=false from rfl)]
  |false=>
  simp only [sel_false];cases hca:xd x with
  |true=>
   have e:lQ (nB l i) x=1:=by rw [lQ,ha,hca];rfl
   rw [al M aq.eq_1];simp (maxSteps:=3000000) (maxDischargeDepth:=6) +contextual -implicitDefEqProofs only [amC M,↓amD,Nat.reduceBEq,Nat.reduceAdd,env,ak,aA,hi,hx,hA,e,hct,htk,(show ((1:Int) == 0)=false from rfl)]
  |false=>
  simp only [sel_false];cases hf:Cp (nB l i) x with
  |true=>
   have e:lQ (nB l i) x=4:=by rw [lQ,ha,hca,hf];rfl
   rw [al M aq.eq_1];simp (maxSteps:=3000000) (maxDischargeDepth:=6) +contextual -implicitDefEqProofs only [amC M,↓amD,Nat.reduceBEq,Nat.reduceAdd,env,ak,aA,hi,hx,hA,e,hct,htk,(show ((4:Int) == 0)=false from rfl)]
  |false=>
  simp only [sel_false];cases hn:xf x with
  |true=>
   have e:lQ (nB l i) x=5:=by rw [lQ,ha,hca,hf,hn];rfl
   rw [al M aq.eq_1];simp (maxSteps:=3000000) (maxDischargeDepth:=6) +contextual -implicitDefEqProofs only [amC M,↓amD,Nat.reduceBEq,Nat.reduceAdd,env,ak,aA,hi,hx,hA,e,hct,htk,(show ((5:Int) == 0)=false from rfl)]
  |false=>
  simp only [sel_false];have e:lQ (nB l i) x=0:=by rw [lQ,ha,hca,hf,hn];rfl
  cases htb:fQ (DV l i) (DW l i) x with
  |false=>
   rw [htb] at hC;rw [al M aq.eq_1];simp (maxSteps:=3000000) (maxDischargeDepth:=6) +contextual -implicitDefEqProofs only [amC M,↓amD,Nat.reduceBEq,Nat.reduceAdd,env,ak,aA,hi,hx,hA,hC,e,hct,htk,beq_self_eq_true,(show ((8:Int) == 0)=false from rfl)]
  |true=>
  rw [htb] at hC;simp only [sel_true,sel_false] at hC ⊢;cases h3:x.kind == 3 with
  |true=>
   have h2:(x.kind == 2)=false:=by
    have:x.kind=3:=by simpa using h3
    rw [this];rfl
   cases st with
   |nil=>
    have hlen0:∀ H,nF H .sl v=some (.int .i64 0):=hlen;rw [al M aq.eq_1];simp (maxSteps:=3000000) (maxDischargeDepth:=6) +contextual -implicitDefEqProofs only [amC M,↓amD,Nat.reduceBEq,Nat.reduceAdd,env,ak,aA,hi,hx,aU hi,bh,hA,hC,e,h3,hlen0,rr,hct,htk,beq_self_eq_true]
   |cons y st=>
    obtain ⟨⟨q,o,cs,t1,t2,t3,t3'⟩,v',t4,t5⟩:=Gl hst
    have hw:IntKind.i64.wrap ((((y::st).length:Nat):Int)-1)=(st.length:Int):=by
     simp only [List.length_cons] at h16 ⊢;rw [b4 (by omega) (by omega)];omega
    have h0:((((y::st).length:Nat):Int) == 0)=false:=by simp;omega
    cases hy:y == x.text with
    |false=>
     rw [al M aq.eq_1];simp (maxSteps:=3000000) (maxDischargeDepth:=6) +contextual -implicitDefEqProofs only [amC M,↓amD,Nat.reduceBEq,Nat.reduceAdd,env,ak,aA,hi,hx,aU hi,bh,hA,hC,e,h3,hlen,h0,hw,t1,t3,t3',hy,rr,hct,htk,beq_self_eq_true]
    |true=>
     have hstp:stP x (y::st)=st:=if_pos h3;have ih:=fun He=>IH (i+1) G He v' st (by omega) hP t5 (by simp at h16;omega)
     rw [hsu,hbs,hes] at ih;simp only [kv_cons,kv_nil] at ih;rw [al M aq.eq_1];simp (maxSteps:=3000000) (maxDischargeDepth:=6) +contextual -implicitDefEqProofs only [amC M,↓amD,Nat.reduceBEq,Nat.reduceAdd,env,ak,aA,hi,hx,aU hi,bh,hA,hC,e,h3,h2,hlen,h0,hw,t1,t3,t3',t4,hy,rr,hstp,hws,ih,beq_self_eq_true]
  |false=>
   have hstp:stP x st=st:=if_neg (by rw [h3];simp);cases h2:x.kind == 2 with
   |false=>
    have ih:=fun He=>IH (i+1) G He v st (by omega) hP hst h16
    rw [hsu,hbs,hes] at ih;simp only [kv_cons,kv_nil] at ih;rw [al M aq.eq_1];simp (maxSteps:=3000000) (maxDischargeDepth:=6) +contextual -implicitDefEqProofs only [amC M,↓amD,Nat.reduceBEq,Nat.reduceAdd,env,ak,aA,hi,hx,aU hi,bh,hA,hC,e,h3,h2,hstp,hws,ih,beq_self_eq_true]
   |true=>
    obtain ⟨v3,G3,p1,p2,p3,p4⟩:=JJ hst hP.1 (by omega) x.text;have hP3:Pre H0 G3:=⟨Nat.le_trans hP.1 p3,fun j hj=>by rw [p4 j hj];exact hP.2 j hj⟩
    have c3:=hP3.cut;have tk3:=hP3.take;have hlen3:∀ H,nF H .sl v3=some (.int .i64 ((st.length+1:Nat):Int)):=rK p2;cases hgt:decide ((16:Int)<((x.text::stP x st).length:Int)) with
    |true=>
     have hgt2:decide ((16:Int)<((st.length+1:Nat):Int))=true:=by rw [← hgt,hstp];rfl
     rw [al M aq.eq_1];simp (maxSteps:=3000000) (maxDischargeDepth:=6) +contextual -implicitDefEqProofs only [amC M,↓amD,Nat.reduceBEq,Nat.reduceAdd,env,ak,aA,amG,AV.cell,Nat.reduceMul,Nat.reduceLeDiff,hi,hx,aU hi,bh,hA,hC,e,h3,h2,p1,hlen3,hgt2,c3,tk3,beq_self_eq_true]
    |false=>
     have hgt2:decide ((16:Int)<((st.length+1:Nat):Int))=false:=by rw [← hgt,hstp];rfl
     have hle:(x.text::st).length≤16:=by have:=of_decide_eq_false hgt2;simp only [List.length_cons];omega
     have ih:=fun He=>IH (i+1) G3 He v3 (x.text::st) (by omega) hP3 p2 hle
     rw [hsu,hbs,hes] at ih;simp only [kv_cons,kv_nil] at ih;rw [al M aq.eq_1];simp (maxSteps:=3000000) (maxDischargeDepth:=6) +contextual -implicitDefEqProofs only [amC M,↓amD,Nat.reduceBEq,Nat.reduceAdd,env,ak,aA,amG,AV.cell,Nat.reduceMul,Nat.reduceLeDiff,hi,hx,aU hi,bh,hA,hC,e,h3,h2,p1,hlen3,hgt2,hstp,hws,ih,beq_self_eq_true]
theorem vt(hB:lP E){l:Sl ae}(hl:l.l.length≤1000000)(ht:ru l.l)(H:List AObj) :
  M.run eC [.slice l.tag 3 (l.l.map ae.row)] H=some (.ret (.int .u8 (cS l.l)),H):=by
 rw [b9 M hB.truchmanref01_CheckPieces rfl (c:=eE) rfl,eE];cases h5:decide ((512:Int)<(l.l.length:Int)) with
 |true=>simp (maxSteps:=3000000) (maxDischargeDepth:=6) +contextual -implicitDefEqProofs only [amC M,↓amD,Nat.reduceBEq,Nat.reduceAdd,env,ak,aA,h5,cS]
 |false=>
  have hlp:=fun k hk He=>OG M hB (tg:=l.tag) hl ht (H0:=H) (k:=k) hk l.l.length 0 H He (.slice .nil 1 []) [] (by omega) (Pre.refl H) (.inl ⟨rfl,rfl⟩) (by simp)
  simp only [kv_cons,kv_nil,Int.ofNat_zero,List.drop_zero,zm,(show DV l.l 0=false from rfl),(show DW l.l 0=false from rfl)] at hlp;simp (maxSteps:=3000000) (maxDischargeDepth:=6) +contextual -implicitDefEqProofs only [amC M,↓amD,Nat.reduceBEq,Nat.reduceAdd,env,ak,aA,h5,cS];refine hlp _ (fun G v st hs hP => ?_) _;have hlen:=rK hs;have hct:=hP.cut;have htk:=hP.take;simp (maxSteps:=3000000) (maxDischargeDepth:=6) +contextual -implicitDefEqProofs only [amC M,↓amD,Nat.reduceBEq,Nat.reduceAdd,env,ak,aA,hlen,hct,htk]
end
section
attribute [local congr] aD bH aS aE aR aL aF au aw aM aN
variable{E:a8}(M:bY cC E)
theorem Gm{s t:Str}(h:s.length+t.length<9223372036854775808):jU .add s t=some (.str (s++t)):=if_pos h
theorem Cq{α:Type}{row:α→List AV}{l:List α}{x:α}{r:List AV}{sz bytes:Nat}{e:TypeId}(H L:List AObj)(h1:r.length=sz)(h2:r.all AV.cell=true)(h3:r.map AV.strip=row x)
  (hl:(l.length+1)*bytes≤140737488355328) (hl2:l.length+1≤4611686018427387904) :
  rap false (H++(.tok (l.length*sz) e::L)) e sz bytes false (.slice (.own H.length) sz (l.map row)) (.slice .full sz [r])=some (.slice (.own H.length) sz ((l++[x]).map row),H++(.tok ((l++[x]).length*sz) e::L)):=by
 simp only [rap,wc,mF,List.length_map,List.length_cons,List.length_nil,Nat.zero_add,or_true,if_true,hl,hl2,sM h1 h2,and_true,true_and,bg,List.getElem?_cons_zero,hp_set0,List.set_cons_zero,List.map_cons,List.map_nil,h3,List.map_append,List.length_append,Nat.add_mul,Nat.one_mul];rw [Nat.add_mul,Nat.one_mul] at hl;rw [if_pos hl]
theorem JM(n:Nat)(l:List ae):fJ n (l.map ae.row):=by
 rw [rowsWk_map];exact fun _ _=>⟨wk_int _ _ _,wk_str _ _,wk_bool _ _,trivial⟩
theorem HN(x y:ae):req (.st [(0,.int .u8),(1,.str),(2,.bool)]) (.agg x.row) (.agg y.row)=some ((x.kind == y.kind)&&(x.text == y.text)&&(x.car == y.car)):=by
 simp only [req,n8,ae.row,List.getElem?_cons_zero,List.getElem?_cons_succ,tE];cases x.kind == y.kind<;>simp
 cases x.text == y.text<;>simp
 cases x.car == y.car<;>rfl
theorem spl{H H0:List AObj}{l:List ae}{ta tb:Tag}(hl:l.length≤ca)(hc:dz H0 H)(k:List Fra):∀ (n i:Nat) (He:List AObj),i+n=l.length →
  M.go bV H0 (.c cf :: .lp ⟨(some [0,1,5]),[],false⟩ cf He :: .blk 0 :: .c (.lv [])::k) (kv [(0,.slice ta 3 (l.map ae.row)),(1,.slice tb 3 (l.map ae.row)),(5,.int .i64 i)]) H =
   (M.go bV H0 k .leaf H)
 |0,i,He,h=>by
  have e:i=l.length:=by omega
  subst e;rw [al M cf.eq_1];simp (maxSteps:=3000000) (maxDischargeDepth:=6) +contextual -implicitDefEqProofs only [amC M,↓amD,Nat.reduceBEq,Nat.reduceAdd,env,ak,eP,Nat.lt_irrefl,List.drop_length]
 |n+1,i,He,h=>by
  have hi:i<l.length:=by omega
  have hx:l[i]?=some l[i]:=List.getElem?_eq_getElem hi;have hd:(l.drop i)=l[i]::l.drop (i+1):=List.drop_eq_getElem_cons hi;have hm:l[i]∈l:=List.getElem_mem hi;have ih:=fun He=>spl (H:=H) (H0:=H0) (l:=l) (ta:=ta) (tb:=tb) (hl:=hl) hc k n (i+1)  He (by omega)
  simp only [kv_cons,kv_nil] at ih;rw [al M cf.eq_1];simp (maxSteps:=3000000) (maxDischargeDepth:=6) +contextual -implicitDefEqProofs only [amC M,↓amD,Nat.reduceBEq,Nat.reduceAdd,env,ak,eP,hx,hd,hi,ih,dO hi hl,aU hi,bh,HN,beq_self_eq_true]
theorem mR(hB:lP E){l:List ae}{ta tb:Tag}(hl:l.length≤ca)(H:List AObj):M.run aX [.slice ta 3 (l.map ae.row),.slice tb 3 (l.map ae.row)] H=some (.ret (.bool true),H):=by
 rw [b9 M hB.truchmanref01_SamePieces rfl (c:=eO) rfl,eO];have h1:=fun k He=>spl M (ta:=ta) (tb:=tb) hl (cut_refl H) k l.length 0 He (by omega)
 simp only [kv_cons,kv_nil,Int.ofNat_zero] at h1;simp (maxSteps:=3000000) (maxDischargeDepth:=6) +contextual -implicitDefEqProofs only [amC M,↓amD,Nat.reduceBEq,Nat.reduceAdd,env,ak,eP,beq_self_eq_true,h1]
end
structure Un where
 r:Int
 hole:Bool
def Un.row(x:Un):List AV:=[.int .i32 x.r,.bool x.hole]
theorem qUn:(∀ x:Un,pI 2 (Un.row x)=some (Un.row x))∧(∀ x:Un,bT none (Un.row x) 0=some (.int .i32 x.r))∧(∀ x:Un,bT none (Un.row x) 1=some (.bool x.hole))∧(∀ x:Un,(Un.row x).length=2)∧(∀ x:Un,(Un.row x).all AV.cell=true)∧(∀ x:Un,∀ c0 c1:AV,bn [c0,c1] 0 (Un.row x)=Un.row x)∧(∀ x:Un,∀ y:Un,bn (Un.row y) 0 (Un.row x)=Un.row x)∧(∀ x:Un,∀ (y:Int),bn (Un.row x) 0 [.int .i32 y]=Un.row { x with r:=y })∧(∀ x:Un,∀ (y:Bool),bn (Un.row x) 1 [.bool y]=Un.row { x with hole:=y })∧(∀ x:Un,(Un.row x).map AV.strip=Un.row x)∧(∀ x:Un,(Un.row x).take 2=Un.row x)∧(∀ x:Un,(Un.row x).drop 2=[]):=
 by refine ⟨?_, ?_, ?_, ?_, ?_, ?_, ?_, ?_, ?_, ?_, ?_, ?_⟩<;>(intros;first | rfl | (simp only [Un.row];rfl) | (simp only [Un.row,A2];rfl))
structure Un.ok (n:Nat) (x:Un):Prop where
 triv:True
theorem Un.ok.mono{n m:Nat}{x:Un}(h:x.ok n)(hn:n≤m):x.ok m:=⟨trivial⟩
theorem Un.ok.wk{n:Nat}{x:Un}(h:x.ok n):WkL n x.row x.row:=⟨wk_int _ _ _,wk_bool _ _,trivial⟩
structure Fit where
 cls:Bool
 r:Int
def Fit.row(x:Fit):List AV:=[.bool x.cls,.int .i32 x.r]
structure Fit.ok (n:Nat) (x:Fit):Prop where
 triv:True
theorem Fit.ok.mono{n m:Nat}{x:Fit}(h:x.ok n)(hn:n≤m):x.ok m:=⟨trivial⟩
theorem Fit.ok.wk{n:Nat}{x:Fit}(h:x.ok n):WkL n x.row x.row:=⟨wk_bool _ _,wk_int _ _ _,trivial⟩
section
attribute [local congr] aD bH aS aE aR aL aF au aw aM aN
variable{E:a8}(M:bY cC E)
structure Aw (E:a8):Prop where
 docs_Units:E.fn oW=some ma
 docs_units:E.fn ka=some mb
 slices_AppendSeq_docs_unit_docs_unit:E.fn cK=some aC
 slices_Collect_docs_unit:E.fn dA=some dF
 truchmanref01_units:E.fn gO=some cA
 truchmanref01_Units:E.fn gN=some gV
end
section
attribute [local congr] aD bH aS aE aR aL aF au aw aM aN
variable{E:a8}(M:bY cC E)
end
section
attribute [local congr] aD bH aS aE aR aL aF au aw aM aN
variable{E:a8}(M:bY cC E)
def unR(r:Nat):Un:=⟨(r:Int),false⟩
def unH:Un:=⟨0,true⟩
def unP(x:ae):List Un:=sel (x.kind == 5) [unH] (sel (x.kind == 1) ((dJ x.text).map unR) [])
def unL(l:List ae):List Un:=(l.map unP).flatten
theorem LG(x:ae):(unP x).length≤x.text.length+1:=by
 have:=pz x.text;unfold unP;cases x.kind == 5 with
 |true=>rw [sel_true];simp
 |false=>
  rw [sel_false];cases x.kind == 1 with
  |true=>rw [sel_true];simp;omega
  |false=>rw [sel_false];simp
theorem Og{H H0:List AObj}{l:List ae}{tg:Tag}{rs:List Nat}(hrs:rs.length≤ca){j:Int}(k:List Fra):∀ (n i:Nat) (o:List Un) (He:List AObj),i+n=rs.length→o.length+n≤1000000 →
  M.go cA H0 (.c dt :: .lp ⟨(some [0,3,4,5,6]),[(3,2,aV)],false⟩ dt He :: .blk 2 :: .c (.lv [0,3,4])::k) (kv [(0,.slice tg 3 (l.map ae.row)),(3,.slice (.own H.length) 2 (o.map Un.row)),(4,.int .i64 j),(5,.slice .any 1 (rs.map um)),(6,.int .i64 i)]) (H++[.tok (o.length*2) aV]) =
   M.go cA H0 k (kv [(0,.slice tg 3 (l.map ae.row)),(3,.slice (.own H.length) 2 ((o++(rs.drop i).map unR).map Un.row)),(4,.int .i64 j)]) (H++[.tok ((o++(rs.drop i).map unR).length*2) aV])
 |0,i,o,He,h,ho=>by
  have e:i=rs.length:=by omega
  subst e;rw [al M dt.eq_1];simp (maxSteps:=3000000) (maxDischargeDepth:=6) +contextual -implicitDefEqProofs only [amC M,↓amD,Nat.reduceBEq,Nat.reduceAdd,env,ak,cB,Nat.lt_irrefl,List.drop_length,List.map_nil,List.append_nil]
 |n+1,i,o,He,h,ho=>by
  have hi:i<rs.length:=by omega
  have hx:rs[i]?=some rs[i]:=List.getElem?_eq_getElem hi;have hd:(rs.drop i)=rs[i]::rs.drop (i+1):=List.drop_eq_getElem_cons hi;have ap:=fun L=>Cq (row:=Un.row) (l:=o) (x:=unR rs[i]) (r:=[.int .i32 (rs[i]:Int),.bool false]) (sz:=2) (bytes:=8) (e:=aV) H L rfl rfl rfl (by omega) (by omega)
  have ih:=fun He=>Og (H:=H) (H0:=H0) (l:=l) (tg:=tg) hrs (j:=j) k n (i+1) (o++[unR rs[i]]) He (by omega) (by simp;omega)
  simp only [kv_cons,kv_nil] at ih;rw [hd,List.map_cons,show o++unR rs[i]::(rs.drop (i+1)).map unR=o++[unR rs[i]]++(rs.drop (i+1)).map unR by simp];rw [al M dt.eq_1];simp (maxSteps:=3000000) (maxDischargeDepth:=6) +contextual -implicitDefEqProofs only [amC M,↓amD,Nat.reduceBEq,Nat.reduceAdd,env,ak,cB,amG,AV.cell,Nat.reduceMul,Nat.reduceLeDiff,hi,hx,ap,ih,aU hi,My,dO hi hrs]
theorem Oh{H H0:List AObj}{l:List ae}{tg:Tag}(hl:l.length≤100000)(ht:ru l)(k:List Fra):∀ (n i:Nat) (o:List Un) (He:List AObj),i+n=l.length→o.length+(unL (l.drop i)).length≤1000000 →
  M.go cA H0 (.c bW :: .lp ⟨(some [0,3,4]),[(3,2,aV)],false⟩ bW He :: .blk 0 :: .c (.lv [3])::k) (kv [(0,.slice tg 3 (l.map ae.row)),(3,.slice (.own H.length) 2 (o.map Un.row)),(4,.int .i64 i)]) (H++[.tok (o.length*2) aV]) =
   M.go cA H0 k (kv [(3,.slice (.own H.length) 2 ((o++unL (l.drop i)).map Un.row))]) (H++[.tok ((o++unL (l.drop i)).length*2) aV])
 |0,i,o,He,h,ho=>by
  have e:i=l.length:=by omega
  subst e;rw [al M bW.eq_1];simp (maxSteps:=3000000) (maxDischargeDepth:=6) +contextual -implicitDefEqProofs only [amC M,↓amD,Nat.reduceBEq,Nat.reduceAdd,env,ak,cB,Nat.lt_irrefl,List.drop_length,unL,List.map_nil,List.flatten_nil,List.append_nil]
 |n+1,i,o,He,h,ho=>by
  have hi:i<l.length:=by omega
  have hx:l[i]?=some l[i]:=List.getElem?_eq_getElem hi;have hd:(l.drop i)=l[i]::l.drop (i+1):=List.drop_eq_getElem_cons hi;have hm:l[i]∈l:=List.getElem_mem hi;have hwi:=dO (n:=l.length) hi (by simp only [ca];omega);have hul:unL (l.drop i)=unP l[i]++unL (l.drop (i+1)):=by rw [hd];rfl
  rw [hul] at ho ⊢;rw [List.length_append] at ho;rw [← List.append_assoc];have ih:=fun He=>Oh (H:=H) (H0:=H0) (tg:=tg) hl ht k n (i+1) (o++unP l[i]) He (by omega) (by rw [List.length_append];omega)
  simp only [kv_cons,kv_nil] at ih;cases h5:l[i].kind == 5 with
  |true=>
   have h1:(l[i].kind == 1)=false:=by rw [eq_of_beq h5];rfl
   have hu:unP l[i]=[unH]:=by rw [unP,h5,sel_true]
   rw [hu] at ih ho ⊢;have ap:=fun L=>Cq (row:=Un.row) (l:=o) (x:=unH) (r:=[.int .i32 0,.bool true]) (sz:=2) (bytes:=8) (e:=aV) H L rfl rfl rfl (by simp at ho;omega) (by simp at ho;omega)
   rw [al M bW.eq_1];simp (maxSteps:=3000000) (maxDischargeDepth:=6) +contextual -implicitDefEqProofs only [amC M,↓amD,Nat.reduceBEq,Nat.reduceAdd,env,ak,cB,amG,AV.cell,Nat.reduceMul,Nat.reduceLeDiff,hi,hx,h5,h1,ap,ih,aU hi,bh,hwi]
  |false=>
   cases h1:l[i].kind == 1 with
   |false=>
    have hu:unP l[i]=[]:=by rw [unP,h5,sel_false,h1,sel_false]
    rw [hu,List.append_nil] at ih ⊢;rw [al M bW.eq_1];simp (maxSteps:=3000000) (maxDischargeDepth:=6) +contextual -implicitDefEqProofs only [amC M,↓amD,Nat.reduceBEq,Nat.reduceAdd,env,ak,cB,amG,AV.cell,Nat.reduceMul,Nat.reduceLeDiff,hi,hx,h5,h1,ih,aU hi,bh,hwi]
   |true=>
    have hu:unP l[i]=(dJ l[i].text).map unR:=by rw [unP,h5,sel_false,h1,sel_true]
    rw [hu] at ih ho ⊢;have hrl:=pz l[i].text;have htx:=ht _ hm;have h0:=fun k He=>Og M (H:=H) (H0:=H0) (l:=l) (tg:=tg) (rs:=dJ l[i].text) (by simp only [ca];omega) (j:=(i:Int)) k (dJ l[i].text).length 0 o He (by omega) (by simp at ho;omega)
    simp only [kv_cons,kv_nil,List.drop_zero,Int.ofNat_zero] at h0;rw [al M bW.eq_1];simp (maxSteps:=3000000) (maxDischargeDepth:=6) +contextual -implicitDefEqProofs only [amC M,↓amD,Nat.reduceBEq,Nat.reduceAdd,env,ak,cB,amG,AV.cell,Nat.reduceMul,Nat.reduceLeDiff,hi,hx,h5,h1,h0,ih,aU hi,bh,hwi,Gj htx]
theorem Nr(n:Nat)(l:List Un):fJ n (l.map Un.row):=by
 rw [rowsWk_map];exact fun _ _=>⟨wk_int _ _ _,wk_bool _ _,trivial⟩
theorem Fs(hU:Aw E){l:List ae}{tg:Tag}(hl:l.length≤100000)(ht:ru l)(hu:(unL l).length≤1000000)(H:List AObj) :
  M.run gO [.slice tg 3 (l.map ae.row)] H=some (.ret (.slice .any 2 ((unL l).map Un.row)),H):=by
 rw [b9 M hU.truchmanref01_units rfl (c:=gW) rfl,gW];have h1:=fun k=>Oh M (H:=H) (H0:=H) (tg:=tg) hl ht k l.length 0 [] (H++[.tok 0 aV]) (by omega) (by simpa using hu)
 simp only [kv_cons,kv_nil,Int.ofNat_zero,List.drop_zero,List.nil_append,List.length_nil,Nat.zero_mul,List.map_nil] at h1;have hh:=handV_drop (cut_app H [.tok ((unL l).length*2) aV]) (wk_any (esz:=2) (tag:=.own H.length) (Nr H.length (unL l)));rw [anyV_slice,hp_take] at hh;simp (maxSteps:=3000000) (maxDischargeDepth:=6) +contextual -implicitDefEqProofs only [amC M,↓amD,Nat.reduceBEq,Nat.reduceAdd,env,ak,cB,h1,hh]
end
section
attribute [local congr] aD bH aS aE aR aL aF au aw aM aN
variable{E:a8}(M:bY cC E)
end
section
attribute [local congr] aD bH aS aE aR aL aF au aw aM aN
variable{E:a8}(M:bY cC E)
def lR(l:List ae):Int×Int:=if cS l=0 then ((unL l).length,0) else (0,cS l)
theorem Ft(hB:lP E)(hU:Aw E){l:Sl ae}(hl:l.l.length≤100000)(ht:ru l.l)(hu:(unL l.l).length≤1000000)(H:List AObj) :
  M.run gN [.slice l.tag 3 (l.l.map ae.row)] H=some (.ret (.tuple [.int .i64 (lR l.l).1,.int .u8 (lR l.l).2]),H):=by
 rw [b9 M hU.truchmanref01_Units rfl (c:=gU) rfl,gU];have h1:=fun H=>vt M hB (l:=l) (by omega) ht H
 have h2:=fun H=>Fs M hU (l:=l.l) (tg:=l.tag) hl ht hu H
 by_cases h:cS l.l=0
 ·rw [lR,if_pos h]
  rw [h] at h1;simp (maxSteps:=3000000) (maxDischargeDepth:=6) +contextual -implicitDefEqProofs only [amC M,↓amD,Nat.reduceBEq,Nat.reduceAdd,env,ak,kF,h1,h2,List.length_map,(show ((0:Int) == 0)=true from rfl),(show ((0:Int) != 0)=false from rfl)]
 ·rw [lR,if_neg h]
  have h0:(cS l.l == 0)=false:=by simpa using h
  simp (maxSteps:=3000000) (maxDischargeDepth:=6) +contextual -implicitDefEqProofs only [amC M,↓amD,Nat.reduceBEq,Nat.reduceAdd,env,ak,kF,h1,h0]
end
section
attribute [local congr] aD bH aS aE aR aL aF au aw aM aN
variable{E:a8}(M:bY cC E)
end
section
attribute [local congr] aD bH aS aE aR aL aF au aw aM aN
variable{E:a8}(M:bY cC E)
end
section
attribute [local congr] aD bH aS aE aR aL aF au aw aM aN
variable{E:a8}(M:bY cC E)
end
section
attribute [local congr] aD bH aS aE aR aL aF au aw aM aN
variable{E:a8}(M:bY cC E)
theorem ry:∀ n:Int,bT none (bt n) 0=some (.int .i64 n):=fun _=>rfl
def b7:List ae→Str
 |[]=>[]
 |x::l=>sel (x.kind == 1) x.text []++b7 l
end
section
attribute [local congr] aD bH aS aE aR aL aF au aw aM aN
variable{E:a8}(M:bY cC E)
def Gn(v:AV):List AV:=[v]
end
section
attribute [local congr] aD bH aS aE aR aL aF au aw aM aN
variable{E:a8}(M:bY cC E)
end
section
attribute [local congr] aD bH aS aE aR aL aF au aw aM aN
variable{E:a8}(M:bY cC E)
structure HO (E:a8):Prop where
 seq:E.seq eM=tT
 sar:E.sar eM=1
theorem Mz{α:Type}{row:α→List AV}{l:List α}{x:α}{r:List AV}{sz bytes t:Nat}{e:TypeId}{H:List AObj}(ht:H[t]?=some (.tok (l.length*sz) e))(h1:r.length=sz)(h2:r.all AV.cell=true)(h3:r.map AV.strip=row x)
  (hl:(l.length+1)*bytes≤140737488355328) (hl2:l.length+1≤4611686018427387904) :
  rap false H e sz bytes false (.slice (.own t) sz (l.map row)) (.slice .full sz [r])=some (.slice (.own t) sz ((l++[x]).map row),H.set t (.tok ((l++[x]).length*sz) e)):=by
 simp only [rap,wc,mF,List.length_map,List.length_cons,List.length_nil,Nat.zero_add,or_true,if_true,hl,hl2,sM h1 h2,and_true,true_and,ht,List.map_cons,List.map_nil,h3,List.map_append,List.length_append,Nat.add_mul,Nat.one_mul];rw [Nat.add_mul,Nat.one_mul] at hl;rw [if_pos hl]
theorem Ns{sz bytes:Nat}{e:TypeId}{r:List AV}(H:List AObj)(h1:r.length=sz)(h2:r.all AV.cell=true)(hb:bytes≤140737488355328) :
  rap false H e sz bytes false (.slice .nil sz []) (.slice .full sz [r])=some (.slice (.own H.length) sz [r.map AV.strip],H++[.tok sz e]):=by
 simp only [rap,wc,mF,List.length_cons,List.length_nil,Nat.zero_add,or_true,if_true,sM h1 h2,and_true,true_and,List.map_cons,List.map_nil,Nat.one_mul];rw [if_pos ⟨hb,by omega⟩];rfl
theorem Fu(hU:Aw E){l:List ae}{t:Tag}(H:List AObj):M.run ka [.slice t 3 (l.map ae.row)] H=some (.ret (.fn (.func eM) [] [.ptr H.length 0]),H++[.cells [.slice t 3 (l.map ae.row)] ah]):=by
 rw [b9 M hU.docs_units rfl (c:=pa) rfl,pa];simp (maxSteps:=3000000) (maxDischargeDepth:=6) +contextual -implicitDefEqProofs only [amC M,↓amD,Nat.reduceBEq,Nat.reduceAdd,env,ak,Cd,amG,AV.cell,Nat.reduceMul,Nat.reduceLeDiff]
theorem vY:∀ l:List ae,ot (l.map ae.row)=some ((unL l).map fun u=>[.agg u.row])
 |[]=>rfl
 |x::l=>by
  rw [List.map_cons,show ae.row x=[.int .u8 x.kind,.str x.text,.bool x.car] from rfl,ot,vY l];show _=some ((unP x++unL l).map _);rw [List.map_append];dsimp only
  by_cases h5:x.kind=5
  ·rw [if_pos h5,unP,h5];rfl
  ·have e5:(x.kind == 5)=false:=by simpa using h5
   rw [if_neg h5,unP,e5,sel_false]
   by_cases h1:x.kind=1
   ·rw [if_pos h1,h1]
    show _=some (((dJ x.text).map unR).map _++_);rw [Bb,List.map_map,List.map_map];rfl
   ·have e1:(x.kind == 1)=false:=by simpa using h1
    rw [if_neg h1,e1];rfl
def uX(b:Nat):List Un→List AObj
 |[]=>[.cells [.slice .nil 2 []] c9]
 |x::l=>.cells [.slice (.own (b+2)) 2 ((x::l).map Un.row)] c9 :: .cells x.row aQ :: .tok ((x::l).length*2) aQ::l.map fun u=>.cells u.row aQ
theorem LI(H:List AObj)(b:Nat)(l:List Un):sH (H++uX b []) (H++uX b l)=true:=Dw H (by
 have h:∀ l:List Un,sH [] (l.map fun u=>AObj.cells u.row aQ)=true:=fun l=>by
  induction l with
  |nil=>rfl
  |cons x l ih=>simpa [sH,x3] using ih
 cases l with
 |nil=>rfl
 |cons x l=>simpa [uX,sH,x3] using h l)
theorem Gp{H:List AObj}{e:Env}(he2:dx e 2 = .ptr H.length 0):∀ (xs st:List Un),st.length+xs.length≤1000000 →
  fZ cC M.go (k9 aC) [7] [[⟨some 5,none,.op (.nw [.int .i32 0,.bool false] aQ)⟩,⟨none,none,.op (.st 2 (.t 5) (.t 7))⟩]] bE e [] (H++uX H.length []) (xs.map fun u=>[.agg u.row]) (H++uX H.length st)=some (none,H++uX H.length (st++xs))
 |[],st,_=>by rw [List.append_nil];rfl
 |x::xs,st,hb=>by
  have q1:(k9 aC).dfr=some ([],.c .unk,.bad):=rfl;have q2:(k9 aC).mode = .keep:=rfl;have q3:(k9 aC).res=[]:=rfl;have ih:=Gp he2 xs (st++[x]) (by simp at hb ⊢;omega);rw [List.append_assoc] at ih;rw [List.map_cons];refine I9 ?_ (LI H H.length (st++[x])) (fun _ h=>by cases h) ih;generalize k9 aC=rf at q1 q2 q3;cases st with
  |nil=>
   have gk:∀ L:List AObj,(H++L)[H.length+1]?=L[1]? := fun L=>hp_getk H L 1
   have sk:∀ (L:List AObj) (x:AObj),(H++L).set (H.length+1) x=H++L.set 1 x:=fun L x=>hp_setk H L 1 x
   have ap:rap false (H++[.cells [.slice .nil 2 []] c9,.cells x.row aQ]) aQ 2 8 false (.slice .nil 2 []) (.slice .full 2 [x.row])=some (.slice (.own (H.length+2)) 2 [x.row],H++[.cells [.slice .nil 2 []] c9,.cells x.row aQ,.tok 2 aQ]):=by
    rw [Ns (sz:=2) (bytes:=8) (r:=x.row) _ rfl rfl (by omega)];simp [Un.row,AV.strip]
   simp only [List.nil_append,uX,sy,List.map_cons,List.map_nil,List.cons_append,kv_cons,kv_nil,bE,List.length_cons,List.length_nil,Nat.zero_add,Nat.one_mul] at ap ⊢;simp (maxSteps:=3000000) (maxDischargeDepth:=6) +contextual -implicitDefEqProofs only [amC M,↓amD,Nat.reduceBEq,Nat.reduceAdd,env,ak,bM,amG,AV.cell,Nat.reduceMul,Nat.reduceLeDiff,q1,q2,q3,he2,ap,qUn,gk,sk,List.getElem?_cons_succ,List.set_cons_succ]
  |cons y st=>
   have hG:H++uX H.length (y::st)=H++(.cells [.slice (.own (H.length+2)) 2 ((y::st).map Un.row)] c9 :: .cells y.row aQ :: .tok ((y::st).length*2) aQ::st.map fun u=>.cells u.row aQ):=rfl;obtain ⟨G2,hG2⟩:∃ G2,G2=H++(.cells [.slice (.own (H.length+2)) 2 ((y::st).map Un.row)] c9 :: .cells y.row aQ :: .tok ((y::st++[x]).length*2) aQ::st.map fun u=>.cells u.row aQ):=⟨_,rfl⟩
   have gg:∀ X,(H++uX H.length (y::st)++X)[H.length]?=some (.cells [.slice (.own (H.length+2)) 2 ((y::st).map Un.row)] c9):=fun X=>by rw [hG,List.append_assoc,bg];rfl
   have gg2:∀ X,(G2++X)[H.length]?=some (.cells [.slice (.own (H.length+2)) 2 ((y::st).map Un.row)] c9):=fun X=>by rw [hG2,List.append_assoc,bg];rfl
   have ap:∀ X,rap false (H++uX H.length (y::st)++X) aQ 2 8 false (.slice (.own (H.length+2)) 2 ((y::st).map Un.row)) (.slice .full 2 [x.row])=some (.slice (.own (H.length+2)) 2 ((y::st++[x]).map Un.row),G2++X):=fun X=>by
    rw [hG2,hG,Mz (row:=Un.row) (l:=y::st) (x:=x) (r:=x.row) (sz:=2) (bytes:=8) (by rw [List.append_assoc,hp_getk];rfl) rfl rfl rfl (by simp at hb ⊢;omega) (by simp at hb ⊢;omega),List.append_assoc,List.append_assoc,hp_setk];rfl
   have hs:(G2++[AObj.cells x.row aQ]).set H.length (AObj.cells [.slice (.own (H.length+2)) 2 ((y::st++[x]).map Un.row)] c9)=H++uX H.length (y::st++[x]):=by
    rw [hG2,List.append_assoc,hp_set0,List.cons_append,List.set_cons_zero];simp [uX]
   clear hG hG2;simp only [sy,List.map_cons,List.map_nil,List.cons_append,List.nil_append,kv_cons,kv_nil,bE] at gg gg2 ap hs ⊢;generalize H++uX H.length (y::st)=G at *
   generalize H++uX H.length (y::(st++[x]))=G3 at *
   simp (maxSteps:=3000000) (maxDischargeDepth:=6) +contextual -implicitDefEqProofs only [amC M,↓amD,Nat.reduceBEq,Nat.reduceAdd,env,ak,bM,amG,AV.cell,Nat.reduceMul,Nat.reduceLeDiff,q1,q2,q3,he2,ap,gg,gg2,hs,qUn,bg]
theorem MA(n:Nat)(l:List Un):fJ n (l.map Un.row):=by
 rw [rowsWk_map];exact fun _ _=>⟨wk_int _ _ _,wk_bool _ _,trivial⟩
theorem Ax(hU:Aw E)(hN:HO E){l:List ae}{t:Tag}{H:List AObj}{id:Nat}{T:TypeId}(hl:l.length≤1000000)(hu:(unL l).length≤1000000)(hid:H[id]?=some (.cells [.slice t 3 (l.map ae.row)] T)):M.run cK [.slice .nil 2 [],.fn (.func eM) [] [.ptr id 0]] H=some (.ret (.slice .any 2 ((unL l).map Un.row)),H):=by
 have hs:E.seq eM [.ptr id 0] (H++uX H.length [])=some ((unL l).map fun u=>[.agg u.row],[]):=by
  rw [hN.seq];have h1:(H++uX H.length [])[id]?=some (.cells [.slice t 3 (l.map ae.row)] T):=dc hid;have h2:Nat.ble (l.map ae.row).length 9223372036854775807=true:=by rw [Nat.ble_eq,List.length_map];omega
  simp only [tT,h1,vY,h2,cond_true]
 rw [b9 M hU.slices_AppendSeq_docs_unit_docs_unit rfl (c:=cQ) rfl,cQ]
 have he:=fun (k:List Fra) (e:Env) (H0:List AObj) (he2:dx e 2 = .ptr H.length 0)=>by
  have hrr:=Gp M (H:=H) he2 (unL l) [] (by simpa using hu);rw [List.nil_append] at hrr;exact MY (M:=M) (ps:=[7]) (fn:=aC) (k:=k) (a:=e) (H0:=H0) _ hs hN.sar hrr
 cases hq:unL l with
 |nil=>
  rw [hq] at he;simp only [uX] at he;simp (maxSteps:=3000000) (maxDischargeDepth:=6) +contextual -implicitDefEqProofs only [amC M,↓amD,Nat.reduceBEq,Nat.reduceAdd,env,ak,bM,amG,AV.cell,Nat.reduceMul,Nat.reduceLeDiff,he,rfnC_none,go_rfn,iC,bg,cut_app,hp_take]
 |cons x xs=>
  rw [hq] at he;have hh:=handV_drop (cut_app H (uX H.length (x::xs))) (wk_any (esz:=2) (tag:=.own (H.length+2)) (MA H.length (x::xs)));simp only [uX,List.length_cons,hp_take,anyV_slice] at he hh;simp (maxSteps:=3000000) (maxDischargeDepth:=6) +contextual -implicitDefEqProofs only [amC M,↓amD,Nat.reduceBEq,Nat.reduceAdd,env,ak,bM,amG,AV.cell,Nat.reduceMul,Nat.reduceLeDiff,he,rfnC_none,go_rfn,bg,hh,hp_take]
theorem DY(hU:Aw E)(hN:HO E){l:List ae}{t:Tag}{H:List AObj}{id:Nat}{T:TypeId}(hl:l.length≤1000000)(hu:(unL l).length≤1000000)(hid:H[id]?=some (.cells [.slice t 3 (l.map ae.row)] T)):M.run dA [.fn (.func eM) [] [.ptr id 0]] H=some (.ret (.slice .any 2 ((unL l).map Un.row)),H):=by
 rw [b9 M hU.slices_Collect_docs_unit rfl (c:=eQ) rfl,eQ];have h1:=Ax M hU hN hl hu hid;have hh:=handV_drop (cut_refl H) (wk_any (esz:=2) (tag:=.any) (MA H.length (unL l)));simp only [anyV_slice,hp_self] at hh;simp (maxSteps:=3000000) (maxDischargeDepth:=6) +contextual -implicitDefEqProofs only [amC M,↓amD,Nat.reduceBEq,Nat.reduceAdd,env,ak,mO,h1,hh]
theorem Fv(hB:lP E)(hX:Av M)(hU:Aw E)(hN:HO E){l:Sl ae}(hl:l.l.length≤100000)(ht:ru l.l)(hu:(unL l.l).length≤1000000)(H:List AObj) :
  M.run oW [.slice l.tag 3 (l.l.map ae.row)] H=some (.ret (.tuple [.int .i64 (lR l.l).1,.int .u8 (lR l.l).2]),H):=by
 rw [b9 M hU.docs_Units rfl (c:=o9) rfl,o9];have h1:=fun H=>pL M hB hX (l:=l) (by omega) ht H
 have h2:=fun H=>Fu M hU (l:=l.l) (t:=l.tag) H
 have h3:=DY M hU hN (l:=l.l) (t:=l.tag) (H:=H++[.cells [.slice l.tag 3 (l.l.map ae.row)] ah]) (id:=H.length) (by omega) hu (bg _ _)
 by_cases h:cS l.l=0
 ·rw [lR,if_pos h]
  rw [h] at h1;simp (maxSteps:=3000000) (maxDischargeDepth:=6) +contextual -implicitDefEqProofs only [amC M,↓amD,Nat.reduceBEq,Nat.reduceAdd,env,ak,tZ,h1,h2,h3,List.length_map,(show ((0:Int) == 0)=true from rfl),cut_app,hp_take,wk_tuple]
 ·rw [lR,if_neg h]
  have h0:(cS l.l == 0)=false:=by simpa using h
  simp (maxSteps:=3000000) (maxDischargeDepth:=6) +contextual -implicitDefEqProofs only [amC M,↓amD,Nat.reduceBEq,Nat.reduceAdd,env,ak,tZ,h1,h0]
end
section
attribute [local congr] aD bH aS aE aR aL aF au aw aM aN
variable{E:a8}(M:bY cC E)
end
section
attribute [local congr] aD bH aS aE aR aL aF au aw aM aN
variable{E:a8}(M:bY cC E)
def gz(p:Sl ae):List AV:=[.slice p.tag 3 (p.l.map ae.row)]
theorem qPl:(∀ p:Sl ae,bT none (gz p) 0=some (.slice p.tag 3 (p.l.map ae.row)))∧(∀ p:Sl ae,pI 1 (gz p)=some (gz p))∧(∀ p:Sl ae,(gz p).length=1):=⟨fun _=>rfl,fun _=>rfl,fun _=>rfl⟩
def oE(n:Nat):List ae→Nat
 |[]=>n
 |x::l=>if n<5000 then oE (n+x.text.length) l else n
def uq(n:Nat):List (Sl ae)→Nat
 |[]=>n
 |p::ps=>uq (oE (n+p.l.length) p.l) ps
def DZ(ps:List (Sl ae)):Bool:=decide (2500<uq 0 ps)
theorem Cr:∀ (l:List ae) (n:Nat),5000≤n→oE n l=n
 |[],n,_=>rfl
 |x::l,n,h=>by rw [oE,if_neg (by omega)]
theorem Gq:∀ (l:List ae) (n:Nat),(∀ x∈l,x.text.length≤ca)→n<5000→oE n l≤ca+5000
 |[],n,_,hn=>by rw [oE];simp only [ca];omega
 |x::l,n,h,hn=>by
  rw [oE,if_pos hn];have h1:=h x List.mem_cons_self
  by_cases h2:n+x.text.length<5000
  ·exact Gq l (n+x.text.length) (fun y hy=>h y (List.mem_cons_of_mem _ hy)) h2
  ·rw [Cr l _ (by omega)];omega
theorem JN(l:List ae)(n:Nat)(h:∀ x∈l,x.text.length≤ca):oE n l≤n+ca+5000:=by
 by_cases hn:n<5000
 ·have:=Gq l n h hn;omega
 ·rw [Cr l n (by omega)];omega
theorem vu:∀ (l:List ae) (n:Nat),n≤oE n l
 |[],n=>Nat.le_refl _
 |x::l,n=>by
  rw [oE];split
  ·have:=vu l (n+x.text.length);omega
  ·exact Nat.le_refl _
theorem Bf:∀ (ps:List (Sl ae)) (n:Nat),n≤uq n ps
 |[],n=>Nat.le_refl _
 |p::ps,n=>by
  rw [uq];have h1:=vu p.l (n+p.l.length);have h2:=Bf ps (oE (n+p.l.length) p.l);omega
def jT(l:List ae):Nat:=(l.map fun x=>x.text.length).sum
theorem Gr:∀ (l:List ae) (n:Nat),oE n l≤2500→oE n l=n+jT l
 |[],n,_=>by simp [oE,jT]
 |x::l,n,h=>by
  have h0:n<5000:=by have:=vu (x::l) n;omega
  rw [oE,if_pos h0] at h ⊢;rw [Gr l _ h,jT,jT,List.map_cons,List.sum_cons];omega
def Ay(ps:List (Sl ae)):Nat:=(ps.map fun p=>p.l.length+jT p.l).sum
theorem Gs:∀ (ps:List (Sl ae)) (n:Nat),uq n ps≤2500→uq n ps=n+Ay ps
 |[],n,_=>by simp [uq,Ay]
 |p::ps,n,h=>by
  rw [uq] at h ⊢;have h0:=Bf ps (oE (n+p.l.length) p.l);rw [Gs ps _ h,Gr p.l _ (by omega),Ay,Ay,List.map_cons,List.sum_cons];omega
theorem HP{p:Sl ae}(h:DZ [p]=false):p.l.length+jT p.l≤2500:=by
 have h1:uq 0 [p]≤2500:=by have:=of_decide_eq_false h;omega
 have h2:=Gs [p] 0 h1;simp only [Ay,List.map_cons,List.map_nil,List.sum_cons,List.sum_nil] at h2;omega
theorem zn{l:List ae}{x:ae}(h:x∈l):x.text.length≤jT l:=by
 induction l with
 |nil=>cases h
 |cons y l ih=>
  rw [jT,List.map_cons,List.sum_cons];rcases List.mem_cons.1 h with rfl | h
  ·omega
  ·have:=ih h;unfold jT at this;omega
theorem ur:∀ l:List ae,(unL l).length≤l.length+jT l
 |[]=>by simp [unL]
 |x::l=>by
  show (unP x++unL l).length≤_;have h1:=LG x;have h2:=ur l;rw [List.length_append,jT,List.map_cons,List.sum_cons,List.length_cons];unfold jT at h2;omega
theorem zo:∀ l:List ae,(b7 l).length≤jT l
 |[]=>by simp [b7]
 |x::l=>by
  have h2:=zo l;rw [b7,List.length_append,jT,List.map_cons,List.sum_cons];unfold jT at h2;cases x.kind == 1
  ·rw [sel_false,List.length_nil];omega
  ·rw [sel_true];omega
theorem lgi{H H0:List AObj}{ps:List (Sl ae)}{tg:Tag}{j:Nat}{p:Sl ae}(hp:ps[j]?=some p)(hj:j<ps.length)(hpl:p.l.length≤ca)(hpt:∀ x∈p.l,x.text.length≤ca)(hc:dz H0 H)(k:List Fra):∀ (n i:Nat) (n2:Nat) (hn:n2≤1000000000000000000) (He:List AObj),i+n=(p.l).length →
  M.go cO H0 (.c cV :: .lp ⟨(some [0,3,4,5]),[],false⟩ cV He :: .blk 2 :: .c (.lv [0,3,4])::k) (kv [(0,.slice tg 1 (ps.map gz)),(3,.int .i64 n2),(4,.int .i64 j),(5,.int .i64 i)]) H =
   (M.go cO H0 k (kv [(0,.slice tg 1 (ps.map gz)),(3,.int .i64 (oE n2 (p.l.drop i):Nat)),(4,.int .i64 j)]) (H))
 |0,i,n2,hn,He,h=>by
  have e:i=(p.l).length:=by omega
  subst e;rw [al M cV.eq_1];simp (maxSteps:=3000000) (maxDischargeDepth:=6) +contextual -implicitDefEqProofs only [amC M,↓amD,Nat.reduceBEq,Nat.reduceAdd,env,ak,dq,Nat.lt_irrefl,List.drop_length,hp,hpl,qPl,aU hj,oE]
 |n+1,i,n2,hn,He,h=>by
  have hi:i<(p.l).length:=by omega
  have hx:(p.l)[i]?=some (p.l)[i]:=List.getElem?_eq_getElem hi;have hd:((p.l).drop i)=(p.l)[i]::(p.l).drop (i+1):=List.drop_eq_getElem_cons hi;have hm:(p.l)[i]∈(p.l):=List.getElem_mem hi;have ih:=fun n2 hn He=>lgi (H:=H) (H0:=H0) (ps:=ps) (tg:=tg) (j:=j) (p:=p) (hp:=hp) (hj:=hj) (hpl:=hpl) (hpt:=hpt) hc k n (i+1) n2 hn He (by omega)
  simp only [kv_cons,kv_nil] at ih;have hij:=aU (row:=gz) (tag:=tg) (sz:=1) (k:=.i64) hj;have hir:=aU (row:=ae.row) (tag:=p.tag) (sz:=3) (k:=.i64) hi;have hwi:=dO (n:=p.l.length) hi hpl;have hmt:=hpt _ hm
  by_cases h5:n2<5000
  ·have d5:decide ((n2:Int)<5000)=true:=decide_eq_true (by omega)
   have hw2:IntKind.i64.wrap ((n2:Int)+(p.l[i].text.length:Int))=((n2+p.l[i].text.length:Nat):Int):=by rw [b4 (by omega) (by simp only [ca] at hmt;omega)];omega
   have ih:=ih (n2+p.l[i].text.length) (by simp only [ca] at hmt;omega);rw [hd,oE,if_pos h5];rw [al M cV.eq_1];simp (maxSteps:=3000000) (maxDischargeDepth:=6) +contextual -implicitDefEqProofs only [amC M,↓amD,Nat.reduceBEq,Nat.reduceAdd,env,ak,dq,hi,hx,hp,hd,d5,ih,hij,hir,hwi,hw2,qPl,bh]
  ·have d5:decide ((n2:Int)<5000)=false:=decide_eq_false (by omega)
   rw [Cr _ _ (by omega)];rw [al M cV.eq_1];simp (maxSteps:=3000000) (maxDischargeDepth:=6) +contextual -implicitDefEqProofs only [amC M,↓amD,Nat.reduceBEq,Nat.reduceAdd,env,ak,dq,hi,hx,hp,hd,d5,hij,hir,qPl,bh]
theorem lgo{H H0:List AObj}{ps:List (Sl ae)}{tg:Tag}(hps:ps.length≤100)(hpl:∀ p∈ps,p.l.length≤ca∧∀ x∈p.l,x.text.length≤ca)(hc:dz H0 H)(k:List Fra):∀ (n i:Nat) (n2:Nat) (hn:n2≤i*300000000000000) (He:List AObj),i+n=ps.length →
  M.go cO H0 (.c dD :: .lp ⟨(some [0,3,4]),[],false⟩ dD He :: .blk 0 :: .c (.lv [3])::k) (kv [(0,.slice tg 1 (ps.map gz)),(3,.int .i64 n2),(4,.int .i64 i)]) H =
   (M.go cO H0 k (kv [(3,.int .i64 (uq n2 (ps.drop i):Nat))]) (H))
 |0,i,n2,hn,He,h=>by
  have e:i=ps.length:=by omega
  subst e;rw [al M dD.eq_1];simp (maxSteps:=3000000) (maxDischargeDepth:=6) +contextual -implicitDefEqProofs only [amC M,↓amD,Nat.reduceBEq,Nat.reduceAdd,env,ak,dq,Nat.lt_irrefl,List.drop_length,uq]
 |n+1,i,n2,hn,He,h=>by
  have hi:i<ps.length:=by omega
  have hx:ps[i]?=some ps[i]:=List.getElem?_eq_getElem hi;have hd:(ps.drop i)=ps[i]::ps.drop (i+1):=List.drop_eq_getElem_cons hi;have hm:ps[i]∈ps:=List.getElem_mem hi;have ih:=fun n2 hn He=>lgo (H:=H) (H0:=H0) (ps:=ps) (tg:=tg) (hps:=hps) (hpl:=hpl) hc k n (i+1) n2 hn He (by omega)
  simp only [kv_cons,kv_nil] at ih;have hij:=aU (row:=gz) (tag:=tg) (sz:=1) (k:=.i64) hi;have hwi:=dO (n:=ps.length) hi (by simp only [ca];omega);have hq:=hpl _ hm;have hq1:ps[i].l.length≤140737488351232:=hq.1;have hw2:IntKind.i64.wrap ((n2:Int)+(ps[i].l.length:Int))=((n2+ps[i].l.length:Nat):Int):=by rw [b4 (by omega) (by omega)];omega
  have hb:=JN ps[i].l (n2+ps[i].l.length) hq.2;have hz:=fun k He=>lgi M (H:=H) (H0:=H0) (ps:=ps) (tg:=tg) (j:=i) (p:=ps[i]) hx hi hq.1 hq.2 hc k ps[i].l.length 0 (n2+ps[i].l.length) (by omega) He (by omega)
  have ih:=ih (oE (n2+ps[i].l.length) ps[i].l) (by simp only [ca] at hb;omega);simp only [kv_cons,kv_nil,Int.ofNat_zero,List.drop_zero] at hz;rw [hd,uq];rw [al M dD.eq_1];simp (maxSteps:=3000000) (maxDischargeDepth:=6) +contextual -implicitDefEqProofs only [amC M,↓amD,Nat.reduceBEq,Nat.reduceAdd,env,ak,dq,hi,hx,ih,hz,hij,hwi,hw2,qPl,List.length_map]
theorem JO(hB:lP E){ps:List (Sl ae)}{tg:Tag}(hps:ps.length≤100)(hpl:∀ p∈ps,p.l.length≤ca∧∀ x∈p.l,x.text.length≤ca)(H:List AObj) :
  M.run fk [.slice tg 1 (ps.map gz)] H=some (.ret (.bool (DZ ps)),H):=by
 rw [b9 M hB.truchmanlaw01_long rfl (c:=iG) rfl,iG];have h1:=fun k He=>lgo M (tg:=tg) hps hpl (cut_refl H) k ps.length 0 0 (by omega) He (by omega)
 simp only [kv_cons,kv_nil,Int.ofNat_zero,List.drop_zero] at h1;have h2:decide ((2500:Int)<(uq 0 ps:Int))=decide (2500<uq 0 ps):=by rw [Bool.eq_iff_iff];simp;omega
 simp (maxSteps:=3000000) (maxDischargeDepth:=6) +contextual -implicitDefEqProofs only [amC M,↓amD,Nat.reduceBEq,Nat.reduceAdd,env,ak,dq,h1,h2,DZ]
theorem HQ(hB:lP E){l:Sl ae}(h:l.ok 0 (ae.ok 0))(H:List AObj):M.run fk [.slice .full 1 [[.slice l.tag.strip 3 (l.l.map ae.row)]]] H=some (.ret (.bool (DZ [l])),H):=
 JO M hB (tg:=.full) (ps:=[⟨l.tag.strip,l.l⟩]) (by simp) (fun p hp=>by
  rw [List.mem_singleton] at hp;subst hp;exact ⟨h.len,fun x hx=>(h.all x hx).text⟩) H
end
section
attribute [local congr] aD bH aS aE aR aL aF au aw aM aN
variable{E:a8}(M:bY cC E)
structure lB (E:a8):Prop where
 docs_cutter_put:E.fn bb=some ir
 docs_cutter_turn:E.fn cL=some cR
 docs_cutter_unit:E.fn dh=some gd
 docs_cutter_tag:E.fn iq=some kn
 slices_IndexFunc_api_Piece_api_Piece:E.fn cM=some aH
 slices_ContainsFunc_api_Piece_api_Piece:E.fn bB=some bC
 docs_cut_1:E.fn dW=some mg
 docs_cut:E.fn sN=some gb
 docs_Cut:E.fn jx=some kO
 docs_ends:E.fn ny=some iH
 slices_Reverse_string_string:E.fn dQ=some aT
 slices_Equal_string_string:E.fn eo=some cg
 docs_Glue:E.fn qI=some cP
 docs_Plain:E.fn l6=some ki
 truchmanlaw01_DocsGlued:E.fn fc=some bk
def pcC(l:List ae):List AV:=(l.map ae.row).flatten
theorem rL(l m:List ae):pcC (l++m)=pcC l++pcC m:=by simp [pcC]
theorem Cs(x:ae):pcC [x]=[.int .u8 x.kind,.str x.text,.bool x.car]:=rfl
theorem nC:∀ l:List ae,(pcC l).length=l.length*3
 |[]=>rfl
 |x::l=>by
  have:=nC l;rw [show pcC (x::l)=pcC [x]++pcC l from rL [x] l,List.length_append,this,Cs,List.length_cons];simp;omega
def PcV(H:List AObj)(v:AV)(l:List ae):Prop:=(l=[]∧v = .slice .nil 3 [])∨(l≠[]∧∃ Q,v = .rslice Q 0 l.length 3 true∧H[Q]?=some (.cells (pcC l) ag))
def below(q:Nat)(v:AV):Prop:=∀ Q o n e r,v = .rslice Q o n e r→Q<q
def Gt(q:Nat)(v:AV):Prop:=∀ Q o n e r,v = .rslice Q o n e r→q≤Q
def OpV(H:List AObj)(v:AV)(l:List Str):Prop:=(l=[]∧v = .slice .nil 1 [])∨∃ O junk,v = .rslice O 0 l.length 1 true∧H[O]?=some (.cells (fX l++junk) aI)
def bN(l:List ae)(p:ae):List ae:=
 match l.getLast? with
 |some x=>sel (p.kind == 1&&x.kind == 1) (l.dropLast++[{ x with text:=x.text++p.text }]) (l++[p])
 |none=>[p]
structure CSt where
 done:List (List ae)
 cur:List ae
 pos:List Int
 place:Nat
 due:Bool
 opn:List Str
def free(R:Nat→Prop)(v:AV):Prop:=∀ Q o n e r,v = .rslice Q o n e r→¬ R Q
structure tf (R:Nat→Prop) (c:Nat) (H:List AObj) (S:CSt) (P q:Nat) (vs:List AV) (v:AV) (ta:Tag) (ov:AV):Prop where
 hn:¬ R c
 hP:¬ R P
 rl:∀ i,R i→i<H.length
 cell:H[c]?=some (.cells [.rslice P 0 (S.done.length+1) 1 true,.slice ta 1 (S.pos.map bt),.int .i64 S.place,.bool S.due,ov] aK)
 par:H[P]?=some (.cells (vs++[v]) ah)
 len:vs.length=S.done.length
 dn:∀ (i:Nat) (w:AV) (l:List ae),vs[i]?=some w→S.done[i]?=some l→PcV H w l∧below q w∧free R w
 cr:PcV H v S.cur
 ab:Gt q v
 pr:free R v
 ql:q≤H.length
 op:OpV H ov S.opn
 oa:free R ov
 tg:ta = .any∨ta = .some∨S.pos=[]∨∃ t,ta = .own t
def eU(R:Nat→Prop)(c:Nat)(H:List AObj)(S:CSt):Prop:=∃ P q vs v ta ov,tf R c H S P q vs v ta ov
structure Frm (R:Nat→Prop) (H H':List AObj):Prop where
 len:H.length≤H'.length
 low:∀ i,R i→H'[i]?=H[i]?
 it:∀ (i:Nat) s pos,H[i]?=some (.siter s pos)→H'[i]?=some (.siter s pos)
theorem Frm.refl(R:Nat→Prop)(H:List AObj):Frm R H H:=⟨Nat.le_refl _,fun _ _=>rfl,fun _ _ _ h=>h⟩
theorem Frm.trans{R:Nat→Prop}{A B C:List AObj}(h:Frm R A B)(k:Frm R B C):Frm R A C:=⟨Nat.le_trans h.len k.len,fun i hi=>(k.low i hi).trans (h.low i hi),fun i s p e=>k.it i s p (h.it i s p e)⟩
theorem Frm.mono{R R':Nat→Prop}{A B:List AObj}(h:Frm R A B)(hr:∀ i,R' i→R i):Frm R' A B:=⟨h.len,fun i hi=>h.low i (hr i hi),h.it⟩
theorem Frm.app{R:Nat→Prop}(H X:List AObj)(hn:∀ i,R i→i<H.length):Frm R H (H++X):=⟨by simp,fun i hi=>List.getElem?_append_left (hn i hi),fun i s p h=>dc h⟩
theorem Frm.set{R:Nat→Prop}{H:List AObj}{k:Nat}{cs:List AV}{T:TypeId}(x:AObj)(hk:¬ R k)(h:H[k]?=some (.cells cs T)):Frm R H (H.set k x):=
 ⟨by simp,fun i hi=>List.getElem?_set_ne (fun e=>hk (by rw [e];exact hi)),fun i s p e=>by
  rw [List.getElem?_set_ne (fun ek=>by subst ek;rw [h] at e;cases e)];exact e⟩
theorem PcV.stay{H H':List AObj}{v:AV}{l:List ae}(h:PcV H v l)(hs:∀ (Q:Nat) (cs:List AV),v = .rslice Q 0 l.length 3 true→H[Q]?=some (AObj.cells cs ag)→H'[Q]?=some (AObj.cells cs ag)):PcV H' v l:=by
 rcases h with h | ⟨h1,Q,h2,h3⟩
 ·exact .inl h
 ·exact .inr ⟨h1,Q,h2,hs Q _ h2 h3⟩
theorem OpV.stay{H H':List AObj}{v:AV}{l:List Str}(h:OpV H v l)(hs:∀ (O:Nat) (cs:List AV),H[O]?=some (AObj.cells cs aI)→H'[O]?=some (AObj.cells cs aI)):OpV H' v l:=by
 rcases h with h | ⟨O,junk,h1,h2⟩
 ·exact .inl h
 ·exact .inr ⟨O,junk,h1,hs O _ h2⟩
theorem fh{H:List AObj}{k i:Nat}{x:AObj}{cs ds:List AV}{T T':TypeId}(hk:H[k]?=some (.cells ds T'))(hT:T≠T')(h:H[i]?=some (.cells cs T)):(H.set k x)[i]?=some (.cells cs T):=by
 rw [List.getElem?_set_ne (fun e=>by subst e;rw [hk] at h;cases h;exact hT rfl)];exact h
theorem zp:ag≠aK:=by decide
theorem JP:ag≠ah:=by decide
theorem zq:aI≠ag:=by decide
theorem Gu:aI≠ah:=by decide
theorem Bg:aI≠aK:=by decide
theorem Bh:ah≠aK:=by decide
theorem Fw{H G:List AObj}{v:AV}{l:List ae}(h:PcV H v l):nF G .sl v=some (.int .i64 (l.length:Int)):=by
 rcases h with ⟨rfl,rfl⟩ | ⟨_,Q,rfl,_⟩<;>rfl
theorem Bi(p:ae):lC 3 [p.row]=true:=rfl
theorem D0{H:List AObj}{v:AV}{l:List ae}(h:PcV H v l):v.cell=true∧cu v=some [v]:=by
 rcases h with ⟨rfl,rfl⟩ | ⟨_,Q,rfl,_⟩<;>exact ⟨rfl,rfl⟩
theorem MB{G:List AObj}{v:AV}{l:List ae}(h:PcV G v l)(hl:l.length≤100000000)(p:ae) :
  ∃ G',rap true G ag 3 32 false v (.slice .full 3 [p.row])=some (.rslice G.length 0 (l.length+1) 3 true,G')∧G'[G.length]?=some (.cells (pcC (l++[p])) ag)∧G'.length=G.length+1∧∀ i,i<G.length→(∀ Q,v = .rslice Q 0 l.length 3 true→i≠Q)→G'[i]?=G[i]? := by
 rcases h with ⟨rfl,rfl⟩ | ⟨_,Q,rfl,hg⟩
 ·refine ⟨G++[.cells (pcC [p]) ag], ?_,by rw [bg];rfl,by simp,fun i hi _=>List.getElem?_append_left hi⟩
  simp only [rap,kE,mF,or_true,if_true,Bi];rw [if_pos (by simp)];rfl
 ·have hlt:=dy hg
  have hlen:l.length*3≤(pcC l).length:=by rw [nC];omega
  refine ⟨G.set Q .dead++[.cells (pcC (l++[p])) ag], ?_, ?_,by simp,fun i hi hne => ?_⟩
  ·simp only [rap,kE,mF,or_true,if_true,Bi,hg]
   rw [if_pos ⟨trivial,trivial,hlen,by simp;omega,by simp;omega⟩];rw [List.take_of_length_le (by rw [nC];omega),rL];rfl
  ·rw [show G.length=(G.set Q .dead).length by simp,bg];rfl
  ·rw [List.getElem?_append_left (by simp;omega),List.getElem?_set_ne (fun e=>hne Q rfl e.symm)]
theorem Nt{id n i:Nat}(h:i<n)(k:IntKind):rX 3 (.rslice id 0 n 3 true) (.int k (i:Int))=some (.ptr id (i*3)):=by
 simp only [rX];rw [if_pos ⟨trivial,by omega,by simp;omega⟩];simp
theorem rM{id n i:Nat}(h:i<n)(k:IntKind):rX 1 (.rslice id 0 n 1 true) (.int k (i:Int))=some (.ptr id i):=by
 simp only [rX];rw [if_pos ⟨trivial,by omega,by simp;omega⟩];simp
theorem LJ(l:List ae)(x:ae):bT none (pcC (l++[x])) (l.length*3)=some (.int .u8 x.kind)∧bT none (pcC (l++[x])) (l.length*3+1)=some (.str x.text):=by
 have hl:=nC l;refine ⟨?_, ?_⟩
 ·simp only [bT,rL]
  rw [List.getElem?_append_right (by omega),hl,Nat.sub_self,Cs];rfl
 ·simp only [bT,rL]
  rw [List.getElem?_append_right (by omega),hl,show l.length*3+1-l.length*3=1 by omega,Cs];rfl
theorem LL(l:List ae)(x:ae)(s:Str):bn (pcC (l++[x])) (l.length*3+1) [.str s]=pcC (l++[{ x with text:=s }]):=by
 rw [setRow_cons,setRow_nil,rL,rL,List.set_append_right _ _ (by rw [nC];omega),nC,show l.length*3+1-l.length*3=1 by omega];rfl
end
section
attribute [local congr] aD bH aS aE aR aL aF au aw aM aN
variable{E:a8}(M:bY cC E)
theorem cl5:(∀ a b c d e:AV,bT none [a,b,c,d,e] 0=some a)∧(∀ a b c d e:AV,bT none [a,b,c,d,e] 1=some b)∧(∀ a b c d e:AV,bT none [a,b,c,d,e] 2=some c)∧(∀ a b c d e:AV,bT none [a,b,c,d,e] 3=some d)∧(∀ a b c d e:AV,bT none [a,b,c,d,e] 4=some e):=
 ⟨fun _ _ _ _ _=>rfl,fun _ _ _ _ _=>rfl,fun _ _ _ _ _=>rfl,fun _ _ _ _ _=>rfl,fun _ _ _ _ _=>rfl⟩
def Gv(o:Option Nat)(T L:List Nat):Option (List Nat×List Nat):=
 match o with
 |some id=>some (T,id::L)
 |none=>some (T,L)
def Oi(o:Option Nat)(T L:List Nat):Option (List Nat×List Nat):=
 match o with
 |some id=>some (id::T,L)
 |none=>none
theorem dyK:(∀ (a:Env) (g:Option Nat) (x:RX) (T L:List Nat),jo true .wide a (.ld g x) T L=Gv (lD (rx a x)) T L)∧(∀ (a:Env) (g:LK) (x:RX) (T L:List Nat),jo true .wide a (.len g x) T L=Gv (lD (rx a x)) T L) ∧
  (∀ (s:Bool) (a:Env) (n:Nat) (x v:RX) (T L:List Nat),jo s .keep a (.st n x v) T L=Oi (lD (rx a x)) T L)∧(∀ (s:Bool) (a:Env) (g:Option Nat) (x:RX) (T L:List Nat),jo s .quiet a (.ld g x) T L=some (T,L)) ∧
  (∀ i o,lD (.ptr i o)=some i)∧(∀ i o n e r,lD (.rslice i o n e r)=some i)∧(∀ t n r,lD (.slice t n r)=none)∧(∀ s,lD (.str s)=none)∧(∀ e r i o,lD (.vptr e r i o)=none)∧(∀ (id:Nat) (T L:List Nat),Gv (some id) T L=some (T,id::L))∧(∀ T L:List Nat,Gv none T L=some (T,L))∧(∀ (id:Nat) (T L:List Nat),Oi (some id) T L=some (id::T,L)):=
 ⟨fun _ _ _ _ _=>rfl,fun _ _ _ _ _=>rfl,fun _ _ _ _ _ _ _=>rfl,fun _ _ _ _ _ _=>rfl,fun _ _=>rfl,fun _ _ _ _ _=>rfl,fun _ _ _=>rfl,fun _=>rfl,fun _ _ _ _=>rfl,fun _ _ _=>rfl,fun _ _=>rfl,fun _ _ _=>rfl⟩
theorem Bj{T L:List Nat}(h:apart T L)(r:Option Out):lE cC T L r=r:=by
 unfold lE;rw [B3 h]
theorem JQ{a b c:Nat}(h1:c≠a)(h2:c≠b):apart [a,b] [c]:=fun x hx=>by
 rw [List.mem_singleton] at hx;subst hx;simp [h1,h2]
theorem JR{a c:Nat}(h1:c≠a):apart [a] [c]:=fun x hx=>by
 rw [List.mem_singleton] at hx;subst hx;simp [h1]
theorem JS{H:List AObj}{i j:Nat}{cs ds:List AV}{T T':TypeId}(h1:H[i]?=some (.cells cs T))(h2:H[j]?=some (.cells ds T'))(hT:T≠T'):i≠j:=fun e=>by
 subst e;rw [h1] at h2;injection h2 with h2;injection h2 with _ h3;exact hT h3
theorem D1{H:List AObj}{v:AV}{l:List ae}(h:PcV H v l){Q:Nat}(e:v = .rslice Q 0 l.length 3 true):∃ cs,H[Q]?=some (.cells cs ag):=by
 rcases h with ⟨_,h⟩ | ⟨_,Q',h1,h2⟩
 ·rw [h] at e;cases e
 ·rw [h1] at e;cases e;exact ⟨_,h2⟩
def StK(H H':List AObj):Prop:=∀ (O:Nat) (cs:List AV),H[O]?=some (AObj.cells cs aI)→H'[O]?=some (AObj.cells cs aI)
theorem tf.turned{R:Nat→Prop}{c:Nat}{H H2:List AObj}{S:CSt}{P q:Nat}{vs:List AV}{v w:AV}{ta:Tag}{ov:AV}(h:tf R c H S P q vs v ta ov){cur:List ae}
  (hlen:H.length≤H2.length) (hs:∀ i y,H[i]?=some y→(∀ Q,v = .rslice Q 0 S.cur.length 3 true→i≠Q)→i≠P→H2[i]?=some y)
  (hpar:H2[P]?=some (.cells (vs++[w]) ah)) (hw:PcV H2 w cur) (hwa:Gt q w) (hwf:free R w):tf R c H2 { S with cur:=cur } P q vs w ta ov∧Frm R H H2∧StK H H2:=by
 have hP:=h.par
 have nq:∀ (i:Nat) (cs:List AV) (T:TypeId),H[i]?=some (.cells cs T)→T≠ag→∀ Q,v = .rslice Q 0 S.cur.length 3 true→i≠Q:=fun i cs T hi hT Q e ei=>by
  obtain ⟨ds,hd⟩:=D1 h.cr e;subst ei;rw [hi] at hd;cases hd;exact hT rfl
 have np:∀ (i:Nat) (cs:List AV) (T:TypeId),H[i]?=some (.cells cs T)→T≠ah→i≠P:=fun i cs T hi hT ei=>by
  subst ei;rw [hi] at hP;cases hP;exact hT rfl
 have hlow:∀ i,R i→H2[i]?=H[i]? := fun i hi=>by
  have hin:=h.rl i hi;rw [List.getElem?_eq_getElem hin];refine hs i _ (List.getElem?_eq_getElem hin) (fun Q e ei => ?_) (fun e => ?_)
  ·exact h.pr Q _ _ _ _ e (ei ▸ hi)
  ·exact h.hP (e ▸ hi)
 refine ⟨⟨h.hn,h.hP,fun i hi=>Nat.lt_of_lt_of_le (h.rl i hi) hlen,hs c _ h.cell (nq c _ _ h.cell zp.symm) (np c _ _ h.cell Bh.symm),hpar,h.len,fun i w' l hi hl => ?_,hw,hwa,hwf,Nat.le_trans h.ql hlen,h.op.stay fun O cs hO=>hs O _ hO (nq O _ _ hO zq) (np O _ _ hO Gu),h.oa,h.tg⟩,⟨hlen,hlow,fun i s pos hi=>hs i _ hi (fun Q e ei => ?_) (fun e => ?_)⟩,fun O cs hO=>hs O _ hO (nq O _ _ hO zq) (np O _ _ hO Gu)⟩
 ·obtain ⟨h1,h2,h3⟩:=h.dn i w' l hi hl
  refine ⟨h1.stay fun Q cs e hQ=>hs Q _ hQ (fun Q' e' ei => ?_) (np Q _ _ hQ JP),h2,h3⟩;have a1:=h2 Q _ _ _ _ e;have a2:=h.ab Q' _ _ _ _ e';omega
 ·obtain ⟨ds,hd⟩:=D1 h.cr e
  subst ei;rw [hi] at hd;cases hd
 ·subst e;rw [hi] at hP;cases hP
theorem D2(p:ae):bN [] p=[p]:=rfl
theorem eI(l:List ae)(x p:ae):bN (l++[x]) p=sel (p.kind == 1&&x.kind == 1) (l++[{ x with text:=x.text++p.text }]) (l++[x]++[p]):=by
 unfold bN;rw [List.getLast?_concat,List.dropLast_concat]
theorem uu(hC:lB E){R:Nat→Prop}{c:Nat}{H:List AObj}{S:CSt}(hS:eU R c H S)(hd:S.done.length≤100000000)(hcu:S.cur.length≤100000000)(hct:∀ x∈S.cur,x.text.length≤100000000){p:ae}(hp:p.text.length≤100000000) :
  ∃ H',M.run bb [.ptr c 0,.agg p.row] H=some (.ret (.tuple []),H')∧eU R c H' { S with cur:=bN S.cur p }∧Frm R H H'∧StK H H':=by
 obtain ⟨P,q,vs,v,ta,ov,h⟩:=hS;obtain ⟨done,cur,pos,place,due,opn⟩:=S;dsimp only at hd hcu hct;have hvs:=h.len;dsimp only at hvs;have hc1:∀ X,(H++X)[c]?=_:=fun X=>dc h.cell
 have hp1:∀ X,(H++X)[P]?=_:=fun X=>dc h.par
 have hia:=rM (id:=P) (n:=done.length+1) (i:=done.length) (by omega) .i64
 have hld:bT none (vs++[v]) done.length=some v:=by
  simp only [bT];rw [← hvs,List.getElem?_append_right (Nat.le_refl _),Nat.sub_self];rfl
 have hw1:IntKind.i64.wrap (((done.length+1:Nat):Int)-1)=(done.length:Int):=by rw [b4 (by omega) (by omega)];omega
 have hln:=fun G=>Fw (G:=G) h.cr
 dsimp only at hln;have hcr:=h.cr;dsimp only at hcr;have hcr1:PcV (H++[.cells p.row ag]) v cur:=hcr.stay fun Q cs _ hQ=>dc hQ
 have more:bN cur p=cur++[p]→∀ k:Int,True→∃ w G,rap true (H++[.cells p.row ag]) ag 3 32 false v (.slice .full 3 [p.row])=some (w,G)∧(G[P]?=some (.cells (vs++[v]) ah)) ∧
   stO 1 G P done.length [w] (some (.cells (vs++[v]) ah))=some (G.set P (.cells (vs++[w]) ah))∧cu w=some [w]∧eU R c (G.set P (.cells (vs++[w]) ah)) ⟨done,bN cur p,pos,place,due,opn⟩∧Frm R H (G.set P (.cells (vs++[w]) ah))∧StK H (G.set P (.cells (vs++[w]) ah)):=fun hpf _ _=>by
  obtain ⟨G,a1,a2,a3,a4⟩:=MB hcr1 hcu p;have hPlt:=dy h.par;have hlen1:(H++[AObj.cells p.row ag]).length=H.length+1:=by simp
  rw [hlen1] at a1 a2 a3 a4
  have nQ:∀ Q,v = .rslice Q 0 cur.length 3 true→P≠Q:=fun Q e ei=>by
   obtain ⟨ds,hds⟩:=D1 hcr e;subst ei;rw [h.par] at hds;cases hds
  have gP:G[P]?=some (.cells (vs++[v]) ah):=by rw [a4 P (by omega) nQ];exact hp1 _
  refine ⟨_,G,a1,gP, ?_,rfl, ?_⟩
  ·rw [stO_cells (sz:=1) rfl (by simp;omega) rfl,setRow_cons,setRow_nil,← hvs,List.set_append_right _ _ (Nat.le_refl _),Nat.sub_self];rfl
  ·have:=h.turned (H2:=G.set P (.cells (vs++[.rslice (H.length+1) 0 (cur.length+1) 3 true]) ah)) (cur:=bN cur p) (w:=.rslice (H.length+1) 0 (cur.length+1) 3 true) (by simp;omega) (fun i y hi hne hiP=>by
    rw [List.getElem?_set_ne hiP.symm,a4 i (by have:=(List.getElem?_eq_some_iff.1 hi).1;omega) hne];exact dc hi) (List.getElem?_set_self (by omega)) (.inr ⟨by rw [hpf];simp,H.length+1,by rw [hpf];simp,by rw [List.getElem?_set_ne (by omega),a2,hpf]⟩) (fun Q o n e r eq=>by cases eq;have:=h.ql;omega) (fun Q o n e r eq hR=>by cases eq;have:=h.rl _ hR;omega)
   exact ⟨⟨P,q,vs,_,ta,ov,this.1⟩,this.2⟩
 have r1:∀ H,lT (some H)=some (dg,H):=fun _=>rfl
 have gx:=fun X=>bg H X
 have ncP:c≠P:=JS h.cell h.par Bh.symm
 have ncQ:∀ Q,v = .rslice Q 0 cur.length 3 true→c≠Q:=fun Q e ei=>by
  obtain ⟨ds,hds⟩:=D1 hcr e;exact JS h.cell hds zp.symm ei
 have ab:fx v=none∨∃ Q,fx v=some Q∧c≠Q:=by
  rcases hcr with ⟨_,rfl⟩ | ⟨_,Q,rfl,_⟩
  ·exact .inl rfl
  ·exact .inr ⟨Q,rfl,ncQ Q rfl⟩
 rcases (show cur=[]∨∃ l x,cur=l++[x] by
  rcases List.eq_nil_or_concat cur with h | ⟨l,x,h⟩
  ·exact .inl h
  ·exact .inr ⟨l,x,by simpa using h⟩) with rfl | ⟨l,x,rfl⟩
 ·obtain ⟨w,G,m1,m2,m3,m4,m5,m6⟩:=more rfl 0 trivial
  refine ⟨_, ?_,m5,m6⟩;have d0:decide ((0:Int)<((0:Nat):Int))=false:=rfl;rw [b9 M hC.docs_cutter_put rfl (c:=cG) rfl,cG]
  have ab0:fx v=none:=by
   rcases hcr with ⟨_,rfl⟩ | ⟨h,_⟩
   ·rfl
   ·exact absurd rfl h
  have aa:=Bj (JR ncP);cases hk:p.kind == 1<;>simp (maxSteps:=3000000) (maxDischargeDepth:=6) +contextual -implicitDefEqProofs only [amC M,↓amD,Nat.reduceBEq,Nat.reduceAdd,env,ak,iu,amG,AV.cell,Nat.reduceMul,Nat.reduceLeDiff,rnc,hc1,hp1,gx,cl5,hia,hld,hw1,hln,hk,d0,bh,List.getElem?_cons_zero,m1,m2,m3,m4,r1,dyK,amZ,ab0,aa]
 ·obtain ⟨⟨Q,e1,e2⟩⟩:Nonempty (∃ Q,v = .rslice Q 0 (l.length+1) 3 true∧H[Q]?=some (.cells (pcC (l++[x])) ag)):=by
   rcases hcr with ⟨h0,_⟩ | ⟨_,Q,h1,h2⟩
   ·simp at h0
   ·exact ⟨⟨Q,by simpa using h1,h2⟩⟩
  have hl:l.length≤100000000:=by simp at hcu;omega
  have hxt:=hct x (by simp);have d1:decide ((0:Int)<(((l++[x]).length:Nat):Int))=true:=decide_eq_true (by simp);have hw2:IntKind.i64.wrap ((((l++[x]).length:Nat):Int)-1)=(l.length:Int):=by rw [b4 (by simp) (by simp;omega)];simp
  have hiq:rX 3 v (.int .i64 (l.length:Int))=some (.ptr Q (l.length*3)):=by rw [e1];exact Nt (by omega) _
  have hQ1:∀ X,(H++X)[Q]?=_:=fun X=>dc e2
  obtain ⟨q1,q2⟩:=LJ l x;have ab1:fx v=some Q:=by rw [e1];rfl
  have aa:=Bj (JQ ncP (ncQ Q (by rw [e1];simp)));generalize hn:(l++[x]).length=n at d1 hw2 hln;cases hk:p.kind == 1 with
  |false=>
   obtain ⟨w,G,m1,m2,m3,m4,m5,m6⟩:=more (by rw [eI,hk];rfl) 0 trivial;refine ⟨_, ?_,m5,m6⟩;rw [b9 M hC.docs_cutter_put rfl (c:=cG) rfl,cG];simp (maxSteps:=3000000) (maxDischargeDepth:=6) +contextual -implicitDefEqProofs only [amC M,↓amD,Nat.reduceBEq,Nat.reduceAdd,env,ak,iu,amG,AV.cell,Nat.reduceMul,Nat.reduceLeDiff,rnc,hc1,hp1,gx,cl5,hia,hld,hw1,hln,hk,d1,bh,List.getElem?_cons_zero,m1,m2,m3,m4,r1,dyK,amZ,ab1,aa,Nat.add_zero]
  |true=>
   cases hx:x.kind == 1 with
   |false=>
    obtain ⟨w,G,m1,m2,m3,m4,m5,m6⟩:=more (by rw [eI,hk,hx];rfl) 0 trivial;refine ⟨_, ?_,m5,m6⟩;rw [b9 M hC.docs_cutter_put rfl (c:=cG) rfl,cG];simp (maxSteps:=3000000) (maxDischargeDepth:=6) +contextual -implicitDefEqProofs only [amC M,↓amD,Nat.reduceBEq,Nat.reduceAdd,env,ak,iu,amG,AV.cell,Nat.reduceMul,Nat.reduceLeDiff,rnc,hc1,hp1,gx,cl5,hia,hld,hw1,hln,hk,hx,d1,hw2,hiq,hQ1,q1,bh,List.getElem?_cons_zero,m1,m2,m3,m4,r1,dyK,amZ,ab1,aa,Nat.add_zero]
   |true=>
    have hpf:bN (l++[x]) p=l++[{ x with text:=x.text++p.text }]:=by rw [eI,hk,hx];rfl
    have ha:=Gm (s:=x.text) (t:=p.text) (by simp only [List.length_append] at *;omega);have hqlt:=dy e2
    have hst:stO 1 (H++[AObj.cells p.row ag]) Q (l.length*3+1) [.str (x.text++p.text)] (some (.cells (pcC (l++[x])) ag))=some ((H++[AObj.cells p.row ag]).set Q (AObj.cells (pcC (bN (l++[x]) p)) ag)):=by
     rw [stO_cells (sz:=1) rfl (by rw [nC];simp;omega) rfl,LL,hpf]
    have:=h.turned (H2:=(H++[AObj.cells p.row ag]).set Q (AObj.cells (pcC (bN (l++[x]) p)) ag)) (cur:=bN (l++[x]) p) (w:=v) (by simp) (fun i y hi hne hiP=>by
     rw [List.getElem?_set_ne (fun e=>hne Q (by rw [e1];simp) e.symm)];exact dc hi) (by rw [List.getElem?_set_ne (JS e2 h.par JP)];exact hp1 _) (.inr ⟨by rw [hpf];simp,Q,by rw [hpf,e1];simp,List.getElem?_set_self (by simp;omega)⟩) h.ab h.pr
    refine ⟨_, ?_,⟨P,q,vs,v,ta,ov,this.1⟩,this.2⟩;rw [b9 M hC.docs_cutter_put rfl (c:=cG) rfl,cG];simp (maxSteps:=3000000) (maxDischargeDepth:=6) +contextual -implicitDefEqProofs only [amC M,↓amD,Nat.reduceBEq,Nat.reduceAdd,env,ak,iu,amG,AV.cell,Nat.reduceMul,Nat.reduceLeDiff,rnc,hc1,hp1,gx,cl5,hia,hld,hw1,hln,hk,hx,d1,hw2,hiq,hQ1,q1,q2,ha,hst,bh,List.getElem?_cons_zero,r1,dyK,amZ,Nat.add_zero]
end
section
attribute [local congr] aD bH aS aE aR aL aF au aw aM aN
variable{E:a8}(M:bY cC E)
theorem rN{l:List ae}{p:ae}(h:(p.kind == 1)=false):bN l p=l++[p]:=by
 unfold bN;cases hl:l.getLast? with
 |none=>simp at hl;subst hl;rfl
 |some x=>dsimp only;rw [h];rfl
def fS(s:Str):ae:=⟨3,s,true⟩
def eG(s:Str):ae:=⟨2,s,true⟩
theorem Ct{H:List AObj}{v:AV}{l:List Str}(h:OpV H v l){i:Nat}{s:Str}(hi:l[i]?=some s):∃ O cs,rX 1 v (.int .i64 (i:Int))=some (.ptr O i)∧H[O]?=some (.cells cs aI)∧bT none cs i=some (.str s):=by
 rcases h with ⟨rfl,rfl⟩ | ⟨O,junk,rfl,h2⟩
 ·simp at hi
 ·have hlt:=(List.getElem?_eq_some_iff.1 hi).1
  refine ⟨O,_,rM hlt _,h2, ?_⟩;simp only [bT];rw [List.getElem?_append_left (by rw [fR];exact hlt),fX,List.getElem?_map,hi];rfl
theorem vv{H G:List AObj}{v:AV}{l:List Str}(h:OpV H v l):nF G .sl v=some (.int .i64 (l.length:Int)):=by
 rcases h with ⟨rfl,rfl⟩ | ⟨O,junk,rfl,_⟩<;>rfl
theorem tn0(hC:lB E){R:Nat→Prop}{c:Nat}{H0:List AObj}:∀ (n:Nat) (H:List AObj) (S:CSt),eU R c H S→n≤S.opn.length→S.opn.length≤100000→(∀ s∈S.opn,s.length≤100000000)→S.done.length≤100000000→S.cur.length+n≤100000000→(∀ x∈S.cur,x.text.length≤100000000) →
  ∃ H',(∀ (k:List Fra) (He:List AObj),M.go cR H0 (.c ee :: .lp ⟨(some [0,2]),[],false⟩ ee He :: .blk 0 :: .c (.lv [0])::k) (kv [(0,.ptr c 0),(2,.int .i64 ((n:Int)-1))]) H=M.go cR H0 k (kv [(0,.ptr c 0)]) H')∧eU R c H' { S with cur:=S.cur++((S.opn.take n).reverse.map fS) }∧Frm R H H'
 |0,H,S,hS,hn,ho,hol,hd,hcu,hct=>by
  refine ⟨H,fun k He => ?_,by simpa using hS,Frm.refl _ _⟩;have h0:decide ((0:Int)≤((0:Nat):Int)-1)=false:=rfl;rw [al M ee.eq_1];simp (maxSteps:=3000000) (maxDischargeDepth:=6) +contextual -implicitDefEqProofs only [amC M,↓amD,Nat.reduceBEq,Nat.reduceAdd,env,ak,eR,h0]
 |n+1,H,S,hS,hn,ho,hol,hd,hcu,hct=>by
  have hlt:n<S.opn.length:=by omega
  have hx:S.opn[n]?=some S.opn[n]:=List.getElem?_eq_getElem hlt;have hm:=List.getElem_mem hlt;obtain ⟨H1,p1,p2,p3,p4⟩:=uu M hC hS hd (by omega) hct (p:=fS S.opn[n]) (hol _ hm);rw [rN rfl] at p2
  obtain ⟨H2,i1,i2,i3⟩:=tn0 hC (H0:=H0) n H1 _ p2 (by dsimp only;omega) ho hol hd (by simp;omega) (fun x hx=>by
   rcases List.mem_append.1 hx with hx | hx
   ·exact hct x hx
   ·rw [List.mem_singleton] at hx;subst hx;exact hol _ hm)
  refine ⟨H2,fun k He => ?_, ?_,p3.trans i3⟩
  ·rw [← i1 k H1]
   obtain ⟨P,q,vs,v,ta,ov,h⟩:=hS;obtain ⟨O,cs,o1,o2,o3⟩:=Ct h.op hx;have hc:=h.cell;have e1:((n+1:Nat):Int)-1=(n:Int):=by omega
   have h0:decide ((0:Int)≤(n:Int))=true:=decide_eq_true (by omega);have hw1:IntKind.i64.wrap ((n:Int)-1)=(n:Int)-1:=b4 (by omega) (by omega);have hbd:M.run bb [.ptr c 0,.agg [.int .u8 3,.str S.opn[n],.bool true]] H=some (.ret (.tuple []),H1):=p1;rw [e1];rw [al M ee.eq_1];simp (maxSteps:=3000000) (maxDischargeDepth:=6) +contextual -implicitDefEqProofs only [amC M,↓amD,Nat.reduceBEq,Nat.reduceAdd,env,ak,eR,amG,AV.cell,Nat.reduceMul,Nat.reduceLeDiff,rnc,h0,hw1,hc,cl5,o1,o2,o3,hbd]
  ·have e:(S.opn.take (n+1)).reverse.map fS=fS S.opn[n]::(S.opn.take n).reverse.map fS:=by rw [List.take_add_one,hx];rw [Option.toList_some,List.reverse_append,List.map_append];rfl
   rw [e];simpa using i2
theorem tn1(hC:lB E){R:Nat→Prop}{c:Nat}{H0:List AObj}{ov:AV}:∀ (n i:Nat) (H:List AObj) (S:CSt),eU R c H S→OpV H ov S.opn→i+n=S.opn.length→S.opn.length≤100000→(∀ s∈S.opn,s.length≤100000000)→S.done.length≤100000000→S.cur.length+n≤100000000→(∀ x∈S.cur,x.text.length≤100000000) →
  ∃ H',(∀ (k:List Fra) (He:List AObj),M.go cR H0 (.c eh :: .lp ⟨(some [0,37,38,39]),[],false⟩ eh He :: .blk 2 :: .c (.lv [0])::k) (kv [(0,.ptr c 0),(37,ov),(38,.int .i64 S.opn.length),(39,.int .i64 i)]) H=M.go cR H0 k (kv [(0,.ptr c 0)]) H')∧eU R c H' { S with cur:=S.cur++((S.opn.drop i).map eG) }∧Frm R H H'
 |0,i,H,S,hS,ho,hn,hol,hot,hd,hcu,hct=>by
  have e:i=S.opn.length:=by omega
  subst e;refine ⟨H,fun k He => ?_,by rw [List.drop_length];simpa using hS,Frm.refl _ _⟩;rw [al M eh.eq_1];simp (maxSteps:=3000000) (maxDischargeDepth:=6) +contextual -implicitDefEqProofs only [amC M,↓amD,Nat.reduceBEq,Nat.reduceAdd,env,ak,eR,Nat.lt_irrefl]
 |n+1,i,H,S,hS,ho,hn,hol,hot,hd,hcu,hct=>by
  have hlt:i<S.opn.length:=by omega
  have hx:S.opn[i]?=some S.opn[i]:=List.getElem?_eq_getElem hlt;have hm:=List.getElem_mem hlt;obtain ⟨H1,p1,p2,p3,p4⟩:=uu M hC hS hd (by omega) hct (p:=eG S.opn[i]) (hot _ hm);rw [rN rfl] at p2
  obtain ⟨H2,i1,i2,i3⟩:=tn1 hC (H0:=H0) n (i+1) H1 _ p2 (ho.stay p4) (by dsimp only;omega) hol hot hd (by simp;omega) (fun x hx=>by
   rcases List.mem_append.1 hx with hx | hx
   ·exact hct x hx
   ·rw [List.mem_singleton] at hx;subst hx;exact hot _ hm)
  refine ⟨H2,fun k He => ?_, ?_,p3.trans i3⟩
  ·rw [← i1 k H1]
   obtain ⟨O,cs,o1,o2,o3⟩:=Ct ho hx;have hw1:=dO (n:=S.opn.length) hlt (by simp only [ca];omega);have hbd:M.run bb [.ptr c 0,.agg [.int .u8 2,.str S.opn[i],.bool true]] H=some (.ret (.tuple []),H1):=p1;rw [al M eh.eq_1];simp (maxSteps:=3000000) (maxDischargeDepth:=6) +contextual -implicitDefEqProofs only [amC M,↓amD,Nat.reduceBEq,Nat.reduceAdd,env,ak,eR,amG,AV.cell,Nat.reduceMul,Nat.reduceLeDiff,rnc,hlt,hw1,o1,o2,o3,hbd]
  ·rw [List.drop_eq_getElem_cons hlt,List.map_cons]
   simpa using i2
theorem Nu{G:List AObj}{P R m:Nat}{vs:List AV}{v:AV}{T:TypeId}(hvs:vs.length=m)(hv:v.cell=true)(hP:G[P]?=some (.cells (vs++[v]) ah))(hR:G[R]?=some (.cells [.slice .nil 3 []] T))(hm:m≤100000000) :
  rap true G ah 1 24 false (.rslice P 0 (m+1) 1 true) (.rslice R 0 1 1 true)=some (.rslice G.length 0 (m+1+1) 1 true,G.set P .dead++[.cells (vs++[v]++[.slice .nil 3 []]) ah]):=by
 have hs:mF G 1 false (.rslice R 0 1 1 true)=some [[.slice .nil 3 []]]:=by
  simp only [mF,hR];rw [if_pos ⟨trivial,by simp⟩];rfl
 simp only [rap,kE,hs,hP];rw [if_pos (show lC 1 [[AV.slice .nil 3 []]]=true from rfl),if_pos ⟨trivial,trivial,by simp;omega,by simp;omega,by simp;omega⟩,List.take_of_length_le (by simp;omega)];rfl
theorem tf.upd{R:Nat→Prop}{c:Nat}{H:List AObj}{S:CSt}{P q:Nat}{vs:List AV}{v:AV}{ta:Tag}{ov:AV}(h:tf R c H S P q vs v ta ov)(pos:List Int)(place:Nat)(due:Bool)(opn:List Str)(ta':Tag)(ov':AV)(ho:OpV H ov' opn)(ha:free R ov')(ht:ta' = .any∨ta' = .some∨pos=[]∨∃ t,ta' = .own t) :
  tf R c (H.set c (.cells [.rslice P 0 (S.done.length+1) 1 true,.slice ta' 1 (pos.map bt),.int .i64 place,.bool due,ov'] aK)) { S with pos:=pos,place:=place,due:=due,opn:=opn } P q vs v ta' ov'∧Frm R H (H.set c (.cells [.rslice P 0 (S.done.length+1) 1 true,.slice ta' 1 (pos.map bt),.int .i64 place,.bool due,ov'] aK)) ∧
   StK H (H.set c (.cells [.rslice P 0 (S.done.length+1) 1 true,.slice ta' 1 (pos.map bt),.int .i64 place,.bool due,ov'] aK)):=
 ⟨⟨h.hn,h.hP,fun i hi=>by simpa using h.rl i hi,List.getElem?_set_self (dy h.cell),fh h.cell Bh h.par,h.len,fun i w l hi hl=>⟨(h.dn i w l hi hl).1.stay fun Q cs _ hQ=>fh h.cell zp hQ,(h.dn i w l hi hl).2⟩,h.cr.stay fun Q cs _ hQ=>fh h.cell zp hQ,h.ab,h.pr,by simpa using h.ql,ho.stay fun O cs hO=>fh h.cell Bg hO,ha,ht⟩,Frm.set _ h.hn h.cell,fun O cs hO=>fh h.cell Bg hO⟩
def nD(S:CSt):CSt := { S with done:=S.done++[S.cur++S.opn.reverse.map fS],cur:=S.opn.map eG,due:=false }
theorem JT(hC:lB E){R:Nat→Prop}{c:Nat}{H:List AObj}{S:CSt}(hS:eU R c H S)(ho:S.opn.length≤100000)(hot:∀ s∈S.opn,s.length≤100000000)(hd:S.done.length≤100000)(hcu:S.cur.length≤100000)(hct:∀ x∈S.cur,x.text.length≤100000000) :
  ∃ H',M.run cL [.ptr c 0] H=some (.ret (.tuple []),H')∧eU R c H' (nD S)∧Frm R H H':=by
 obtain ⟨H1,e1,s1,f1⟩:=tn0 M hC (R:=R) (c:=c) (H0:=H) S.opn.length H S hS (Nat.le_refl _) ho hot (by omega) (by omega) hct;obtain ⟨P0,q0,vs0,v0,ta0,ov0,h0⟩:=hS;obtain ⟨P,q,vs,v,ta,ov,h⟩:=s1;rw [List.take_length] at h;have hvs:=h.len;dsimp only at hvs;have hcl:=dy h.cell;have hpl:=dy h.par;have hc1:∀ X,(H1++X)[c]?=_:=fun X=>dc h.cell
 have hr1:∀ x:AObj,(H1++[x])[H1.length]?=some x:=fun x=>bg H1 [x]
 have app:=fun X=>Nu (G:=H1++[AObj.cells [.slice .nil 3 []] X]) (P:=P) (R:=H1.length) (m:=S.done.length) hvs (D0 h.cr).1 (dc h.par) (hr1 _) (by omega)
 obtain ⟨G,hG⟩:∃ G,G=(H1++[AObj.cells [.slice .nil 3 []] ah]).set P .dead++[AObj.cells (vs++[v]++[.slice .nil 3 []]) ah]:=⟨_,rfl⟩
 have gL:G.length=H1.length+2:=by rw [hG];simp
 have gK:∀ (i:Nat) (cs:List AV) (T:TypeId),H1[i]?=some (.cells cs T)→T≠ah→G[i]?=some (.cells cs T):=fun i cs T hi hT=>by
  have hlt:=dy hi;rw [hG,List.getElem?_append_left (by simp;omega),List.getElem?_set_ne (JS h.par hi hT.symm)];exact dc hi
 have gP:G[H1.length+1]?=some (.cells (vs++[v]++[.slice .nil 3 []]) ah):=by
  rw [hG,List.getElem?_append_right (by simp)];simp
 have gF:Frm R H1 G:=⟨by omega,fun i hi=>by
  have hlt:=h.rl i hi;rw [hG,List.getElem?_append_left (by simp;omega),List.getElem?_set_ne (fun e:P=i=>h.hP (by rw [e];exact hi)),List.getElem?_append_left hlt],fun i s pos hi=>by
  have hlt:=(List.getElem?_eq_some_iff.1 hi).1;rw [hG,List.getElem?_append_left (by simp;omega),List.getElem?_set_ne (fun e=>by subst e;rw [h.par] at hi;cases hi),List.getElem?_append_left hlt];exact hi⟩
 have gc:=gK c _ _ h.cell Bh.symm;have app1:=app ah;rw [← hG] at app1;simp only [List.length_append,List.length_cons,List.length_nil,Nat.zero_add] at app1
 have w2:tf R c (G.set c (.cells [.rslice (H1.length+1) 0 (S.done.length+1+1) 1 true,.slice ta 1 (S.pos.map bt),.int .i64 S.place,.bool S.due,ov] aK)) { S with done:=S.done++[S.cur++S.opn.reverse.map fS],cur:=[] } (H1.length+1) H1.length (vs++[v]) (.slice .nil 3 []) ta ov:=by
  have gp:∀ (w:AV) (l:List ae),PcV H1 w l→PcV (G.set c (.cells [.rslice (H1.length+1) 0 (S.done.length+1+1) 1 true,.slice ta 1 (S.pos.map bt),.int .i64 S.place,.bool S.due,ov] aK)) w l:=fun w l hw=>hw.stay fun Q cs _ hQ=>fh gc zp (gK Q _ _ hQ JP)
  refine ⟨h.hn,fun hR=>by have:=h.rl _ hR;omega,fun i hi=>by have:=h.rl i hi;simp;omega,by rw [List.getElem?_set_self (by omega)];simp,fh gc Bh gP,by simp [hvs],fun i w l hi hl => ?_,.inl ⟨rfl,rfl⟩,fun Q o n e r eq=>(by cases eq),fun Q o n e r eq=>(by cases eq),by simp;omega,h.op.stay fun O cs hO=>fh gc Bg (gK O _ _ hO Gu),h.oa,h.tg⟩
  by_cases hlt:i<vs.length
  ·rw [List.getElem?_append_left hlt] at hi
   rw [List.getElem?_append_left (by omega)] at hl;obtain ⟨d1,d2,d3⟩:=h.dn i w l hi hl;exact ⟨gp w l d1,fun Q o n e r eq=>Nat.lt_of_lt_of_le (d2 Q o n e r eq) h.ql,d3⟩
  ·have hi2:i=vs.length:=by
    have:=(List.getElem?_eq_some_iff.1 hi).1;simp at this;omega
   subst hi2;rw [List.getElem?_append_right (Nat.le_refl _),Nat.sub_self,List.getElem?_cons_zero] at hi;rw [List.getElem?_append_right (by omega),show vs.length-S.done.length=0 by omega,List.getElem?_cons_zero] at hl;cases hi;cases hl;refine ⟨gp v _ h.cr,fun Q o n e r eq => ?_,h.pr⟩;rcases h.cr with ⟨_,hv⟩ | ⟨_,Q',hv,hQ⟩
   ·rw [hv] at eq;cases eq
   ·rw [hv] at eq;cases eq;exact dy hQ
 have f2:Frm R G (G.set c (.cells [.rslice (H1.length+1) 0 (S.done.length+1+1) 1 true,.slice ta 1 (S.pos.map bt),.int .i64 S.place,.bool S.due,ov] aK)):=Frm.set _ h.hn gc;obtain ⟨G2,hG2⟩:∃ G2,G2=G.set c (.cells [.rslice (H1.length+1) 0 (S.done.length+1+1) 1 true,.slice ta 1 (S.pos.map bt),.int .i64 S.place,.bool S.due,ov] aK):=⟨_,rfl⟩
 rw [← hG2] at w2 f2;obtain ⟨H3,e3,s3,f3⟩:=tn1 M hC (R:=R) (c:=c) (H0:=H) (ov:=ov) S.opn.length 0 G2 _ ⟨_,_,_,_,_,_,w2⟩ w2.op (by dsimp only;omega) ho hot (by simp;omega) (by simp;omega) (fun x hx=>by cases hx);obtain ⟨P4,q4,vs4,v4,ta4,ov4,h4⟩:=s3;have u4:=h4.upd S.pos S.place false S.opn ta4 ov4 h4.op h4.oa h4.tg;refine ⟨_, ?_,⟨P4,q4,vs4,v4,ta4,ov4, ?_⟩,(((f1.trans gF).trans f2).trans f3).trans u4.2.1⟩
 ·have hln0:=fun G=>vv (G:=G) h0.op
  have hln2:=fun G=>vv (G:=G) w2.op
  dsimp only at hln2;have hw1:IntKind.i64.wrap ((S.opn.length:Int)-1)=(S.opn.length:Int)-1:=b4 (by omega) (by omega);have hc0:=h0.cell;have hc2:=w2.cell;have hc4:=h4.cell;have hc10:=h.cell;have r1:∀ H,lT (some H)=some (dg,H):=fun _=>rfl
  have st5:∀ (a b c0 d e x:AV),bn [a,b,c0,d,e] 0 [x]=[x,b,c0,d,e]∧bn [a,b,c0,d,e] 3 [x]=[a,b,c0,x,e]:=fun _ _ _ _ _ _=>⟨rfl,rfl⟩
  have so1:=stO_cells (sz:=1) (H:=G) (id:=c) (off:=0) (cs:=[.rslice (H1.length+1) 0 (S.done.length+1+1) 1 true]) (T:=aK) (old:=[.rslice P 0 (S.done.length+1) 1 true,.slice ta 1 (S.pos.map bt),.int .i64 S.place,.bool S.due,ov]) rfl (by simp) rfl;have so2:=stO_cells (sz:=1) (H:=H3) (id:=c) (off:=3) (cs:=[.bool false]) (T:=aK) (old:=[.rslice P4 0 ((S.done++[S.cur++S.opn.reverse.map fS]).length+1) 1 true,.slice ta4 1 (S.pos.map bt),.int .i64 S.place,.bool S.due,ov4]) rfl (by simp) rfl
  simp only [(st5 _ _ _ _ _ _).1,(st5 _ _ _ _ _ _).2,← hG2] at so1 so2;simp only [kv_cons,kv_nil,Int.ofNat_zero] at e1 e3;dsimp only at hc1 hc10 gc hc2 hc4 e3;rw [b9 M hC.docs_cutter_turn rfl (c:=jB) rfl,jB];simp (maxSteps:=3000000) (maxDischargeDepth:=6) +contextual -implicitDefEqProofs only [amC M,↓amD,Nat.reduceBEq,Nat.reduceAdd,env,ak,eR,amG,AV.cell,Nat.reduceMul,Nat.reduceLeDiff,rnc,hc0,cl5,hln0,hw1,e1,hc10,hc1,gc,app1,so1,hG2.symm,hc2,hln2,e3,hc4,so2,r1]
 ·have:=u4.1
  simpa [nD] using this
end
section
attribute [local congr] aD bH aS aE aR aL aF au aw aM aN
variable{E:a8}(M:bY cC E)
theorem tf.app{R:Nat→Prop}{c:Nat}{H:List AObj}{S:CSt}{P q:Nat}{vs:List AV}{v:AV}{ta:Tag}{ov:AV}(h:tf R c H S P q vs v ta ov)(X:List AObj):tf R c (H++X) S P q vs v ta ov:=
 ⟨h.hn,h.hP,fun i hi=>by have:=h.rl i hi;simp;omega,dc h.cell,dc h.par,h.len,fun i w l hi hl=>⟨(h.dn i w l hi hl).1.stay fun Q cs _ hQ=>dc hQ,(h.dn i w l hi hl).2⟩,h.cr.stay fun Q cs _ hQ=>dc hQ,h.ab,h.pr,by have:=h.ql;simp;omega,h.op.stay fun O cs hO=>dc hO,h.oa,h.tg⟩
theorem eU.app{R:Nat→Prop}{c:Nat}{H:List AObj}{S:CSt}(h:eU R c H S)(X:List AObj):eU R c (H++X) S:=by
 obtain ⟨P,q,vs,v,ta,ov,h⟩:=h;exact ⟨P,q,vs,v,ta,ov,h.app X⟩
theorem eU.le{R:Nat→Prop}{c:Nat}{H:List AObj}{S:CSt}(h:eU R c H S):c<H.length∧∀ i,R i→i<H.length:=by
 obtain ⟨P,q,vs,v,ta,ov,h⟩:=h;exact ⟨dy h.cell,h.rl⟩
theorem MC{R:Nat→Prop}{G:List AObj}{v:AV}{l:List Str}(h:OpV G v l)(ha:free R v)(hn:∀ i,R i→i<G.length)(hl:l.length≤100000000)(s:Str) :
  ∃ v' G',rap true G aI 1 16 false v (.slice .full 1 [[.str s]])=some (v',G')∧OpV G' v' (l++[s])∧free R v'∧v'.cell=true∧cu v'=some [v']∧Frm R G G'∧∀ (i:Nat) (cs:List AV) (T:TypeId),G[i]?=some (AObj.cells cs T)→T≠aI→G'[i]?=some (AObj.cells cs T):=by
 rcases h with ⟨rfl,rfl⟩ | ⟨O,junk,rfl,hg⟩
 ·refine ⟨.rslice G.length 0 1 1 true,G++[.cells [.str s] aI], ?_,.inr ⟨G.length,[],rfl,by rw [bg];rfl⟩,fun Q o n e r eq hR=>(by cases eq;have:=hn _ hR;omega),rfl,rfl,Frm.app _ _ hn,fun i cs T hi _=>dc hi⟩
  simp only [rap,kE,mF,or_true,if_true,iS];rw [if_pos (by simp)];rfl
 ·have hlt:=dy hg
  have hO:=ha O _ _ _ _ rfl;have hlen:l.length*1≤(fX l++junk).length:=by rw [List.length_append,fR];omega
  refine ⟨.rslice G.length 0 (l.length+1) 1 true,G.set O .dead++[.cells (fX (l++[s])) aI], ?_,.inr ⟨G.length,[],by simp, ?_⟩,fun Q o n e r eq hR=>(by cases eq;have:=hn _ hR;omega),rfl,rfl,⟨by simp,fun i hi => ?_,fun i s pos hi => ?_⟩,fun i cs T hi hT => ?_⟩
  ·simp only [rap,kE,mF,or_true,if_true,iS,hg]
   rw [if_pos ⟨trivial,trivial,hlen,by simp;omega,by simp;omega⟩];simp only [Nat.mul_one];rw [List.take_left' (by rw [fR]),rq];rfl
  ·rw [List.append_nil,show G.length=(G.set O .dead).length by simp,bg];rfl
  ·have:=hn i hi
   rw [List.getElem?_append_left (by simp;omega),List.getElem?_set_ne (fun e:O=i=>hO (by rw [e];exact hi))]
  ·have:=(List.getElem?_eq_some_iff.1 hi).1
   rw [List.getElem?_append_left (by simp;omega),List.getElem?_set_ne (fun e=>by subst e;rw [hg] at hi;cases hi)];exact hi
  ·have:=dy hi
   rw [List.getElem?_append_left (by simp;omega),List.getElem?_set_ne (JS hg hi hT.symm)];exact hi
theorem Nv{G:List AObj}{v:AV}{l:List Str}{s:Str}(h:OpV G v (l++[s])){R:Nat→Prop}(ha:free R v):∃ v',uQ 1 v none (some (.int .i64 (l.length:Int))) none=some v'∧OpV G v' l∧free R v'∧v'.cell=true∧cu v'=some [v']:=by
 rcases h with ⟨h,_⟩ | ⟨O,junk,rfl,hg⟩
 ·simp at h
 ·refine ⟨.rslice O 0 l.length 1 true, ?_,.inr ⟨O,.str s::junk,rfl,by rw [hg,rq,List.append_assoc];rfl⟩,fun Q o n e r eq=>(by cases eq;exact ha O _ _ _ _ rfl),rfl,rfl⟩
  have h1:cJ (some (.int .i64 (l.length:Int))) (l++[s]).length=some l.length:=by simp [cJ]
  simp only [uQ,h1,(show cJ none 0=some 0 from rfl)];cases l with
  |nil=>rfl
  |cons y t=>rw [if_pos (by simp)];simp
def jG(S:CSt)(p:ae):CSt:=sel (S.due && !(p.kind == 3)) (nD S) S
def cY(l:List Str)(p:ae):List Str:=sel (p.kind == 2) (l++[p.text]) (sel (p.kind == 3) l.dropLast l)
def Cu(S:CSt)(p:ae):CSt := { jG S p with opn:=cY (jG S p).opn p,cur:=bN (jG S p).cur p }
structure CBd (S:CSt):Prop where
 opn:S.opn.length≤100000
 opt:∀ s∈S.opn,s.length≤100000000
 done:S.done.length≤100000
 cur:S.cur.length≤100000
 txt:∀ x∈S.cur,x.text.length≤100000000
theorem D3(S:CSt)(p:ae):(jG S p).opn=S.opn:=by unfold jG;cases S.due && !(p.kind == 3)<;>rfl
theorem Gw{S:CSt}(h:CBd S)(p:ae):(jG S p).done.length≤100000000∧(jG S p).cur.length≤100000000∧∀ x∈(jG S p).cur,x.text.length≤100000000:=by
 have h1:=h.opn;have h2:=h.done;have h3:=h.cur;unfold jG;cases S.due && !(p.kind == 3) with
 |false=>exact ⟨by rw [sel_false];omega,by rw [sel_false];omega,by rw [sel_false];exact h.txt⟩
 |true=>
  rw [sel_true];refine ⟨by simp [nD];omega,by simp [nD];omega,fun x hx => ?_⟩;obtain ⟨s,hs,rfl⟩:=List.mem_map.1 (show x∈S.opn.map eG from hx);exact h.opt s hs
def R1(R:Nat→Prop)(k:Nat):Nat→Prop:=fun i=>R i∨i=k
theorem eU.more{R:Nat→Prop}{c:Nat}{H:List AObj}{S:CSt}(h:eU R c H S)(x:AObj):eU (R1 R H.length) c (H++[x]) S:=by
 obtain ⟨P,q,vs,v,ta,ov,h⟩:=h;have h2:=h.app [x]
 have fr:∀ (w:AV) (l:List ae),PcV H w l→free R w→free (R1 R H.length) w:=fun w l hp hf Q o n e r eq hR=>by
  rcases hR with hR | hR
  ·exact hf Q o n e r eq hR
  ·rcases hp with ⟨_,hv⟩ | ⟨_,Q',hv,hQ⟩
   ·rw [hv] at eq;cases eq
   ·rw [hv] at eq;cases eq;have:=dy hQ;omega
 refine ⟨P,q,vs,v,ta,ov,⟨fun hR => ?_,fun hR => ?_,fun i hi => ?_,h2.cell,h2.par,h2.len,fun i w l hi hl=>⟨(h2.dn i w l hi hl).1,(h2.dn i w l hi hl).2.1,fr w l (h.dn i w l hi hl).1 (h.dn i w l hi hl).2.2⟩,h2.cr,h2.ab,fr v _ h.cr h.pr,h2.ql,h2.op,fun Q o n e r eq hR => ?_,h2.tg⟩⟩
 ·rcases hR with hR | hR
  ·exact h.hn hR
  ·have:=dy h.cell;omega
 ·rcases hR with hR | hR
  ·exact h.hP hR
  ·have:=dy h.par;omega
 ·rcases hi with hi | hi
  ·have:=h.rl i hi;simp;omega
  ·simp;omega
 ·rcases hR with hR | hR
  ·exact h.oa Q o n e r eq hR
  ·rcases h.op with ⟨_,hv⟩ | ⟨O,junk,hv,hO⟩
   ·rw [hv] at eq;cases eq
   ·rw [hv] at eq;cases eq;have:=dy hO;omega
theorem eU.mono{R R':Nat→Prop}{c:Nat}{H:List AObj}{S:CSt}(h:eU R c H S)(hr:∀ i,R' i→R i):eU R' c H S:=by
 obtain ⟨P,q,vs,v,ta,ov,h⟩:=h;exact ⟨P,q,vs,v,ta,ov,⟨fun hR=>h.hn (hr _ hR),fun hR=>h.hP (hr _ hR),fun i hi=>h.rl i (hr i hi),h.cell,h.par,h.len,fun i w l hi hl=>⟨(h.dn i w l hi hl).1,(h.dn i w l hi hl).2.1,fun Q o n e r eq hR=>(h.dn i w l hi hl).2.2 Q o n e r eq (hr _ hR)⟩,h.cr,h.ab,fun Q o n e r eq hR=>h.pr Q o n e r eq (hr _ hR),h.ql,h.op,fun Q o n e r eq hR=>h.oa Q o n e r eq (hr _ hR),h.tg⟩⟩
theorem tf.upo{R:Nat→Prop}{c:Nat}{H G:List AObj}{S:CSt}{P q:Nat}{vs:List AV}{v:AV}{ta:Tag}{ov:AV}(h:tf R c H S P q vs v ta ov)(f:Frm R H G)(hT:∀ (i:Nat) (cs:List AV) (T:TypeId),H[i]?=some (AObj.cells cs T)→T≠aI→G[i]?=some (AObj.cells cs T))(ov':AV)(opn:List Str)(ho:OpV G ov' opn)(ha:free R ov') :
  tf R c (G.set c (.cells [.rslice P 0 (S.done.length+1) 1 true,.slice ta 1 (S.pos.map bt),.int .i64 S.place,.bool S.due,ov'] aK)) { S with opn:=opn } P q vs v ta ov'∧Frm R G (G.set c (.cells [.rslice P 0 (S.done.length+1) 1 true,.slice ta 1 (S.pos.map bt),.int .i64 S.place,.bool S.due,ov'] aK))∧True:=by
 have gc:=hT c _ _ h.cell Bg.symm;exact ⟨⟨h.hn,h.hP,fun i hi=>by have:=h.rl i hi;have:=f.len;simp;omega,List.getElem?_set_self (dy gc),fh gc Bh (hT P _ _ h.par Gu.symm),h.len,fun i w l hi hl=>⟨(h.dn i w l hi hl).1.stay fun Q cs _ hQ=>fh gc zp (hT Q _ _ hQ zq.symm),(h.dn i w l hi hl).2⟩,h.cr.stay fun Q cs _ hQ=>fh gc zp (hT Q _ _ hQ zq.symm),h.ab,h.pr,by have:=h.ql;have:=f.len;simp;omega,ho.stay fun O cs hO=>fh gc Bg hO,ha,h.tg⟩,Frm.set _ h.hn gc,trivial⟩
theorem D4(hC:lB E){R:Nat→Prop}{c:Nat}{H:List AObj}{S:CSt}(hS:eU R c H S)(hB:CBd S) :
  ∃ H',M.run cL [.ptr c 0] H=some (.ret (.tuple []),H')∧eU R c H' (nD S)∧Frm R H H':=JT M hC hS (by have:=hB.opn;omega) hB.opt hB.done hB.cur hB.txt
theorem JU{R:Nat→Prop}{c:Nat}{H:List AObj}{S:CSt}(h:eU R c H S):∃ cs,H[c]?=some (.cells cs aK)∧bT none cs 3=some (.bool S.due):=by
 obtain ⟨P,q,vs,v,ta,ov,h⟩:=h;exact ⟨_,h.cell,rfl⟩
theorem LM(hC:lB E){R:Nat→Prop}{c:Nat}{H:List AObj}{S:CSt}(hS:eU R c H S)(hB:CBd S){p:ae}(hp:p.text.length≤100000000)(hop:(p.kind == 3)=true→S.opn≠[]) :
  ∃ H',M.run iq [.ptr c 0,.agg p.row] H=some (.ret (.tuple []),H')∧eU R c H' (Cu S p)∧Frm R H H':=by
 have h23:(p.kind == 3)=true→(p.kind == 2)=false:=fun h=>by rw [eq_of_beq h];rfl
 obtain ⟨l1,l2⟩:=hS.le;have h0:=hS.more (.cells p.row ag);have f0:Frm R H (H++[AObj.cells p.row ag]):=Frm.app _ _ l2;obtain ⟨b1,b2,b3⟩:=Gw hB p;have hcR:∀ i,R i→R1 R H.length i:=fun i hi=>.inl hi
 have r1:∀ H,lT (some H)=some (dg,H):=fun _=>rfl
 have st5:∀ (a b c0 d e x:AV),bn [a,b,c0,d,e] 4 [x]=[a,b,c0,d,x]:=fun _ _ _ _ _ _=>rfl
 obtain ⟨cs0,g0,g0d⟩:=JU h0;have hopn:=D3 S p;have hpo:=hB.opn;have gx:=bg H [AObj.cells p.row ag];rw [List.getElem?_cons_zero] at gx
 obtain ⟨H1,c1,c2,c3⟩:∃ H1,eU (R1 R H.length) c H1 (jG S p)∧Frm (R1 R H.length) (H++[AObj.cells p.row ag]) H1∧sel (S.due && !(p.kind == 3)) (M.run cL [.ptr c 0] (H++[AObj.cells p.row ag])=some (.ret (.tuple []),H1)) (H1=H++[AObj.cells p.row ag]):=by
  cases hd:S.due && !(p.kind == 3) with
  |false=>exact ⟨_,by unfold jG;rw [hd];exact h0,Frm.refl _ _,rfl⟩
  |true=>
   obtain ⟨H1,t1,t2,t3⟩:=D4 M hC h0 hB;exact ⟨H1,by unfold jG;rw [hd];exact t2,t3,t1⟩
 have hx1:H1[H.length]?=some (.cells p.row ag):=by rw [c2.low _ (.inr rfl),bg];rfl
 have e1:(S.due && !(p.kind == 3))=false→jG S p=S:=fun h=>by unfold jG;rw [h];rfl
 rw [show Cu S p = { jG S p with opn:=cY (jG S p).opn p,cur:=bN (jG S p).cur p } from rfl];generalize jG S p=S1 at *
 obtain ⟨P,q,vs,v,ta,ov,h1⟩:=c1;have hw1:IntKind.i64.wrap ((S.opn.length:Int)-1)=(S.opn.length:Int)-1:=b4 (by omega) (by omega);have hcl:=h1.cell
 have last:∀ {H2:List AObj}{S2:CSt},eU (R1 R H.length) c H2 S2→Frm (R1 R H.length) H1 H2→S2.done=S1.done→S2.cur=S1.cur→∃ H3,M.run bb [.ptr c 0,.agg p.row] H2=some (.ret (.tuple []),H3)∧eU R c H3 { S2 with cur:=bN S2.cur p }∧Frm R H H3∧H2[H.length]?=some (.cells p.row ag):=fun {H2 S2} w f e1 e2=>by
  obtain ⟨H3,p1,p2,p3,_⟩:=uu M hC w (by rw [e1];exact b1) (by rw [e2];exact b2) (by rw [e2];exact b3) hp;exact ⟨H3,p1,p2.mono hcR,((f0.trans (c2.mono hcR)).trans (f.mono hcR)).trans (p3.mono hcR),by rw [f.low _ (.inr rfl)];exact hx1⟩
 cases k2:p.kind == 2 with
 |true=>
  have k3:(p.kind == 3)=false:=by rw [eq_of_beq k2];rfl
  obtain ⟨ov',G,a1,a2,a3,a4,a5,a6,a7⟩:=MC h1.op h1.oa h1.rl (by rw [hopn];omega) p.text;have gc:=a7 c _ _ h1.cell Bg.symm;have so:=stO_cells (sz:=1) (H:=G) (id:=c) (off:=4) (cs:=[ov']) (T:=aK) (old:=[.rslice P 0 (S1.done.length+1) 1 true,.slice ta 1 (S1.pos.map bt),.int .i64 S1.place,.bool S1.due,ov]) rfl (by simp) (by simp [a4]);simp only [st5] at so;obtain ⟨u1,u2,_⟩:=tf.upo (h:=h1) a6 a7 ov' (S1.opn++[p.text]) a2 a3
  obtain ⟨H3,q1,q2,q3,q4⟩:=last ⟨P,q,vs,v,ta,ov',u1⟩ (a6.trans u2) rfl rfl;refine ⟨H3, ?_,by simpa [cY,k2,k3,sel_true,sel_false] using q2,q3⟩;rw [b9 M hC.docs_cutter_tag rfl (c:=dG) rfl,dG];cases hd:S.due with
  |true=>
   rw [hd,k3] at c3;simp only [Bool.not_false,Bool.and_self,sel_true] at c3;simp (maxSteps:=3000000) (maxDischargeDepth:=6) +contextual -implicitDefEqProofs only [amC M,↓amD,Nat.reduceBEq,Nat.reduceAdd,env,ak,fp,amG,AV.cell,Nat.reduceMul,Nat.reduceLeDiff,rnc,gx,g0,g0d,hd,k2,k3,bh,c3,hx1,hcl,cl5,a1,gc,a5,so,q4,q1,r1]
  |false=>
   have hS1:=e1 (by rw [hd];rfl);have hd1:S1.due=false:=by rw [hS1];exact hd
   rw [hd] at c3;simp only [Bool.false_and,sel_false] at c3;subst c3;rw [hd1] at hcl gc so q1 q4;simp (maxSteps:=3000000) (maxDischargeDepth:=6) +contextual -implicitDefEqProofs only [amC M,↓amD,Nat.reduceBEq,Nat.reduceAdd,env,ak,fp,amG,AV.cell,Nat.reduceMul,Nat.reduceLeDiff,rnc,gx,hd1,k2,k3,bh,hcl,cl5,a1,gc,a5,so,q4,q1,r1]
 |false=>
  cases k3:p.kind == 3 with
  |true=>
   have hne:=hop k3
   obtain ⟨l,s,hls⟩:∃ l s,S1.opn=l++[s]:=by
    rcases List.eq_nil_or_concat S1.opn with h | ⟨l,s,h⟩
    ·rw [hopn] at h;exact absurd h hne
    ·exact ⟨l,s,by simpa using h⟩
   have hlen:S.opn.length=l.length+1:=by rw [← hopn,hls];simp
   have ho:=h1.op;rw [hls] at ho;obtain ⟨ov',o1,o2,o3,o4,o5⟩:=Nv ho h1.oa;obtain ⟨u1,u2,_⟩:=h1.upd S1.pos S1.place S1.due l ta ov' o2 o3 h1.tg;obtain ⟨H3,q1,q2,q3,q4⟩:=last ⟨P,q,vs,v,ta,ov',u1⟩ u2 rfl rfl;have hl0:nF (H++[AObj.cells p.row ag]) .sl ov=some (.int .i64 ((l.length+1:Nat):Int)):=by have:=vv (G:=H++[AObj.cells p.row ag]) ho;simpa using this
   have hl1:nF H1 .sl ov=some (.int .i64 ((l.length+1:Nat):Int)):=by have:=vv (G:=H1) ho;simpa using this
   have hw2:IntKind.i64.wrap (((l.length+1:Nat):Int)-1)=(l.length:Int):=by rw [b4 (by omega) (by omega)];omega
   refine ⟨H3, ?_,by simpa [cY,k2,k3,hls,sel_true,sel_false] using q2,q3⟩;rw [k3] at c3;simp only [Bool.not_true,Bool.and_false,sel_false] at c3;subst c3;rw [b9 M hC.docs_cutter_tag rfl (c:=dG) rfl,dG];have so:=stO_cells (sz:=1) (H:=H++[AObj.cells p.row ag]) (id:=c) (off:=4) (cs:=[ov']) (T:=aK) (old:=[.rslice P 0 (S1.done.length+1) 1 true,.slice ta 1 (S1.pos.map bt),.int .i64 S1.place,.bool S1.due,ov]) rfl (by simp) (by simp [o4])
   simp only [st5] at so;cases hd1:S1.due<;>(rw [hd1] at hcl so;try rw [hd1] at q1 q4)<;>simp (maxSteps:=3000000) (maxDischargeDepth:=6) +contextual -implicitDefEqProofs only [amC M,↓amD,Nat.reduceBEq,Nat.reduceAdd,env,ak,fp,amG,AV.cell,Nat.reduceMul,Nat.reduceLeDiff,rnc,gx,hd1,k2,k3,bh,hcl,cl5,hl0,hw2,o1,o5,so,q4,q1,r1]
  |false=>
   obtain ⟨H3,q1,q2,q3,q4⟩:=last ⟨P,q,vs,v,ta,ov,h1⟩ (Frm.refl _ _) rfl rfl;refine ⟨H3, ?_,by simpa [cY,k2,k3,sel_true,sel_false] using q2,q3⟩;rw [b9 M hC.docs_cutter_tag rfl (c:=dG) rfl,dG];cases hd:S.due with
   |true=>
    rw [hd,k3] at c3;simp only [Bool.not_false,Bool.and_self,sel_true] at c3;simp (maxSteps:=3000000) (maxDischargeDepth:=6) +contextual -implicitDefEqProofs only [amC M,↓amD,Nat.reduceBEq,Nat.reduceAdd,env,ak,fp,amG,AV.cell,Nat.reduceMul,Nat.reduceLeDiff,rnc,gx,g0,g0d,hd,k2,k3,bh,c3,hx1,q1,r1]
   |false=>
    rw [hd] at c3;simp only [Bool.false_and,sel_false] at c3;subst c3;simp (maxSteps:=3000000) (maxDischargeDepth:=6) +contextual -implicitDefEqProofs only [amC M,↓amD,Nat.reduceBEq,Nat.reduceAdd,env,ak,fp,amG,AV.cell,Nat.reduceMul,Nat.reduceLeDiff,rnc,gx,g0,g0d,hd,k2,k3,bh,q1,r1]
end
section
attribute [local congr] aD bH aS aE aR aL aF au aw aM aN
variable{E:a8}(M:bY cC E)
def ff(S:CSt):CSt:=sel S.due (nD S) S
def xg(l:List Int)(n:Nat):Bool:=match l with
 |[]=>false
 |x::_=>x == (n:Int)
def mS(S:CSt)(p:ae):CSt:=
 let S1:=ff S
 let h:=xg S1.pos (S1.place+1)
 {S1 with cur:=bN S1.cur p,place:=S1.place+1,pos:=sel h S1.pos.tail S1.pos,due:=sel h true S1.due }
theorem LN{S:CSt}(h:CBd S):(ff S).done.length≤100000000∧(ff S).cur.length≤100000000∧∀ x∈(ff S).cur,x.text.length≤100000000:=by
 have:=Gw h ⟨0,[],false⟩;unfold jG at this;rw [show (S.due && !((0:Int) == 3))=S.due by simp] at this;exact this
theorem LO(S:CSt):(ff S).place=S.place:=by unfold ff;cases S.due<;>rfl
theorem D5(hC:lB E){R:Nat→Prop}{c:Nat}{H:List AObj}{S:CSt}(hS:eU R c H S)(hB:CBd S)(hpl:S.place≤100000000){p:ae}(hp:p.text.length≤100000000) :
  ∃ H',M.run dh [.ptr c 0,.agg p.row] H=some (.ret (.tuple []),H')∧eU R c H' (mS S p)∧Frm R H H':=by
 obtain ⟨l1,l2⟩:=hS.le;have h0:=hS.more (.cells p.row ag);have f0:Frm R H (H++[AObj.cells p.row ag]):=Frm.app _ _ l2;obtain ⟨b1,b2,b3⟩:=LN hB;have hcR:∀ i,R i→R1 R H.length i:=fun i hi=>.inl hi
 have r1:∀ H,lT (some H)=some (dg,H):=fun _=>rfl
 obtain ⟨cs0,g0,g0d⟩:=JU h0;have gx:=bg H [AObj.cells p.row ag];rw [List.getElem?_cons_zero] at gx
 obtain ⟨H1,c1,c2,c3⟩:∃ H1,eU (R1 R H.length) c H1 (ff S)∧Frm (R1 R H.length) (H++[AObj.cells p.row ag]) H1∧sel S.due (M.run cL [.ptr c 0] (H++[AObj.cells p.row ag])=some (.ret (.tuple []),H1)) (H1=H++[AObj.cells p.row ag]):=by
  cases hd:S.due with
  |false=>exact ⟨_,by unfold ff;rw [hd];exact h0,Frm.refl _ _,rfl⟩
  |true=>
   obtain ⟨H1,t1,t2,t3⟩:=D4 M hC h0 hB;exact ⟨H1,by unfold ff;rw [hd];exact t2,t3,t1⟩
 have hx1:H1[H.length]?=some (.cells p.row ag):=by rw [c2.low _ (.inr rfl),bg];rfl
 have hpl1:=LO S;rw [show mS S p = { ff S with cur:=bN (ff S).cur p,place:=(ff S).place+1,pos:=sel (xg (ff S).pos ((ff S).place+1)) (ff S).pos.tail (ff S).pos,due:=sel (xg (ff S).pos ((ff S).place+1)) true (ff S).due } from rfl];generalize ff S=S1 at *
 obtain ⟨H2,q1,q2,q3,_⟩:=uu M hC c1 b1 b2 b3 hp;have f2:Frm R H H2:=(f0.trans (c2.mono hcR)).trans (q3.mono hcR);obtain ⟨P,q,vs,v,ta,ov,h2⟩:=q2.mono hcR;have hw1:IntKind.i64.wrap ((S1.place:Int)+1)=((S1.place+1:Nat):Int):=by rw [b4 (by omega) (by omega)];rfl
 have st5:(∀ (a b c0 d e x:AV),bn [a,b,c0,d,e] 2 [x]=[a,b,x,d,e])∧(∀ (a b c0 d e x:AV),bn [a,b,c0,d,e] 1 [x]=[a,x,c0,d,e])∧(∀ (a b c0 d e x:AV),bn [a,b,c0,d,e] 3 [x]=[a,b,c0,x,e]):=⟨fun _ _ _ _ _ _=>rfl,fun _ _ _ _ _ _=>rfl,fun _ _ _ _ _ _=>rfl⟩
 obtain ⟨w3,f3,_⟩:=h2.upd S1.pos (S1.place+1) S1.due S1.opn ta ov h2.op h2.oa h2.tg;dsimp only at w3 f3;have hc2:=h2.cell;dsimp only at hc2;have so3:=stO_cells (sz:=1) (H:=H2) (id:=c) (off:=2) (cs:=[.int .i64 ((S1.place+1:Nat):Int)]) (T:=aK) (old:=[.rslice P 0 (S1.done.length+1) 1 true,.slice ta 1 (S1.pos.map bt),.int .i64 S1.place,.bool S1.due,ov]) rfl (by simp) rfl;simp only [st5] at so3;generalize hG3:H2.set c (AObj.cells [.rslice P 0 (S1.done.length+1) 1 true,.slice ta 1 (S1.pos.map bt),.int .i64 ((S1.place+1:Nat):Int),.bool S1.due,ov] aK)=G3 at w3 f3 so3
 have hc3:=w3.cell;dsimp only at hc3;cases hh:xg S1.pos (S1.place+1) with
 |false=>
  refine ⟨_, ?_,⟨P,q,vs,v,ta,ov,w3⟩,f2.trans f3⟩;cases hps:S1.pos with
  |nil=>
   rw [hps] at hc2 hc3 so3 hG3;simp only [List.map_nil] at hc2 hc3 so3 hG3;have d0:decide ((0:Int)<((0:Nat):Int))=false:=rfl;rw [b9 M hC.docs_cutter_unit rfl (c:=di) rfl,di];cases hd:S.due with
   |true=>
    rw [hd,sel_true] at c3;simp (maxSteps:=3000000) (maxDischargeDepth:=6) +contextual -implicitDefEqProofs only [amC M,↓amD,Nat.reduceBEq,Nat.reduceAdd,env,ak,dU,amG,AV.cell,Nat.reduceMul,Nat.reduceLeDiff,rnc,gx,g0,g0d,hd,bh,c3,hx1,q1,hc2,cl5,hw1,so3,hG3,hc3,List.map_nil,List.length_nil,d0,r1]
   |false=>
    rw [hd,sel_false] at c3;subst c3;simp (maxSteps:=3000000) (maxDischargeDepth:=6) +contextual -implicitDefEqProofs only [amC M,↓amD,Nat.reduceBEq,Nat.reduceAdd,env,ak,dU,amG,AV.cell,Nat.reduceMul,Nat.reduceLeDiff,rnc,gx,g0,g0d,hd,bh,q1,hc2,cl5,hw1,so3,hG3,hc3,List.map_nil,List.length_nil,d0,r1]
  |cons x t=>
   rw [hps] at hc2 hc3 so3 hG3 hh;have hx0:(x == ((S1.place+1:Nat):Int))=false:=hh;have d0:decide ((0:Int)<(((x::t).length:Nat):Int))=true:=decide_eq_true (by simp);have hir:=aU (row:=bt) (l:=x::t) (tag:=ta) (sz:=1) (k:=.i64) (i:=0) (by simp);rw [Int.ofNat_zero] at hir;generalize hpp:x::t=pp at hc2 hc3 so3 hG3 d0 hir;have hp0:pp[0]?=some x:=by rw [← hpp];rfl
   rw [b9 M hC.docs_cutter_unit rfl (c:=di) rfl,di];cases hd:S.due with
   |true=>
    rw [hd,sel_true] at c3;simp (maxSteps:=3000000) (maxDischargeDepth:=6) +contextual -implicitDefEqProofs only [amC M,↓amD,Nat.reduceBEq,Nat.reduceAdd,env,ak,dU,amG,AV.cell,Nat.reduceMul,Nat.reduceLeDiff,rnc,gx,g0,g0d,hd,bh,c3,hx1,q1,hc2,cl5,hw1,so3,hG3,hc3,List.length_map,d0,hir,hp0,ry,hx0,r1]
   |false=>
    rw [hd,sel_false] at c3;subst c3;simp (maxSteps:=3000000) (maxDischargeDepth:=6) +contextual -implicitDefEqProofs only [amC M,↓amD,Nat.reduceBEq,Nat.reduceAdd,env,ak,dU,amG,AV.cell,Nat.reduceMul,Nat.reduceLeDiff,rnc,gx,g0,g0d,hd,bh,q1,hc2,cl5,hw1,so3,hG3,hc3,List.length_map,d0,hir,hp0,ry,hx0,r1]
 |true=>
  obtain ⟨x,t,hps⟩:∃ x t,S1.pos=x::t:=by
   cases hq:S1.pos with
   |nil=>rw [hq] at hh;cases hh
   |cons x t=>exact ⟨x,t,rfl⟩
  have hx0:(x == ((S1.place+1:Nat):Int))=true:=by rw [hps] at hh;exact hh
  have d0:decide ((0:Int)<(((x::t).length:Nat):Int))=true:=decide_eq_true (by simp);have hir:=aU (row:=bt) (l:=x::t) (tag:=ta) (sz:=1) (k:=.i64) (i:=0) (by simp);rw [Int.ofNat_zero] at hir
  have hsl:uQ 1 (.slice ta 1 ((x::t).map bt)) (some (.int .i64 1)) none none=some (.slice .any 1 (t.map bt)):=by
   simp [uQ,cJ];exact List.take_of_length_le (by simp)
  obtain ⟨w4,f4,_⟩:=w3.upd t (S1.place+1) S1.due S1.opn .any ov w3.op w3.oa (.inl rfl);dsimp only at w4 f4;rw [hps] at hc2 hc3 so3 hG3;have so4:=stO_cells (sz:=1) (H:=G3) (id:=c) (off:=1) (cs:=[.slice .any 1 (t.map bt)]) (T:=aK) (old:=[.rslice P 0 (S1.done.length+1) 1 true,.slice ta 1 ((x::t).map bt),.int .i64 ((S1.place+1:Nat):Int),.bool S1.due,ov]) rfl (by simp) rfl;simp only [st5] at so4;generalize hG4:G3.set c (AObj.cells [.rslice P 0 (S1.done.length+1) 1 true,.slice .any 1 (t.map bt),.int .i64 ((S1.place+1:Nat):Int),.bool S1.due,ov] aK)=G4 at w4 f4 so4
  have hc4:=w4.cell;dsimp only at hc4;obtain ⟨w5,f5,_⟩:=w4.upd t (S1.place+1) true S1.opn .any ov w4.op w4.oa (.inl rfl);dsimp only at w5 f5;have so5:=stO_cells (sz:=1) (H:=G4) (id:=c) (off:=3) (cs:=[.bool true]) (T:=aK) (old:=[.rslice P 0 (S1.done.length+1) 1 true,.slice .any 1 (t.map bt),.int .i64 ((S1.place+1:Nat):Int),.bool S1.due,ov]) rfl (by simp) rfl;simp only [st5] at so5;refine ⟨_, ?_,⟨P,q,vs,v,.any,ov,by rw [hps];exact w5⟩,((f2.trans f3).trans f4).trans f5⟩
  generalize hpp:x::t=pp at hc2 hc3 so3 hG3 so4 d0 hir hsl;have hp0:pp[0]?=some x:=by rw [← hpp];rfl
  rw [b9 M hC.docs_cutter_unit rfl (c:=di) rfl,di];cases hd:S.due with
  |true=>
   rw [hd,sel_true] at c3;simp (maxSteps:=3000000) (maxDischargeDepth:=6) +contextual -implicitDefEqProofs only [amC M,↓amD,Nat.reduceBEq,Nat.reduceAdd,env,ak,dU,amG,AV.cell,Nat.reduceMul,Nat.reduceLeDiff,rnc,gx,g0,g0d,hd,bh,c3,hx1,q1,hc2,cl5,hw1,so3,hG3,hc3,List.length_map,d0,hir,hp0,ry,hx0,hsl,so4,hG4,hc4,so5,r1]
  |false=>
   rw [hd,sel_false] at c3;subst c3;simp (maxSteps:=3000000) (maxDischargeDepth:=6) +contextual -implicitDefEqProofs only [amC M,↓amD,Nat.reduceBEq,Nat.reduceAdd,env,ak,dU,amG,AV.cell,Nat.reduceMul,Nat.reduceLeDiff,rnc,gx,g0,g0d,hd,bh,q1,hc2,cl5,hw1,so3,hG3,hc3,List.length_map,d0,hir,hp0,ry,hx0,hsl,so4,hG4,hc4,so5,r1]
end
section
attribute [local congr] aD bH aS aE aR aL aF au aw aM aN
variable{E:a8}(M:bY cC E)
def vw(r:Nat):Str:=(Utf8.encode (r:Int)).data.toList
def mT(r:Nat):ae:=⟨1,vw r,false⟩
theorem LP(r:Nat):(vw r).length≤4:=by
 unfold vw;simp only [Utf8.encode]
 repeat' split
 all_goals simp [ByteArray.size,ByteArray.push,ByteArray.empty,ByteArray.emptyWithCapacity]
theorem zr(r:Nat):(mT r).text.length≤4:=by
 have h:=LP r;simpa only [mT] using h
def Cv(S:CSt)(p:ae):CSt:=sel (p.kind == 1) ((dJ p.text).foldl (fun S r=>mS S (mT r)) S) (sel (p.kind == 5) (mS S p) (Cu S p))
structure CBm (m:Nat) (S:CSt):Prop where
 opn:S.opn.length≤m
 opt:∀ s∈S.opn,s.length≤m
 done:S.done.length≤m
 cur:S.cur.length≤2*m
 txt:∀ x∈S.cur,x.text.length≤m
 place:S.place≤m
theorem CBm.mono{m n:Nat}{S:CSt}(h:CBm m S)(hn:m≤n):CBm n S:=⟨Nat.le_trans h.opn hn,fun s hs=>Nat.le_trans (h.opt s hs) hn,Nat.le_trans h.done hn,by have:=h.cur;omega,fun x hx=>Nat.le_trans (h.txt x hx) hn,Nat.le_trans h.place hn⟩
theorem CBm.bd{m:Nat}{S:CSt}(h:CBm m S)(hm:m≤50000):CBd S:=⟨by have:=h.opn;omega,fun s hs=>by have:=h.opt s hs;omega,by have:=h.done;omega,by have:=h.cur;omega,fun x hx=>by have:=h.txt x hx;omega⟩
theorem Gx{m:Nat}{S:CSt}(h:CBm m S):CBm (m+1) (nD S):=⟨Nat.le_trans h.opn (by omega),fun s hs=>Nat.le_trans (h.opt s hs) (by omega),by simp [nD];exact h.done,by simp [nD];have:=h.opn;omega,fun x hx=>by
 obtain ⟨s,hs,rfl⟩:=List.mem_map.1 (show x∈S.opn.map eG from hx);exact Nat.le_trans (h.opt s hs) (by omega),Nat.le_trans h.place (by omega)⟩
theorem zt(l:List ae)(p:ae):(bN l p).length≤l.length+1:=by
 rcases List.eq_nil_or_concat l with rfl | ⟨t,x,rfl⟩
 ·simp [bN]
 ·rw [List.concat_eq_append,eI]
  cases p.kind == 1&&x.kind == 1<;>simp [sel_true,sel_false]
theorem zu{l:List ae}{p:ae}{m w:Nat}(h:∀ x∈l,x.text.length≤m)(hp:p.text.length≤w):∀ x∈bN l p,x.text.length≤m+w:=by
 intro y hy;rcases List.eq_nil_or_concat l with rfl | ⟨t,x,rfl⟩
 ·simp [bN] at hy;subst hy;omega
 ·rw [List.concat_eq_append] at hy h
  rw [eI] at hy;cases hk:p.kind == 1&&x.kind == 1 with
  |true=>
   rw [hk,sel_true] at hy;rcases List.mem_append.1 hy with hy | hy
   ·have:=h y (List.mem_append_left _ hy);omega
   ·rw [List.mem_singleton] at hy;subst hy
    have:=h x (by simp);simp only [List.length_append];omega
  |false=>
   rw [hk,sel_false] at hy;rcases List.mem_append.1 hy with hy | hy
   ·have:=h y hy;omega
   ·rw [List.mem_singleton] at hy;subst hy;omega
theorem LQ{m:Nat}{S:CSt}(h:CBm m S):CBm (m+1) (ff S):=by
 unfold ff;cases S.due
 ·exact h.mono (by omega)
 ·exact Gx h
theorem LR{m:Nat}{S:CSt}(h:CBm m S)(p:ae):CBm (m+1) (jG S p):=by
 unfold jG;cases S.due && !(p.kind == 3)
 ·exact h.mono (by omega)
 ·exact Gx h
theorem Cw{m w:Nat}{S:CSt}(h:CBm m S){p:ae}(hp:p.text.length≤w):CBm (m+w+2) (mS S p):=by
 have h1:=LQ h;refine ⟨by have:=h1.opn;simp only [mS];omega,fun s hs=>by have:=h1.opt s hs;omega,by have:=h1.done;simp only [mS];omega,by have:=h1.cur;have:=zt (ff S).cur p;simp only [mS];omega,fun x hx => ?_,by have:=h1.place;simp only [mS];omega⟩;have:=zu h1.txt hp x hx;omega
theorem Nw{m w:Nat}{S:CSt}(h:CBm m S){p:ae}(hp:p.text.length≤w):CBm (m+w+2) (Cu S p):=by
 have h1:=LR h p
 have ho:(cY (jG S p).opn p).length≤(jG S p).opn.length+1∧∀ s∈cY (jG S p).opn p,s.length≤m+1+w:=by
  unfold cY;cases p.kind == 2 with
  |true=>
   refine ⟨by simp [sel_true],fun s hs => ?_⟩;rw [sel_true] at hs;rcases List.mem_append.1 hs with hs | hs
   ·have:=h1.opt s hs;omega
   ·rw [List.mem_singleton] at hs;subst hs;omega
  |false=>
   cases p.kind == 3 with
   |true=>exact ⟨by simp [sel_true,sel_false];omega,fun s hs=>by rw [sel_false,sel_true] at hs;have:=h1.opt s (List.dropLast_subset _ hs);omega⟩
   |false=>exact ⟨by simp [sel_false],fun s hs=>by rw [sel_false,sel_false] at hs;have:=h1.opt s hs;omega⟩
 refine ⟨by have:=h1.opn;have:=ho.1;simp only [Cu];omega,fun s hs=>by have:=ho.2 s hs;omega,by have:=h1.done;simp only [Cu];omega,by have:=h1.cur;have:=zt (jG S p).cur p;simp only [Cu];omega,fun x hx => ?_,by have:=h1.place;simp only [Cu];omega⟩;have:=zu h1.txt hp x hx;omega
theorem D6:∀ (rs:List Nat) {m:Nat}{S:CSt},CBm m S→CBm (m+6*rs.length) (rs.foldl (fun S r=>mS S (mT r)) S)
 |[],m,S,h=>by simpa using h
 |r::rs,m,S,h=>by
  rw [List.foldl_cons];have h1:=Cw (w:=4) (p:=mT r) h (zr r);have h2:=D6 rs h1;exact h2.mono (by simp only [List.length_cons];omega)
theorem Gy{m:Nat}{S:CSt}(h:CBm m S)(p:ae):CBm (m+(6*p.text.length+2)) (Cv S p):=by
 unfold Cv;have hr:=pz p.text;cases p.kind == 1 with
 |true=>rw [sel_true];exact (D6 _ h).mono (by omega)
 |false=>
  rw [sel_false];cases p.kind == 5 with
  |true=>rw [sel_true];exact (Cw h (Nat.le_refl _)).mono (by omega)
  |false=>rw [sel_false];exact (Nw h (Nat.le_refl _)).mono (by omega)
def Bk(S:CSt)(l:List ae):CSt:=l.foldl Cv S
def szP(p:ae):Nat:=6*p.text.length+2
def D7:List ae→Nat→Prop
 |[],_=>True
 |x::l,n=>((x.kind == 3)=true→0<n)∧D7 l (if x.kind == 2 then n+1 else if x.kind == 3 then n-1 else n)
theorem D8(S:CSt)(p:ae):(mS S p).opn=S.opn:=by
 show (ff S).opn=S.opn;unfold ff;cases S.due<;>rfl
theorem Bl:∀ (rs:List Nat) (S:CSt),(rs.foldl (fun S r=>mS S (mT r)) S).opn=S.opn
 |[],S=>rfl
 |r::rs,S=>by rw [List.foldl_cons,Bl rs,D8]
theorem LS{S:CSt}{p:ae}:(Cv S p).opn.length=(if p.kind == 2 then S.opn.length+1 else if p.kind == 3 then S.opn.length-1 else S.opn.length):=by
 unfold Cv;cases k1:p.kind == 1 with
 |true=>rw [sel_true,Bl,eq_of_beq k1];rfl
 |false=>
  rw [sel_false];cases k5:p.kind == 5 with
  |true=>rw [sel_true,D8,eq_of_beq k5];rfl
  |false=>
   rw [sel_false];show (cY (jG S p).opn p).length=_;rw [D3,cY];cases p.kind == 2 with
   |true=>simp [sel_true]
   |false=>cases p.kind == 3<;>simp [sel_true,sel_false]
theorem eU.setit{R:Nat→Prop}{c:Nat}{H:List AObj}{S:CSt}(h:eU R c H S){t:Nat}{s:Str}{i:Nat}(ht:H[t]?=some (.siter s i))(j:Nat):eU R c (H.set t (.siter s j)) S:=by
 obtain ⟨P,q,vs,v,ta,ov,h⟩:=h
 have hs:∀ {k:Nat}{cs:List AV}{T:TypeId},H[k]?=some (.cells cs T)→(H.set t (.siter s j))[k]?=some (.cells cs T):=fun {k cs T} hk=>by
  rw [List.getElem?_set_ne (fun e=>by subst e;rw [ht] at hk;cases hk)];exact hk
 exact ⟨P,q,vs,v,ta,ov,⟨h.hn,h.hP,fun i hi=>by simpa using h.rl i hi,hs h.cell,hs h.par,h.len,fun i w l hi hl=>⟨(h.dn i w l hi hl).1.stay fun Q cs _ hQ=>hs hQ,(h.dn i w l hi hl).2⟩,h.cr.stay fun Q cs _ hQ=>hs hQ,h.ab,h.pr,by simpa using h.ql,h.op.stay fun O cs hO=>hs hO,h.oa,h.tg⟩⟩
theorem Nx:∀ (k:IntKind) (n:Int),KJ (.int k n)=some (.str (Utf8.encode n).data.toList):=fun _ _=>rfl
theorem ct0(hC:lB E){R:Nat→Prop}{c t:Nat}{s:Str}(hs:s.length≤ca)(htR:¬ R t){H0:List AObj}{v15 v16 v17:AV}:∀ (n i m:Nat) (H:List AObj) (S:CSt),s.length-i≤n→i≤s.length→H[t]?=some (.siter s i)→eU R c H S→CBm m S→m+6*(s.length-i)≤50000 →
  ∃ H',(∀ (k:List Fra) (He:List AObj),M.go gb H0 (.c km :: .lp ⟨(some [6,15,16,17,30]),[],false⟩ km He :: .blk 3 :: .c (.lv [6,15,16,17])::k) (kv [(6,.ptr c 0),(15,v15),(16,v16),(17,v17),(30,.ptr t 0)]) H=M.go gb H0 k (kv [(6,.ptr c 0),(15,v15),(16,v16),(17,v17)]) H')∧eU R c H' ((dJ (s.drop i)).foldl (fun S r=>mS S (mT r)) S)∧H.length≤H'.length∧∀ i,R i→H'[i]?=H[i]?
 |n,i,m,H,S,hn,hi,ht,hS,hb,hm=>by
  by_cases hlt:i<s.length
  ·have hne:s.drop i≠[]:=fun e=>by have:=congrArg List.length e;simp at this;omega
   have hw:=mP (s.drop i);have hle:=Co hne;rw [List.length_drop] at hle;have hdd:Utf8.decode ⟨s.toArray⟩ i=cq (s.drop i):=A9 s i;rw [rm hne,List.foldl_cons,List.drop_drop];generalize cq (s.drop i)=d at *
   have htl:=(List.getElem?_eq_some_iff.1 ht).1;have h1:=hS.setit ht (i+d.2);obtain ⟨H1,u1,u2,u3⟩:=D5 M hC h1 (hb.bd (by omega)) (by have:=hb.place;omega) (p:=mT d.1) (Nat.le_trans (zr d.1) (by omega));have ht1:H1[t]?=some (.siter s (i+d.2)):=u3.it t _ _ (List.getElem?_set_self htl);obtain ⟨H2,i1,i2,i3,i4⟩:=ct0 hC hs htR (H0:=H0) (v15:=v15) (v16:=v16) (v17:=v17) (n-1) (i+d.2) (m+6) H1 _ (by omega) (by omega) ht1 u2 (Cw hb (zr d.1)) (by omega)
   refine ⟨H2,fun k He => ?_,i2,by have:=u3.len;simp at this;omega,fun j hj => ?_⟩
   ·rw [← i1 k H1]
    have hbd:M.run dh [.ptr c 0,.agg [.int .u8 1,.str (Utf8.encode (d.1:Int)).data.toList,.bool false]] (H.set t (.siter s (i+d.2)))=some (.ret (.tuple []),H1):=by have u:=u1;simp only [ae.row,mT,vw] at u;exact u
    rw [al M km.eq_1];simp (maxSteps:=3000000) (maxDischargeDepth:=6) +contextual -implicitDefEqProofs only [amC M,↓amD,Nat.reduceBEq,Nat.reduceAdd,env,ak,jz,amG,AV.cell,Nat.reduceMul,Nat.reduceLeDiff,xI,ht,hlt,hdd,cZ,List.getElem?_cons_succ,List.getElem?_cons_zero,Nx,hbd]
   ·rw [i4 j hj,u3.low j hj,List.getElem?_set_ne (fun e=>htR (by rw [e];exact hj))]
  ·obtain rfl:i=s.length:=by omega
   rw [List.drop_length];refine ⟨H,fun k He => ?_,hS,Nat.le_refl _,fun _ _=>rfl⟩;rw [al M km.eq_1];simp (maxSteps:=3000000) (maxDischargeDepth:=6) +contextual -implicitDefEqProofs only [amC M,↓amD,Nat.reduceBEq,Nat.reduceAdd,env,ak,jz,xI,ht,List.getElem?_cons_zero,Nat.lt_irrefl,cZ]
end
section
attribute [local congr] aD bH aS aE aR aL aF au aw aM aN
variable{E:a8}(M:bY cC E)
theorem Oj:∀ (G:List AObj) (s:Str),rrg G (.str s)=some (.ptr G.length 0,G++[.siter s 0]):=fun _ _=>rfl
def Fx(l:List ae):Nat:=(l.map szP).sum
theorem vx(x:ae)(l:List ae):Fx (x::l)=szP x+Fx l:=by simp [Fx]
theorem ct1(hC:lB E){R:Nat→Prop}{c:Nat}{l:List ae}{tg:Tag}(hl:l.length≤ca)(htx:∀ x∈l,x.text.length≤ca){H0:List AObj}:∀ (n i m:Nat) (H:List AObj) (S:CSt),i+n=l.length→eU R c H S→CBm m S→D7 (l.drop i) S.opn.length→m+Fx (l.drop i)≤50000 →
  ∃ H',(∀ (k:List Fra) (He:List AObj),M.go gb H0 (.c dE :: .lp ⟨(some [6,15,16,17]),[],false⟩ dE He :: .blk 0 :: .c (.lv [6])::k) (kv [(6,.ptr c 0),(15,.slice tg 3 (l.map ae.row)),(16,.int .i64 l.length),(17,.int .i64 i)]) H=M.go gb H0 k (kv [(6,.ptr c 0)]) H')∧eU R c H' (Bk S (l.drop i))∧H.length≤H'.length∧∀ i,R i→H'[i]?=H[i]?
 |0,i,m,H,S,h,hS,hb,hop,hm=>by
  have e:i=l.length:=by omega
  subst e;refine ⟨H,fun k He => ?_,by rw [List.drop_length];exact hS,Nat.le_refl _,fun _ _=>rfl⟩;rw [al M dE.eq_1];simp (maxSteps:=3000000) (maxDischargeDepth:=6) +contextual -implicitDefEqProofs only [amC M,↓amD,Nat.reduceBEq,Nat.reduceAdd,env,ak,jz,Nat.lt_irrefl]
 |n+1,i,m,H,S,h,hS,hb,hop,hm=>by
  have hi:i<l.length:=by omega
  have hx:l[i]?=some l[i]:=List.getElem?_eq_getElem hi;have hd:(l.drop i)=l[i]::l.drop (i+1):=List.drop_eq_getElem_cons hi;have hmem:l[i]∈l:=List.getElem_mem hi;have hwi:=dO (n:=l.length) hi hl;have hir:=aU (row:=ae.row) (tag:=tg) (sz:=3) (k:=.i64) hi;rw [hd] at hop hm ⊢;rw [vx,szP] at hm;obtain ⟨hop1,hop2⟩:=hop;rw [← LS] at hop2;have htl:=htx _ hmem;have hb2:=Gy hb l[i];obtain ⟨l1,l2⟩:=hS.le;have h1:=hS.app [AObj.cells l[i].row ag]
  have gx:=bg H [AObj.cells l[i].row ag];rw [List.getElem?_cons_zero] at gx;have hbd:=hb.bd (by omega)
  have one:∃ H1,eU R c H1 (Cv S l[i])∧H.length≤H1.length∧(∀ j,R j→H1[j]?=H[j]?)∧(∀ k He,M.go gb H0 (.c dE :: .lp ⟨(some [6,15,16,17]),[],false⟩ dE He :: .blk 0 :: .c (.lv [6])::k) (kv [(6,.ptr c 0),(15,.slice tg 3 (l.map ae.row)),(16,.int .i64 l.length),(17,.int .i64 i)]) H=M.go gb H0 (.c dE :: .lp ⟨(some [6,15,16,17]),[],false⟩ dE H1 :: .blk 0 :: .c (.lv [6])::k) (kv [(6,.ptr c 0),(15,.slice tg 3 (l.map ae.row)),(16,.int .i64 l.length),(17,.int .i64 ((i+1:Nat):Int))]) H1):=by
   unfold Cv;cases k1:l[i].kind == 1 with
   |true=>
    rw [sel_true];have h2:=h1.app [AObj.siter l[i].text 0];obtain ⟨H1,t1,t2,t3,t4⟩:=ct0 M hC (t:=H.length+1) htl (fun hR=>by have:=l2 _ hR;omega) (H0:=H0) (v15:=.slice tg 3 (l.map ae.row)) (v16:=.int .i64 l.length) (v17:=.int .i64 i) l[i].text.length 0 m _ _ (by omega) (by omega) (by rw [List.append_assoc,hp_getk];rfl) h2 hb (by omega);refine ⟨H1,by simpa using t2,by simp at t3;omega,fun j hj => ?_,fun k He => ?_⟩
    ·have:=l2 j hj
     rw [t4 j hj,List.getElem?_append_left (by simp;omega),List.getElem?_append_left this]
    ·simp only [kv_cons,kv_nil,List.append_assoc,List.cons_append,List.nil_append] at t1
     rw [al M dE.eq_1];simp (maxSteps:=3000000) (maxDischargeDepth:=6) +contextual -implicitDefEqProofs only [amC M,↓amD,Nat.reduceBEq,Nat.reduceAdd,env,ak,jz,amG,AV.cell,Nat.reduceMul,Nat.reduceLeDiff,hi,hx,hir,hwi,bh,gx,k1,Oj,t1]
   |false=>
    rw [sel_false];cases k5:l[i].kind == 5 with
    |true=>
     rw [sel_true];obtain ⟨H1,u1,u2,u3⟩:=D5 M hC h1 hbd (by have:=hb.place;omega) (p:=l[i]) (by omega);refine ⟨H1,u2,by have:=u3.len;simp at this;omega,fun j hj=>by rw [u3.low j hj,List.getElem?_append_left (l2 j hj)],fun k He => ?_⟩;rw [al M dE.eq_1];simp (maxSteps:=3000000) (maxDischargeDepth:=6) +contextual -implicitDefEqProofs only [amC M,↓amD,Nat.reduceBEq,Nat.reduceAdd,env,ak,jz,amG,AV.cell,Nat.reduceMul,Nat.reduceLeDiff,hi,hx,hir,hwi,bh,gx,k1,k5,u1]
    |false=>
     rw [sel_false]
     obtain ⟨H1,u1,u2,u3⟩:=LM M hC h1 hbd (p:=l[i]) (by omega) (fun hk=>by
      intro e;have:=hop1 hk;rw [e] at this;simp at this)
     refine ⟨H1,u2,by have:=u3.len;simp at this;omega,fun j hj=>by rw [u3.low j hj,List.getElem?_append_left (l2 j hj)],fun k He => ?_⟩;rw [al M dE.eq_1];simp (maxSteps:=3000000) (maxDischargeDepth:=6) +contextual -implicitDefEqProofs only [amC M,↓amD,Nat.reduceBEq,Nat.reduceAdd,env,ak,jz,amG,AV.cell,Nat.reduceMul,Nat.reduceLeDiff,hi,hx,hir,hwi,bh,gx,k1,k5,u1]
  obtain ⟨H1,o1,o2,o3,o4⟩:=one;obtain ⟨H2,i1,i2,i3,i4⟩:=ct1 hC hl htx (H0:=H0) (tg:=tg) n (i+1) (m+(6*l[i].text.length+2)) H1 _ (by omega) o1 hb2 hop2 (by omega);exact ⟨H2,fun k He=>by rw [o4 k He,i1 k H1],i2,by omega,fun j hj=>by rw [i4 j hj,o3 j hj]⟩
end
section
attribute [local congr] aD bH aS aE aR aL aF au aw aM aN
variable{E:a8}(M:bY cC E)
def p8(l:List ae):Bool:=decide ((512:Int)<(l.length:Int))
theorem JV(hC:lB E){G:List AObj}{w:AV}{l:List ae}(h:PcV G w l):M.run dW [w] G=some (.ret (.bool (p8 l)),G):=by
 rw [b9 M hC.docs_cut_1 rfl (c:=pb) rfl,pb];have hl:=fun H=>Fw (G:=H) h
 simp (maxSteps:=3000000) (maxDischargeDepth:=6) +contextual -implicitDefEqProofs only [amC M,↓amD,Nat.reduceBEq,Nat.reduceAdd,env,ak,Ce,hl,p8]
theorem ixl(hC:lB E){G H0:List AObj}(hc:dz H0 G){P:Nat}{ws:List AV}{pl:List (List ae)}(hP:G[P]?=some (.cells ws ah))(hl:ws.length=pl.length)(hb:pl.length≤100000000)(hw:∀ (i:Nat) (w:AV) (l:List ae),ws[i]?=some w→pl[i]?=some l→PcV G w l):∀ (n i:Nat),i+n=pl.length →
  sel ((pl.drop i).any p8) (∃ j:Nat,∀ (k:List Fra) (He:List AObj),M.go aH H0 (.c ao :: .lp ⟨(some [0,1,7,8]),[],false⟩ ao He :: .blk 0 :: .c (.lv [])::k) (kv [(0,.rslice P 0 pl.length 1 true),(1,.fn (.func dW) [] []),(7,.int .i64 pl.length),(8,.int .i64 i)]) G=some (.ret (.int .i64 j),G.take H0.length))
   (∀ (k:List Fra) (He:List AObj),M.go aH H0 (.c ao :: .lp ⟨(some [0,1,7,8]),[],false⟩ ao He :: .blk 0 :: .c (.lv [])::k) (kv [(0,.rslice P 0 pl.length 1 true),(1,.fn (.func dW) [] []),(7,.int .i64 pl.length),(8,.int .i64 i)]) G=M.go aH H0 k .leaf G)
 |0,i,h=>by
  have e:i=pl.length:=by omega
  subst e;rw [List.drop_length,List.any_nil,sel_false];intro k He;rw [al M ao.eq_1];simp (maxSteps:=3000000) (maxDischargeDepth:=6) +contextual -implicitDefEqProofs only [amC M,↓amD,Nat.reduceBEq,Nat.reduceAdd,env,ak,br,Nat.lt_irrefl]
 |n+1,i,h=>by
  have hi:i<pl.length:=by omega
  have hiw:i<ws.length:=by omega
  have hx:pl[i]?=some pl[i]:=List.getElem?_eq_getElem hi;have hxw:ws[i]?=some ws[i]:=List.getElem?_eq_getElem hiw;have hd:(pl.drop i)=pl[i]::pl.drop (i+1):=List.drop_eq_getElem_cons hi;have hf:=JV M hC (hw i _ _ hxw hx);have hia:=rM (id:=P) hi .i64;have hld:bT none ws i=some ws[i]:=by simp only [bT,hxw]
  have hwi:=dO (n:=pl.length) hi (by simp only [ca];omega);rw [hd,List.any_cons];cases hbg:p8 pl[i] with
  |true=>
   rw [Bool.true_or,sel_true];refine ⟨i,fun k He => ?_⟩;rw [al M ao.eq_1];simp (maxSteps:=3000000) (maxDischargeDepth:=6) +contextual -implicitDefEqProofs only [amC M,↓amD,Nat.reduceBEq,Nat.reduceAdd,env,ak,br,hi,hP,hia,hld,hf,hbg,hc]
  |false=>
   have ih:=ixl hC hc hP hl hb hw n (i+1) (by omega);rw [Bool.false_or]
   have step:∀ (k:List Fra) (He:List AObj),M.go aH H0 (.c ao :: .lp ⟨(some [0,1,7,8]),[],false⟩ ao He :: .blk 0 :: .c (.lv [])::k) (kv [(0,.rslice P 0 pl.length 1 true),(1,.fn (.func dW) [] []),(7,.int .i64 pl.length),(8,.int .i64 i)]) G=M.go aH H0 (.c ao :: .lp ⟨(some [0,1,7,8]),[],false⟩ ao G :: .blk 0 :: .c (.lv [])::k) (kv [(0,.rslice P 0 pl.length 1 true),(1,.fn (.func dW) [] []),(7,.int .i64 pl.length),(8,.int .i64 ((i+1:Nat):Int))]) G:=fun k He=>by
    rw [al M ao.eq_1];simp (maxSteps:=3000000) (maxDischargeDepth:=6) +contextual -implicitDefEqProofs only [amC M,↓amD,Nat.reduceBEq,Nat.reduceAdd,env,ak,br,hi,hP,hia,hld,hf,hbg,hwi]
   cases ha:(pl.drop (i+1)).any p8 with
   |true=>
    rw [ha,sel_true] at ih;rw [sel_true];obtain ⟨j,ih⟩:=ih;exact ⟨j,fun k He=>by rw [step k He,ih k G]⟩
   |false=>
    rw [ha,sel_false] at ih;rw [sel_false];exact fun k He=>by rw [step k He,ih k G]
theorem HR(hC:lB E){G:List AObj}{P:Nat}{ws:List AV}{pl:List (List ae)}(hP:G[P]?=some (.cells ws ah))(hl:ws.length=pl.length)(hb:pl.length≤100000000)(hw:∀ (i:Nat) (w:AV) (l:List ae),ws[i]?=some w→pl[i]?=some l→PcV G w l) :
  M.run bB [.rslice P 0 pl.length 1 true,.fn (.func dW) [] []] G=some (.ret (.bool (pl.any p8)),G):=by
 have h:=ixl M hC (cut_refl G) hP hl hb hw pl.length 0 (by omega);rw [List.drop_zero] at h
 have hi:∃ z:Int,decide ((0:Int)≤z)=pl.any p8∧M.run cM [.rslice P 0 pl.length 1 true,.fn (.func dW) [] []] G=some (.ret (.int .i64 z),G):=by
  cases ha:pl.any p8 with
  |true=>
   rw [ha,sel_true] at h;obtain ⟨j,h⟩:=h;simp only [kv_cons,kv_nil,Int.ofNat_zero] at h;refine ⟨(j:Int),decide_eq_true (by omega), ?_⟩;rw [b9 M hC.slices_IndexFunc_api_Piece_api_Piece rfl (c:=bq) rfl,bq];simp (maxSteps:=3000000) (maxDischargeDepth:=6) +contextual -implicitDefEqProofs only [amC M,↓amD,Nat.reduceBEq,Nat.reduceAdd,env,ak,br,h,hp_self]
  |false=>
   rw [ha,sel_false] at h;simp only [kv_cons,kv_nil,Int.ofNat_zero] at h;refine ⟨-1,rfl, ?_⟩;rw [b9 M hC.slices_IndexFunc_api_Piece_api_Piece rfl (c:=bq) rfl,bq];simp (maxSteps:=3000000) (maxDischargeDepth:=6) +contextual -implicitDefEqProofs only [amC M,↓amD,Nat.reduceBEq,Nat.reduceAdd,env,ak,br,h,hp_self,cut_refl]
 obtain ⟨z,z1,z2⟩:=hi;rw [b9 M hC.slices_ContainsFunc_api_Piece_api_Piece rfl (c:=cj) rfl,cj];simp (maxSteps:=3000000) (maxDischargeDepth:=6) +contextual -implicitDefEqProofs only [amC M,↓amD,Nat.reduceBEq,Nat.reduceAdd,env,ak,gl,z2,z1]
def ng(l:List ae):Tag:=match l with
 |[]=>.nil
 |_=>.any
def plR(l:List ae):List AV:=[.slice (ng l) 3 (l.map ae.row)]
theorem Bm:∀ l:List ae,ft 3 l.length (pcC l)=l.map ae.row
 |[]=>rfl
 |x::l=>by
  rw [List.length_cons,show pcC (x::l)=x.row++pcC l from rfl,ft,List.map_cons,show (x.row++pcC l).drop 3=pcC l from rfl,Bm l];rfl
theorem D9:∀ l:List AV,ft 1 l.length l=l.map fun w=>[w]
 |[]=>rfl
 |x::l=>by rw [List.length_cons,ft,List.map_cons,List.drop_one,List.tail_cons,D9 l];rfl
theorem Ny{k n:Nat}{H:List AObj}(l:List ae):dY (dY (fzF (k+1) n H)) (l.map ae.row)=some (l.map ae.row):=
 Du fun x _=>gD (Fa _ _ _ _ _) (gD (M8 _ _ _ _) (gD (F3 _ _ _ _) (mJ _)))
theorem MD{k n:Nat}{G:List AObj}{w:AV}{l:List ae}(h:PcV G w l)(hf:free (fun i=>i<n) w):fzF (k+2) n G w=some (.slice (ng l) 3 (l.map ae.row)):=by
 rcases h with ⟨rfl,rfl⟩ | ⟨hne,Q,rfl,hQ⟩
 ·exact F2 (t:=.nil) (mJ _)
 ·have hn:=hf Q _ _ _ _ rfl
  have ht:ng l = .any:=by
   cases l with
   |nil=>exact absurd rfl hne
   |cons x l=>rfl
  rw [ht];exact A1 (by omega) hQ (by rw [nC];omega) (by rw [List.drop_zero,Bm];exact Ny l)
theorem Gz:∀ (l:List ae) {m:Nat}{S:CSt},CBm m S→CBm (m+Fx l) (Bk S l)
 |[],m,S,h=>by
  show CBm (m+0) S;exact h
 |x::l,m,S,h=>by
  have h1:=Gz l (Gy h x);rw [vx,szP,← Nat.add_assoc];exact h1
def Fy(l:List ae)(pos:List Int):CSt:=Bk ⟨[],[],pos,0,false,[]⟩ l
def nh(l:List ae)(pos:List Int):List (List ae):=(Fy l pos).done++[(Fy l pos).cur]
def Nz(l:List ae)(pos:List Int):AV:=.tuple [.slice .any 1 ((nh l pos).map plR),.bool (!(nh l pos).any p8)]
theorem LU(hC:lB E){l:List ae}{tg ta:Tag}{pos:List Int}(hl:l.length≤ca)(htx:∀ x∈l,x.text.length≤ca)(hta:ta = .any∨ta = .some∨pos=[]∨∃ t,ta = .own t)(hop:D7 l 0)(hm:Fx l≤50000)(H:List AObj) :
  M.run sN [.slice tg 3 (l.map ae.row),.slice ta 1 (pos.map bt)] H=some (.ret (Nz l pos),H):=by
 obtain ⟨G,hG⟩:∃ G,G=H++[AObj.cells [.slice .nil 3 []] ah,AObj.cells [.rslice H.length 0 1 1 true,.slice ta 1 (pos.map bt),.int .i64 0,.bool false,.slice .nil 1 []] aK]:=⟨_,rfl⟩
 have w0:eU (fun i=>i<H.length) (H.length+1) G ⟨[],[],pos,0,false,[]⟩:=by
  refine ⟨H.length,H.length+2,[],.slice .nil 3 [],ta,.slice .nil 1 [],⟨by omega,by omega,fun i hi=>by rw [hG];simp;omega,by rw [hG,hp_getk];rfl,by rw [hG,bg];rfl,rfl,fun i w l h=>by simp at h,.inl ⟨rfl,rfl⟩,fun Q o n e r eq=>(by cases eq),fun Q o n e r eq=>(by cases eq),by rw [hG];simp,.inl ⟨rfl,rfl⟩,fun Q o n e r eq=>(by cases eq),hta⟩⟩
 have b0:CBm 0 ⟨[],[],pos,0,false,[]⟩:=⟨Nat.le_refl _,fun s hs=>(by cases hs),Nat.le_refl _,Nat.le_refl _,fun x hx=>(by cases hx),Nat.le_refl _⟩
 obtain ⟨H1,c1,c2,c3,c4⟩:=ct1 M hC (tg:=tg) hl htx (H0:=H) l.length 0 0 G _ (by omega) w0 b0 (by rw [List.drop_zero];exact hop) (by rw [List.drop_zero];omega);rw [List.drop_zero] at c2;have hS:Bk ⟨[],[],pos,0,false,[]⟩ l=Fy l pos:=rfl;rw [hS] at c2;obtain ⟨P,q,vs,v,ta',ov,h⟩:=c2;have hlen:(vs++[v]).length=(nh l pos).length:=by simp [nh,h.len]
 have hws:∀ (i:Nat) (w:AV) (p:List ae),(vs++[v])[i]?=some w→(nh l pos)[i]?=some p→PcV H1 w p∧free (fun i=>i<H.length) w:=fun i w p hi hp=>by
  by_cases hlt:i<vs.length
  ·rw [List.getElem?_append_left hlt] at hi
   rw [nh,List.getElem?_append_left (by rw [← h.len];exact hlt)] at hp;have:=h.dn i w p hi hp;exact ⟨this.1,this.2.2⟩
  ·have hi2:i=vs.length:=by
    have:=(List.getElem?_eq_some_iff.1 hi).1;simp at this;omega
   subst hi2;rw [List.getElem?_append_right (Nat.le_refl _),Nat.sub_self,List.getElem?_cons_zero] at hi;rw [nh,List.getElem?_append_right (by rw [h.len];exact Nat.le_refl _),h.len,Nat.sub_self,List.getElem?_cons_zero] at hp;cases hi;cases hp;exact ⟨h.cr,h.pr⟩
 have hk:H1.take H.length=H:=by
  refine List.ext_getElem? fun i => ?_
  by_cases hi:i<H.length
  ·rw [List.getElem?_take_of_lt hi,c4 i hi,hG,List.getElem?_append_left hi]
  ·rw [List.getElem?_eq_none (by simp;omega),List.getElem?_eq_none (by omega)]
 have hcut:dz H H1:=⟨by have:=h.rl;rw [hG] at c3;simp at c3;omega,fun i x hi hx=>.inl (by rw [← hk,List.getElem?_take_of_lt hi];exact hx)⟩
 have hfz:Fz H.length H1 (.tuple [.rslice P 0 ((Fy l pos).done.length+1) 1 true,.bool (!(nh l pos).any p8)]) (Nz l pos):=by
  refine ⟨6,yp (gD (A1 (by have:=h.hP;omega) h.par (by simp [h.len]) ?_) (gD (F3 _ _ _ _) (mJ _)))⟩;rw [List.drop_zero,show (Fy l pos).done.length+1=(vs++[v]).length by simp [h.len],D9];refine Dv (by rw [List.length_map,List.length_map];exact hlen) fun i x y hx hy => ?_
  rw [List.getElem?_map] at hx hy;cases hxi:(vs++[v])[i]? with
  |none=>rw [hxi] at hx;cases hx
  |some w=>
   cases hyi:(nh l pos)[i]? with
   |none=>rw [hyi] at hy;cases hy
   |some p=>
    rw [hxi] at hx;rw [hyi] at hy;cases hx;cases hy;obtain ⟨g1,g2⟩:=hws i w p hxi hyi;exact gD (MD g1 g2) (mJ _)
 have hh:=sK hcut hfz;rw [hk] at hh;have hdn:=(Gz l b0).done;rw [hS] at hdn;have hlc:(Fy l pos).done.length+1=(nh l pos).length:=by rw [← hlen];simp [h.len]
 have hcf:=HR M hC (P:=P) (ws:=vs++[v]) (pl:=nh l pos) h.par hlen (by omega) fun i w p hi hp=>(hws i w p hi hp).1
 have hcl:=h.cell;rw [hlc] at hcl hh;simp only [kv_cons,kv_nil,Int.ofNat_zero] at c1;rw [hG] at c1;rw [b9 M hC.docs_cut rfl (c:=sR) rfl,sR];simp (maxSteps:=3000000) (maxDischargeDepth:=6) +contextual -implicitDefEqProofs only [amC M,↓amD,Nat.reduceBEq,Nat.reduceAdd,env,ak,jz,amG,AV.cell,Nat.reduceMul,Nat.reduceLeDiff,rnc,List.length_map,c1,hcl,cl5,hcf,hh]
end
section
attribute [local congr] aD bH aS aE aR aL aF au aw aM aN
variable{E:a8}(M:bY cC E)
theorem uv:∀ (l:List ae) (p b e:Bool) (st:List Str),uo l p b e st=0→D7 l st.length
 |[],_,_,_,_,_=>trivial
 |x::l,p,b,e,st,h=>by
  rw [uo] at h;cases h1:zk x with
  |true=>rw [h1,sel_true] at h;cases h
  |false=>
  rw [h1,sel_false] at h;cases h2:xd x with
  |true=>rw [h2,sel_true] at h;cases h
  |false=>
  rw [h2,sel_false] at h;cases h3:Cp p x with
  |true=>rw [h3,sel_true] at h;cases h
  |false=>
  rw [h3,sel_false] at h;cases h4:xf x with
  |true=>rw [h4,sel_true] at h;cases h
  |false=>
  rw [h4,sel_false] at h;cases h5:fQ b e x with
  |false=>rw [h5,sel_false] at h;cases h
  |true=>
  rw [h5,sel_true] at h;cases h6:(x.kind == 3) && !rr st x.text with
  |true=>rw [h6,sel_true] at h;cases h
  |false=>
  rw [h6,sel_false] at h;cases k3:x.kind == 3 with
  |true=>
   have k2:(x.kind == 2)=false:=by rw [eq_of_beq k3];rfl
   rw [k3,Bool.true_and,Bool.not_eq_false'] at h6;rw [k2,sel_false] at h;have hst:stP x st=st.tail:=by unfold stP;simp [k3]
   have hne:st≠[]:=fun e=>by rw [e] at h6;cases h6
   rw [hst] at h;have ih:=uv l _ _ _ _ h;refine ⟨fun _=>List.length_pos_iff.2 hne, ?_⟩;rw [if_neg (by simp [k2]),if_pos k3];rwa [List.length_tail] at ih
  |false=>
   have hst:stP x st=st:=by unfold stP;simp [k3]
   rw [hst] at h;cases k2:x.kind == 2 with
   |true=>
    rw [k2,sel_true] at h;cases h7:decide ((16:Int)<((x.text::st).length:Int)) with
    |true=>rw [h7,sel_true] at h;cases h
    |false=>
     rw [h7,sel_false] at h;have ih:=uv l _ _ _ _ h;refine ⟨fun hk=>(by rw [k3] at hk;cases hk), ?_⟩;rw [if_pos k2];exact ih
   |false=>
    rw [k2,sel_false] at h;have ih:=uv l _ _ _ _ h;refine ⟨fun hk=>(by rw [k3] at hk;cases hk), ?_⟩;rw [if_neg (by simp [k2]),if_neg (by simp [k3])];exact ih
theorem FA{l:List ae}(h:cS l=0):D7 l 0:=by
 unfold cS at h;cases hb:decide ((512:Int)<(l.length:Int)) with
 |true=>rw [hb] at h;cases h
 |false=>rw [hb,sel_false] at h;exact uv l _ _ _ [] h
theorem GA:∀ l:List ae,Fx l=6*jT l+2*l.length
 |[]=>rfl
 |x::l=>by
  rw [vx,GA l,szP,jT,jT,List.map_cons,List.sum_cons,List.length_cons];omega
def okA(n:Int):Option Int→List Int→Bool
 |_,[]=>true
 |p,k::t => !(decide (k<1))&&(!(decide (n-1<k))&&((match p with
  |none=>true
  |some q => !(decide (k≤q)))&&okA n (some k) t))
theorem uw(n:Int)(p:Option Int)(k:Int)(t:List Int):okA n p (k::t)=(!(decide (k<1))&&(!(decide (n-1<k))&&((match p with
  |none=>true
  |some q => !(decide (k≤q)))&&okA n (some k) t))):=by rw [okA.eq_def]
def prv(l:List Int)(i:Nat):Option Int:=match i with
 |0=>none
 |i+1=>l[i]?
theorem dcl{H H0:List AObj}{pos:List Int}{ta:Tag}(hl:pos.length≤1000000){v0:AV}{n2:Nat}(hn2:n2≤100000000)(hc:dz H0 H)(k:List Fra):∀ (n i:Nat) (He:List AObj),i+n=pos.length →
  M.go kO H0 (.c eD :: .lp ⟨(some [0,1,6,20,21,22]),[],false⟩ eD He :: .blk 0 :: .c (.lv [0,1])::k) (kv [(0,v0),(1,.slice ta 1 (pos.map bt)),(6,.int .i64 n2),(20,.slice ta 1 (pos.map bt)),(21,.int .i64 pos.length),(22,.int .i64 i)]) H =
   sel (okA n2 (prv pos i) (pos.drop i)) (M.go kO H0 k (kv [(0,v0),(1,.slice ta 1 (pos.map bt))]) (H)) (some (.ret (.tuple [.slice .any 1 [],.int .u8 1]),H.take H0.length))
 |0,i,He,h=>by
  have e:i=pos.length:=by omega
  subst e;rw [al M eD.eq_1];simp (maxSteps:=3000000) (maxDischargeDepth:=6) +contextual -implicitDefEqProofs only [amC M,↓amD,Nat.reduceBEq,Nat.reduceAdd,env,ak,fA,Nat.lt_irrefl,List.drop_length,okA]
 |n+1,i,He,h=>by
  have hi:i<pos.length:=by omega
  have hx:pos[i]?=some pos[i]:=List.getElem?_eq_getElem hi;have hd:(pos.drop i)=pos[i]::pos.drop (i+1):=List.drop_eq_getElem_cons hi;have hm:pos[i]∈pos:=List.getElem_mem hi;have ih:=fun He=>dcl (H:=H) (H0:=H0) (pos:=pos) (ta:=ta) (hl:=hl) (v0:=v0) (n2:=n2) (hn2:=hn2) hc k n (i+1)  He (by omega)
  simp only [kv_cons,kv_nil] at ih;have hwi:=dO (n:=pos.length) hi (by simp only [ca];omega);have hir:=aU (row:=bt) (tag:=ta) (sz:=1) (k:=.i64) hi;have hw1:IntKind.i64.wrap ((n2:Int)-1)=(n2:Int)-1:=b4 (by omega) (by omega);have hpv:prv pos (i+1)=some pos[i]:=hx;rw [hd,uw];rw [hpv] at ih;cases d1:decide (pos[i]<1) with
  |true=>
   rw [al M eD.eq_1];simp (maxSteps:=3000000) (maxDischargeDepth:=6) +contextual -implicitDefEqProofs only [amC M,↓amD,Nat.reduceBEq,Nat.reduceAdd,env,ak,fA,hi,hx,hir,ry,d1,hc,iC,wk_tuple,Bool.not_true,Bool.false_and]
  |false=>
   cases d2:decide ((n2:Int)-1<pos[i]) with
   |true=>
    rw [al M eD.eq_1];simp (maxSteps:=3000000) (maxDischargeDepth:=6) +contextual -implicitDefEqProofs only [amC M,↓amD,Nat.reduceBEq,Nat.reduceAdd,env,ak,fA,hi,hx,hir,ry,d1,hw1,d2,hc,iC,wk_tuple,Bool.not_true,Bool.not_false,Bool.true_and,Bool.false_and]
   |false=>
    cases i with
    |zero=>
     have d3:decide ((0:Int)<((0:Nat):Int))=false:=rfl;rw [al M eD.eq_1];simp (maxSteps:=3000000) (maxDischargeDepth:=6) +contextual -implicitDefEqProofs only [amC M,↓amD,Nat.reduceBEq,Nat.reduceAdd,env,ak,fA,hi,hx,hir,ry,d1,hw1,d2,d3,hwi,ih,prv,Bool.not_true,Bool.not_false,Bool.true_and,Bool.false_and]
    |succ i=>
     have hi0:i<pos.length:=by omega
     have hx0:pos[i]?=some pos[i]:=List.getElem?_eq_getElem hi0;have hir0:=aU (row:=bt) (tag:=ta) (sz:=1) (k:=.i64) hi0;have d3:decide ((0:Int)<((i+1:Nat):Int))=true:=decide_eq_true (by omega);have hw3:IntKind.i64.wrap (((i+1:Nat):Int)-1)=(i:Int):=by rw [b4 (by omega) (by omega)];omega
     have hpv0:prv pos (i+1)=some pos[i]:=hx0;rw [hpv0];cases d4:decide (pos[i+1]≤pos[i]) with
     |true=>
      rw [al M eD.eq_1];simp (maxSteps:=3000000) (maxDischargeDepth:=6) +contextual -implicitDefEqProofs only [amC M,↓amD,Nat.reduceBEq,Nat.reduceAdd,env,ak,fA,hi,hx,hx0,hir,hir0,ry,d1,hw1,d2,d3,hw3,d4,hc,iC,wk_tuple,Bool.not_true,Bool.not_false,Bool.true_and,Bool.false_and]
     |false=>
      rw [al M eD.eq_1];simp (maxSteps:=3000000) (maxDischargeDepth:=6) +contextual -implicitDefEqProofs only [amC M,↓amD,Nat.reduceBEq,Nat.reduceAdd,env,ak,fA,hi,hx,hx0,hir,hir0,ry,d1,hw1,d2,d3,hw3,d4,hwi,ih,Bool.not_true,Bool.not_false,Bool.true_and,Bool.false_and]
def ux(l:List ae)(pos:List Int):AV:=
 sel (cS l == 0) (sel (okA ((unL l).length:Int) none pos) (sel ((nh l pos).any p8) (.tuple [.slice .any 1 [],.int .u8 3]) (.tuple [.slice .any 1 ((nh l pos).map plR),.int .u8 0])) (.tuple [.slice .any 1 [],.int .u8 1])) (.tuple [.slice .any 1 [],.int .u8 (cS l)])
theorem NC(n:Nat)(l:List (List ae)):fJ n (l.map plR):=by
 rw [rowsWk_map];exact fun p _=>⟨wk_slice (by cases p<;>trivial) (JM n p),trivial⟩
theorem uy(hB:lP E)(hX:Av M)(hU:Aw E)(hN:HO E)(hC:lB E){l:Sl ae}{pos:List Int}{ta:Tag}(hsz:l.l.length+jT l.l≤2600)(hpl:pos.length≤1000000)(hta:ta = .any∨ta = .some∨pos=[]∨∃ t,ta = .own t)(H:List AObj) :
  M.run jx [.slice l.tag 3 (l.l.map ae.row),.slice ta 1 (pos.map bt)] H=some (.ret (ux l.l pos),H):=by
 have htx:∀ x∈l.l,x.text.length≤2600:=fun x hx=>by have:=zn hx;omega
 have hul:=ur l.l;have u1:=fun H=>Fv M hB hX hU hN (l:=l) (by omega) (fun x hx=>by have:=htx x hx;omega) (by omega) H
 rw [b9 M hC.docs_Cut rfl (c:=sQ) rfl,sQ];cases c0:cS l.l == 0 with
 |false=>
  have hne:¬ cS l.l=0:=by simpa using c0
  rw [lR,if_neg hne] at u1;simp (maxSteps:=3000000) (maxDischargeDepth:=6) +contextual -implicitDefEqProofs only [amC M,↓amD,Nat.reduceBEq,Nat.reduceAdd,env,ak,fA,u1,cZ,List.getElem?_cons_succ,c0,ux,iC,wk_tuple,hp_self,cut_refl]
 |true=>
  have e0:cS l.l=0:=by simpa using c0
  rw [lR,if_pos e0] at u1;have h1:=fun k He=>dcl M (ta:=ta) hpl (v0:=.slice l.tag 3 (l.l.map ae.row)) (n2:=(unL l.l).length) (by omega) (cut_refl H) k pos.length 0 He (by omega)
  simp only [kv_cons,kv_nil,Int.ofNat_zero,List.drop_zero,show prv pos 0=none from rfl] at h1;have r1:=fun H=>LU M hC (l:=l.l) (tg:=l.tag) (ta:=ta) (pos:=pos) (by simp only [ca];omega) (fun x hx=>by have:=htx x hx;simp only [ca];omega) hta (FA e0) (by rw [GA];omega) H
  unfold Nz at r1;cases c1:okA ((unL l.l).length:Int) none pos with
  |false=>
   simp only [c1,sel_false] at h1;simp (maxSteps:=3000000) (maxDischargeDepth:=6) +contextual -implicitDefEqProofs only [amC M,↓amD,Nat.reduceBEq,Nat.reduceAdd,env,ak,fA,u1,cZ,List.getElem?_cons_succ,c0,(show ((0:Int) == 0)=true from rfl),List.length_map,h1,c1,ux,hp_self]
  |true=>
   simp only [c1,sel_true] at h1;cases c2:(nh l.l pos).any p8 with
   |true=>
    simp (maxSteps:=3000000) (maxDischargeDepth:=6) +contextual -implicitDefEqProofs only [amC M,↓amD,Nat.reduceBEq,Nat.reduceAdd,env,ak,fA,u1,cZ,List.getElem?_cons_succ,c0,(show ((0:Int) == 0)=true from rfl),List.length_map,h1,c1,c2,r1,ux,iC,wk_tuple,hp_self,cut_refl]
   |false=>
    have hh:=handV_drop (cut_refl H) (wk_tuple (xs:=[.slice .any 1 ((nh l.l pos).map plR),.int .u8 0]) ⟨wk_any (esz:=1) (tag:=.any) (NC H.length _),wk_int _ _ 0,trivial⟩);simp only [anyV_tuple,hp_self] at hh;simp (maxSteps:=3000000) (maxDischargeDepth:=6) +contextual -implicitDefEqProofs only [amC M,↓amD,Nat.reduceBEq,Nat.reduceAdd,env,ak,fA,u1,cZ,List.getElem?_cons_succ,c0,(show ((0:Int) == 0)=true from rfl),List.length_map,h1,c1,c2,r1,hh,ux]
    try rfl
end
section
attribute [local congr] aD bH aS aE aR aL aF au aw aM aN
variable{E:a8}(M:bY cC E)
def mU(x:ae):List ae:=sel (x.kind == 1) ((dJ x.text).map mT) [x]
def il(l:List ae):List ae:=(l.map mU).flatten
end
section
attribute [local congr] aD bH aS aE aR aL aF au aw aM aN
variable{E:a8}(M:bY cC E)
structure xh (t:Nat) (R:Nat→Prop) (H:List AObj) (S:CSt) (q:Nat) (vs:List AV) (v ov:AV):Prop where
 rl:∀ i,R i→i<H.length
 tr:¬ R t
 tok:H[t]?=some (.tok (vs.length*1) ah)
 len:vs.length=S.done.length
 dn:∀ (i:Nat) (w:AV) (l:List ae),vs[i]?=some w→S.done[i]?=some l→PcV H w l∧below q w∧free R w
 cr:PcV H v S.cur
 ab:Gt q v
 pr:free R v
 ql:q≤H.length
 op:OpV H ov S.opn
 oa:free R ov
structure Az (R:Nat→Prop) (H H':List AObj):Prop where
 len:H.length≤H'.length
 low:∀ i,R i→H'[i]?=H[i]?
theorem Az.refl(R:Nat→Prop)(H:List AObj):Az R H H:=⟨Nat.le_refl _,fun _ _=>rfl⟩
theorem Az.trans{R:Nat→Prop}{A B C:List AObj}(h:Az R A B)(k:Az R B C):Az R A C:=⟨Nat.le_trans h.len k.len,fun i hi=>(k.low i hi).trans (h.low i hi)⟩
theorem xh.turned{t:Nat}{R:Nat→Prop}{H H2:List AObj}{S:CSt}{q:Nat}{vs:List AV}{v w ov:AV}(h:xh t R H S q vs v ov){cur:List ae}(hlen:H.length≤H2.length)(hs:∀ (i:Nat) (y:AObj),H[i]?=some y→(∀ Q,v = .rslice Q 0 S.cur.length 3 true→i≠Q)→H2[i]?=some y)
  (hw:PcV H2 w cur) (hwa:Gt q w) (hwf:free R w):xh t R H2 { S with cur:=cur } q vs w ov∧Az R H H2:=by
 have nq:∀ (i:Nat) (y:AObj),H[i]?=some y→(∀ cs,y≠.cells cs ag)→∀ Q,v = .rslice Q 0 S.cur.length 3 true→i≠Q:=fun i y hi hy Q e ei=>by
  obtain ⟨ds,hd⟩:=D1 h.cr e;subst ei;rw [hi] at hd;cases hd;exact hy ds rfl
 refine ⟨⟨fun i hi=>Nat.lt_of_lt_of_le (h.rl i hi) hlen,h.tr,hs t _ h.tok (nq t _ h.tok fun cs e=>by cases e),h.len,fun i w' l hi hl => ?_,hw,hwa,hwf,Nat.le_trans h.ql hlen,h.op.stay fun O cs hO=>hs O _ hO (nq O _ hO fun ds e=>by injection e with _ e;exact zq e),h.oa⟩,⟨hlen,fun i hi => ?_⟩⟩
 ·obtain ⟨h1,h2,h3⟩:=h.dn i w' l hi hl
  refine ⟨h1.stay fun Q cs e hQ=>hs Q _ hQ fun Q' e' ei => ?_,h2,h3⟩;have a1:=h2 Q _ _ _ _ e;have a2:=h.ab Q' _ _ _ _ e';omega
 ·have hin:=h.rl i hi
  rw [List.getElem?_eq_getElem hin];exact hs i _ (List.getElem?_eq_getElem hin) fun Q e ei=>h.pr Q _ _ _ _ e (ei ▸ hi)
theorem xh.more{t:Nat}{R:Nat→Prop}{H:List AObj}{S:CSt}{q:Nat}{vs:List AV}{v ov:AV}(h:xh t R H S q vs v ov)(hl:S.cur.length≤100000000)(p:ae) :
  ∃ w G,rap true H ag 3 32 false v (.slice .full 3 [p.row])=some (w,G)∧xh t R G { S with cur:=S.cur++[p] } q vs w ov∧Az R H G:=by
 obtain ⟨G,a1,a2,a3,a4⟩:=MB h.cr hl p
 obtain ⟨b1,b2⟩:=h.turned (H2:=G) (cur:=S.cur++[p]) (w:=.rslice H.length 0 (S.cur.length+1) 3 true) (by omega) (fun i y hi hne=>by
  rw [a4 i (List.getElem?_eq_some_iff.1 hi).1 hne];exact hi) (.inr ⟨by simp,H.length,by simp,a2⟩) (fun Q o n e r eq=>by cases eq;exact h.ql) (fun Q o n e r eq hR=>by cases eq;have:=h.rl _ hR;omega)
 exact ⟨_,G,a1,b1,b2⟩
theorem HS{H:List AObj}{v:AV}{l:List ae}(h:PcV H v l):v.strip=v:=by
 rcases h with ⟨rfl,rfl⟩ | ⟨_,Q,rfl,_⟩<;>rfl
theorem xh.push{t:Nat}{R:Nat→Prop}{H:List AObj}{S:CSt}{q:Nat}{vs:List AV}{v ov:AV}(h:xh t R H S q vs v ov)(hd:S.done.length≤100000000) :
  rap false H ah 1 24 false (.slice (.own t) 1 (vs.map Gn)) (.slice .full 1 [[v]])=some (.slice (.own t) 1 ((vs++[v]).map Gn),H.set t (.tok ((vs++[v]).length*1) ah)) ∧
   xh t R (H.set t (.tok ((vs++[v]).length*1) ah)) { S with done:=S.done++[S.cur],cur:=[] } H.length (vs++[v]) (.slice .nil 3 []) ov∧Az R H (H.set t (.tok ((vs++[v]).length*1) ah)):=by
 have htl:=(List.getElem?_eq_some_iff.1 h.tok).1
 have hs:∀ {i:Nat}{cs:List AV}{T:TypeId},H[i]?=some (.cells cs T)→(H.set t (.tok ((vs++[v]).length*1) ah))[i]?=some (.cells cs T):=fun {i cs T} hi=>by
  rw [List.getElem?_set_ne (fun e=>by subst e;have:=h.tok;rw [hi] at this;cases this)];exact hi
 have hvs:=h.len;refine ⟨Mz (row:=Gn) (l:=vs) (x:=v) (r:=[v]) (sz:=1) (bytes:=24) h.tok rfl (by simp [(D0 h.cr).1]) (by simp [HS h.cr,Gn]) (by omega) (by omega),⟨fun i hi=>by simpa using h.rl i hi,h.tr,List.getElem?_set_self htl,by simp [hvs],fun i w l hi hl => ?_,.inl ⟨rfl,rfl⟩,fun Q o n e r eq=>(by cases eq),fun Q o n e r eq=>(by cases eq),by simp,h.op.stay fun O cs hO=>hs hO,h.oa⟩,⟨by simp,fun i hi=>List.getElem?_set_ne (fun e:t=i=>h.tr (by rw [e];exact hi))⟩⟩
 by_cases hlt:i<vs.length
 ·rw [List.getElem?_append_left hlt] at hi
  rw [List.getElem?_append_left (by omega)] at hl;obtain ⟨d1,d2,d3⟩:=h.dn i w l hi hl;exact ⟨d1.stay fun Q cs _ hQ=>hs hQ,fun Q o n e r eq=>Nat.lt_of_lt_of_le (d2 Q o n e r eq) h.ql,d3⟩
 ·have hi2:i=vs.length:=by
   have:=(List.getElem?_eq_some_iff.1 hi).1;simp at this;omega
  subst hi2;rw [List.getElem?_append_right (Nat.le_refl _),Nat.sub_self,List.getElem?_cons_zero] at hi;rw [List.getElem?_append_right (by omega),show vs.length-S.done.length=0 by omega,List.getElem?_cons_zero] at hl;cases hi;cases hl;refine ⟨h.cr.stay fun Q cs _ hQ=>hs hQ,fun Q o n e r eq => ?_,h.pr⟩;rcases h.cr with ⟨_,hv⟩ | ⟨_,Q',hv,hQ⟩
  ·rw [hv] at eq;cases eq
  ·rw [hv] at eq;cases eq;exact dy hQ
end
section
attribute [local congr] aD bH aS aE aR aL aF au aw aM aN
variable{E:a8}(M:bY cC E)
theorem xh.open{t:Nat}{R:Nat→Prop}{H:List AObj}{S:CSt}{q:Nat}{vs:List AV}{v ov:AV}(h:xh t R H S q vs v ov)(hl:S.opn.length≤100000)(s:Str) :
  ∃ w G,rap true H aI 1 16 false ov (.slice .full 1 [[.str s]])=some (w,G)∧xh t R G { S with opn:=S.opn++[s] } q vs v w∧Az R H G:=by
 obtain ⟨w,G,a1,a2,a3,a4,a5,a6,a7⟩:=MC h.op h.oa h.rl (by omega) s
 have tk:G[t]?=some (.tok (vs.length*1) ah):=by
  have htok:=h.tok
  have:∀ O,ov≠.rslice O 0 S.opn.length 1 true∨t≠O:=fun O=>by
   rcases h.op with ⟨_,e⟩ | ⟨O',junk,e,hO⟩
   ·left;rw [e];intro h;cases h
   ·by_cases ht:t=O
    ·left;rw [e];intro h2;cases h2;rw [ht,hO] at htok;cases htok
    ·exact .inr ht
  rcases h.op with ⟨e0,e⟩ | ⟨O',junk,e,hO⟩
  ·rw [e] at a1
   simp only [rap,kE,mF,or_true,if_true,iS] at a1;rw [if_pos (by simp)] at a1;cases a1;exact dc htok
  ·rw [e] at a1
   have hlen:S.opn.length*1≤(fX S.opn++junk).length:=by rw [List.length_append,fR];omega
   simp only [rap,kE,mF,or_true,if_true,iS,hO] at a1;rw [if_pos ⟨trivial,trivial,hlen,by simp;omega,by simp;omega⟩] at a1;cases a1;have htl:=(List.getElem?_eq_some_iff.1 htok).1;rw [List.getElem?_append_left (by simp;omega),List.getElem?_set_ne (fun e=>by subst e;rw [hO] at htok;cases htok)];exact htok
 exact ⟨w,G,a1,⟨fun i hi=>by have:=h.rl i hi;have:=a6.len;omega,h.tr,tk,h.len,fun i w' l hi hl=>⟨(h.dn i w' l hi hl).1.stay fun Q cs _ hQ=>a7 Q _ _ hQ zq.symm,(h.dn i w' l hi hl).2⟩,h.cr.stay fun Q cs _ hQ=>a7 Q _ _ hQ zq.symm,h.ab,h.pr,by have:=h.ql;have:=a6.len;omega,a2,a3⟩,⟨a6.len,a6.low⟩⟩
def rz(pos:List Int)(S:CSt)(x:ae):Bool:=decide (S.done.length<pos.length)&&(((S.place:Int) == pos.getD S.done.length 0) && !(x.kind == 3))
def mV(S:CSt):CSt := { S with done:=S.done++[S.cur++S.opn.reverse.map fS],cur:=S.opn.map eG }
def AA(S1:CSt)(x:ae):CSt := { S1 with opn:=cY S1.opn x,place:=sel ((x.kind == 1)||(x.kind == 5)) (S1.place+1) S1.place,cur:=bN S1.cur x }
def mW(pos:List Int)(S:CSt)(x:ae):CSt:=AA (sel (rz pos S x) (mV S) S) x
end
section
attribute [local congr] aD bH aS aE aR aL aF au aw aM aN
variable{E:a8}(M:bY cC E)
end
section
attribute [local congr] aD bH aS aE aR aL aF au aw aM aN
variable{E:a8}(M:bY cC E)
theorem GB{H0 H:List AObj}(hc:dz H0 H)(n:Nat)(e:Int):oe cC .deep H0 H (.tuple [.slice .nil n [],.int .u8 e])=some (.tuple [.slice .nil n [],.int .u8 e],H.take H0.length):=by
 rw [sK hc ⟨5,yp (gD (F2 (t:=.nil) (mJ _)) (gD (Fa _ _ _ _ _) (mJ _)))⟩];rfl
def LV(l:List ae)(pos:List Int):CSt:=(il l).foldl (mW pos) ⟨[],[],[],0,false,[]⟩
def ND(l:List ae)(pos:List Int):List (List ae):=(LV l pos).done++[(LV l pos).cur]
end
end Go.Am
